/- Quoted holds of every text that is quoted, every text, any place; no condition. -/
import Derived.Carry
import Derived.Laws.CopyRow
import Derived.Shelf.Strings.BuilderK
import Derived.Shelf.Strings.Search1
import Derived.Test.YtkgohmcmmcpigabGreatDoorW08
set_option linter.all false
set_option maxHeartbeats 8000000
set_option maxRecDepth 100000
namespace Go.Proofs.YtkgohmcmmcpigabGreatDoor
open Go
open Go.Lib renaming hid->AI,indexByte->Td,byteCells->Tj,hasPrefix->Ts,index->TI,cut->U0
open _root_.List renaming mem_singleton->Sv,not_mem_nil->Sw,replicate->SC,length_cons->SD,cons_append->SG,range'->SH,append_toArray->SO,nil_append->SQ,size_toArray->SR,push_toArray->SS,length_nil->SV,mem_cons->SX,getElem_cons_zero->SZ,getElem_cons_succ->T0,getElem_toArray->T4,getElem?_eq_getElem->Tb,getD_eq_getElem?_getD->Tc,mem_cons_of_mem->Th,take_succ_cons->Tk,drop_succ_cons->Tl,mem_cons_self->Tm,append_assoc->Tp,append_nil->Tv,length_append->Tx,getElem?_take->Ty,range->TD,getElem?_cons_zero->TF,getElem?_cons_succ->TG,mem_append->TH,take_of_length_le->TJ,drop_eq_nil_of_le->TK,getElem?_toArray->TP,getElem?_drop->TX
open Go.Act renaming put->Sx
open _root_.Nat renaming le_refl->Sz,lt_of_lt_of_le->SY,reduceSub->T5,reduceAdd->T6,le_trans->T7,zero_le->Ta,min->TN,lt_irrefl->TQ,lt_succ_self->U7
open _root_.Or renaming inl->SE,inr->Tf
open _root_.Array renaming replicate_zero->SL,replicate_succ->SM,getElem?_eq_some_iff->Te,map_append->U8
open Go renaming World->SN,Value->Tn
open _root_.Int renaming le_refl->T8,toNat_natCast->U3
open _root_.Bool renaming and_eq_true->Tg,or_eq_true->Tw,true_and->TU,eq_false_iff->U4
open _root_.Option renaming map_eq_some_iff->Tq
open _root_.ByteArray renaming size_extract->Tr,size_append->Tu,ext->TR
open Go.Value renaming int->Su,bool->SU,pointer->AS,slice->SI,string->SJ,iface->SW,tuple->T9,nilIface->TW
open Go.OpenSpec renaming ofChange->TC
open Go.World renaming putObj_heap_other->TE
open _root_.UInt8 renaming toNat_lt->TL,ofNat->U5,toNat_inj->U9
open Go.Builtin renaming copy_->TS
open Go.Region renaming ready->TV,wanted->Uj
open Go.Exit renaming inBlock->TY
open _root_.Decidable renaming em->TZ
open Go.Oper renaming semAt_some->Ua,wp->Uc
open Go.NoPanic renaming normal->Ud
open Go.IntKind renaming i64->Sy,u64->SK,u8->Ti,u32->Tt
open Go.Ending renaming returned->SF
open Go.Obj renaming cells->SP
section
open Go.RowKit
attribute [local go_sem] Ua
def FK{P c Q n}{S R:SN->Prop}{g b a w}(i d v f args){m}(t:c[i]?=some m)(u:m.dst=some d)(p:Uj m (yielded c a.tmps)=true)(q:TV n c b=[i])
 (l:(execOp a.eval m).run P w= .ok (.enter f args) w) (s:Calls P f args w λe k=>e=SF v/\R k)
 (h:∀k,R k->S k/\wpAnyH P n c Q S g (b.setIfInBounds i true) (a.put (some d) v) k):wpAnyH P n c Q S (g+1) b a w:=
 wpAnyH_all q (by simp) λj r=>by
  obtain rfl:=Sv.1 r;simp[wpOp,t,if_pos p];refine .inl ?_;simp[Uc,l];refine Calls.mono s ?_;grind
def Jt{M k l m d i j}(hs:M.s.size<=300)(b:i<=M.s.size)(a:(dI M k l m d i).testBit j=true)(e:i<j\/(d:Int)<l):
 ∃c,df (λc=>(decide (i<c)||decide ((d:Int)<l))&& (dI M k l m (bS l m d) c).testBit j) (bv M k i) 320=some c:=by
 cases h:df (λc=>(decide (i<c)||decide (d<l))&& (dI M k l m (bS l m d) c).testBit j) (bv M k i) 320 with
 |some c=>exact⟨c,rfl⟩
 |none=>
  rw[oX]at h;rw[Bd b hs,Nat.testBit_or,Tw]at a;rcases a with a|a
  split at a;rw[tN,decide_eq_true_eq]at a;omega;grind
  grind [pd]
def Gs(A n)(h:A.size=n):A=((TD n).map λi=>A.getD i undef).toArray:=by
 subst h;refine Array.ext (by simp) λi a b=> ?_
 simp_all
def OU(w t q m i j):
 Caps (((((w.alloc (SP #[AS (some ⟨q,0,none⟩)] t)).alloc (SP #[AS (some ⟨m,0,none⟩)] 142)).alloc (SP #[Su Sy i] 3)).alloc (SP #[Su Sy j] 3)).alloc (SP #[Su Sy 0] 3)) w.heap.size (w.heap.size+1+1) (w.heap.size+1) (w.heap.size+1+1+1) t q m i j/\
 a7 (((((w.alloc (SP #[AS (some ⟨q,0,none⟩)] t)).alloc (SP #[AS (some ⟨m,0,none⟩)] 142)).alloc (SP #[Su Sy i] 3)).alloc (SP #[Su Sy j] 3)).alloc (SP #[Su Sy 0] 3)) (w.heap.size+1+1+1+1) 3 #[Su Sy (0:Nat)]/\
 Kq w.heap.size [] w (((((w.alloc (SP #[AS (some ⟨q,0,none⟩)] t)).alloc (SP #[AS (some ⟨m,0,none⟩)] 142)).alloc (SP #[Su Sy i] 3)).alloc (SP #[Su Sy j] 3)).alloc (SP #[Su Sy 0] 3)):=by
 have⟨a,e⟩:=Ll w t q m i j;have b:∀(W:SN)(t c)(n:Nat),W.heap.size=n->a7 (W.alloc (SP c t)) n t c:=λW t c n h=>h▸a7.new W t c
 exact⟨a.kq ((Kq.refl _).alloc (Sz _) _) λg d=>⟨a.lt g d,Sw⟩,b _ _ _ _ (by simp),e.alloc (Sz _) _⟩
def CU{E}(hE:fu E){g G}(hG:lL E g G){id l m k}(hk:gy E k)(hwk:WalkC E g G k)(hn:Nd.rep id k l m∈subs E.R):WalkC E g G (.rep id k l m):=by
 intro w q i j L hM hR hi N hL hg;have hj:=(bZ E.M _ i hi j N).2;rw[yK]at N;rw[de];show Calls PM 244 ..;have hl:=hE.rep id k l m hn;have hrest:=λ(d i:Nat)(h:d<1900000)=>uo hE hk hn ((l-d).toNat+(E.M.s.size-i)+1) d i (U7 _)
 have hsz:=hE.size;obtain⟨v,hB,hSq,hRk⟩:∃v,a7 w q 279 #[Su Sy id,v,Su Sy l,Su Sy m]/\E.S q/\Repr w E.S v k:=by
  cases hR with
  |rep a b c=>exact⟨_,b,a,c⟩
 obtain⟨p,rfl⟩:=ed hRk;obtain⟨hc,b8,k1⟩:=OU w 277 q E.m i j;have W0:WS E g (.rep id k l m) q w _ L i j:=⟨(WB.start hE hM hR hg).own (X:=[]) (Sz _) (λ_ h=>nomatch h) k1,hc⟩;replace W0:=AI W0;replace b8:=AI b8;replace N:=AI N;replace hrest:=AI hrest;have hB':=AI hB;have hRk':=AI hRk;have A:=fN k ⟨p,0,none⟩;have h2:=gu k ⟨p,0,none⟩;have h3:=i9 k;have h4:=jD k ⟨p,0,none⟩;have h5:=kC k ⟨p,0,none⟩;have h6:=walk_call k;refine callsIn_wide (n:=4).1 (callsIn_of_wp_marks (PM.func Tryz.func244 (by decide)) rfl trivial ?_ rfl);simp only[Tryz.ntmps244,SR,SD,SV,T6,T5,SM,SL,SS,SO,SQ,SG];refine wpIn_wide.2 ?_;go_wp2;generalize World.alloc .. =W1 at W0 b8 ⊢;refine wp_loop_ghost_k (λn a W=>∃(d z D:Nat)(L':Sp),(l-d).toNat+(E.M.s.size-z)<n/\d+n<=1500000/\(a.tmps.size=65/\a.tmps.getD 0 undef=AS (some ⟨q,0,none⟩)/\a.tmps.getD 1 undef=AS (some ⟨E.m,0,none⟩)/\a.tmps.getD 2 undef=Su Sy i/\a.tmps.getD 3 undef=Su Sy j/\a.tmps.getD 4 undef=AS (some ⟨w.heap.size,0,none⟩)/\a.tmps.getD 5 undef=AS (some ⟨w.heap.size+1,0,none⟩)/\a.tmps.getD 6 undef=AS (some ⟨w.heap.size+1+1,0,none⟩)/\a.tmps.getD 7 undef=AS (some ⟨w.heap.size+1+1+1,0,none⟩)/\a.tmps.getD 8 undef=AS (some ⟨D,0,none⟩))/\WS E g (.rep id k l m) q w W L' z j/\w.heap.size+1+1+1<D/\a7 W D 3 #[Su Sy d]/\Marks w.heap.size a.defers W/\(dI E.M k l m d z).testBit j=true/\z<=E.M.s.size/\L'.length=G+1/\dH (jJ E.M k l m (de E.M k) j n d z) L'=dH (jJ E.M k l m (de E.M k) j (l.toNat+400) 0 i) L) (l.toNat+400) ?_ ?_
 .exact⟨0,i,_,L,by simp;omega,by omega,⟨rfl,rfl,rfl,rfl,rfl,rfl,rfl,rfl,rfl,rfl⟩,W0.out,by omega,b8.out,trivial,N.out,hi,hL,rfl⟩
 rintro n ⟨tm,ds⟩ W ⟨d,z,D,L',hlt,hdn,⟨hs65,t0,t1,t2,t3,t4,t5,t6,t7,t8⟩,hWS,hD,hB8,hMk,hbit,hi',hL',hfin⟩ U2 K hJ hK;have⟨X,hX⟩:∃X:Nat->Tn,(λi=>tm.getD i undef)=X:=⟨_,rfl⟩;have hX':∀i,tm.getD i undef=X i:=λi=>congrFun hX i
 have htm:tm=#[X 0,X 1,X 2,X 3,X 4,X 5,X 6,X 7,X 8,X 9,X 10,X 11,X 12,X 13,X 14,X 15,X 16,X 17,X 18,X 19,X 20,X 21,X 22,X 23,X 24,X 25,X 26,X 27,X 28,X 29,X 30,X 31,X 32,X 33,X 34,X 35,X 36,X 37,X 38,X 39,X 40,X 41,X 42,X 43,X 44,X 45,X 46,X 47,X 48,X 49,X 50,X 51,X 52,X 53,X 54,X 55,X 56,X 57,X 58,X 59,X 60,X 61,X 62,X 63,X 64]:=by
  have:=Gs tm 65 hs65;rw[hX]at this;exact this
 rw[hX']at t0 t1 t2 t3 t4 t5 t6 t7 t8;rw[t0,t1,t2,t3,t4,t5,t6,t7,t8]at htm;rw[htm];obtain⟨f,rfl⟩:∃f,n=f+1:=⟨n-1,by omega⟩;have hWS0:=AI hWS;have hMk0:=AI hMk;have hB0:=AI hB8;have hDlt:=hB8.lt;have v2:=hWS.caps.b2.cell 0;have v4:=hWS.caps.b4.cell 0;have v1:=hWS.caps.b1.cell 0;have v3:=hWS.caps.b3.cell 0;have v8:=hB8.cell 0;have hBq:=(hWS.wb.old hE hG q hSq).trans hB'.out;have v9:W.cell? ⟨q,2,none⟩=some (Su Sy l):=a7.cell hBq 2;have v7:W.cell? ⟨q,1,none⟩=some (SW (bn k) (AS (some ⟨p,0,none⟩))):=a7.cell hBq 1;replace hfin:=AI hfin;replace hbit:=AI hbit;replace hlt:=AI hlt;by_cases F:z<j\/(d:Int)<l
 .have⟨cc,hcc⟩:=Jt hE.size hi' hbit.out F;have hff:=hfin.out;rw[jJ,if_pos F,hcc,yG]at hff;obtain⟨qf,hqf⟩:∃qf:Nat->Bool,(λc=>(decide (z<c)||decide ((d:Int)<l))&& (dI E.M k l m (bS l m d) c).testBit j)=qf:=⟨_,rfl⟩;rw[hqf]at hcc;replace hqf:=AI hqf;replace hff:=AI hff;replace hcc:=AI hcc;rcases(TZ (z<j)).imp AI AI with hij|hij
  case' inl=>
   have e1:decide (z<j)=true:=decide_eq_true hij.out
  case' inr=>
   have e1:decide (z<j)=false:=decide_eq_false hij.out;have e2:decide ((d:Int)<l)=true:=decide_eq_true (F.resolve_left hij.out)
  all_goals
   replace F:=AI F;go_wp2;go_quiet (fail)
   have H:Kq W.heap.size [] W (W.drewN nq):=(Kq.refl W).drewN nq;have hW3:=(hWS0.out.boxes (w.heap.size+1+1+1) (by simp)).1;have S1:=hWS0.out.own (X:=[]) hW3 (λ_ h=>nomatch h) H;have M1:=hMk0.out.stay hMk0.out (X:=[]) (λ_ h=>nomatch h) H;have B1:a7 (W.drewN nq) D 3 #[Su Sy d]:=hB0.out;replace v1:=(show(W.drewN nq).cell? _=_ from v1);replace v2:=(show(W.drewN nq).cell? _=_ from v2);replace v3:=(show(W.drewN nq).cell? _=_ from v3);replace v7:=(show(W.drewN nq).cell? _=_ from v7);have hDlt1:D<(W.drewN nq).heap.size:=hDlt;have z3:w.heap.size+1+1+1<(W.drewN nq).heap.size:=hW3;generalize W.drewN nq=W1 at *;have H:Kq W1.heap.size [] W1 W1.drew:=(Kq.refl W1).drew;replace S1:=S1.own (X:=[]) z3 (λ_ h=>nomatch h) H;replace M1:=M1.stay M1 (X:=[]) (λ_ h=>nomatch h) H;replace B1:a7 W1.drew D 3 #[Su Sy d]:=B1;have hRk1:=hRk'.out.keep (w':=W1.drew) λb N _=>S1.wb.old hE hG b N
   have hC:=AI (hk W1.drew p z S1.wb.mem hRk1 hi');replace S1:=AI S1;replace M1:=AI M1;replace B1:=AI B1;replace hRk1:=AI hRk1;go_wp2;go_still_tail 6,(by kernel_rfl)
   change wpList _ _ _ _ _ W1.drew;go_wp2;refine hC.out.mono ?_;rintro e w2 ⟨rfl,hM2,k2⟩;have S2:=AI (S1.out.asked hE hG hM2 k2);have hr:=S1.out.wb.new.2.1;have B2:=AI (B1.out.kq k2 B1.out.lt λC=>by have:=Sv.1 C;omega);have M2:=AI (M1.out.stay M1.out (λx C=>by rw[Sv.1 C];exact S1.out.wb.mem.fC) k2);have hDl2:=B2.out.lt;try clear e2
   go_wp2;have hw:=AI (bZ E.M k z hi');have⟨P,hP⟩:∃P,bv E.M k z=P:=⟨_,rfl⟩;rw[hP]at hw;have T:=hcc.out;rw[hP]at T;replace T:=AI T;replace hP:=AI hP;rw[hP.out];have hps:=AI (j4.1 T.out);refine wpIn_wide (n:=4).1 (qe (X:=[E.r,g,w.heap.size+1+1]) (t:=32) (p:=P) (by decide) rfl ?_
    (λc y=>df qf P c=some cc/\WS E g (.rep id k l m) q w y L' z j/\a7 y D 3 #[Su Sy d]/\Marks w.heap.size ds y)
    (λx c y=>x= .exit 2/\c=cc/\WS E g (.rep id k l m) q w y (dH (de E.M k z cc) L') cc j/\a7 y D 3 #[Su Sy d]/\Marks w.heap.size ds y) ?_ ?_ ?_ ?_ ?_ ?_ ?_ ?_ ?_)
   case refine_7=>
    intro ll c y K hK;gi_wp2
    exact hK
   case refine_1=>
    intro x C;have A:=S2.out.wb.new;have h2:=S2.out.wb.kq.kp.1;simp only[SX,Sw,or_false]at C;omega
   case refine_2=>
    rintro c y W'' ⟨A,h2,h3,h5⟩ M;exact⟨A,h2.own (X:=[]) (by omega) (λ_ h=>nomatch h) M,h3.kq M (by omega) Sw,h5.stay M2.out (X:=[]) (λ_ h=>nomatch h) M⟩
   case refine_3=>
    rintro x c y W'' ⟨A,h2,h3,h4,h5⟩ M;exact⟨A,h2,h3.own (X:=[]) (by omega) (λ_ h=>nomatch h) M,h4.kq M (by omega) Sw,h5.stay M2.out (X:=[]) (λ_ h=>nomatch h) M⟩
   case refine_4=>
    rintro c y ⟨A,h2⟩ N;rw[df,if_neg (by rw[N];simp)]at A;exact⟨A,h2⟩
   case refine_5=>exact⟨T.out,S2.out,B2.out,M2.out⟩
   case refine_9=>
    rintro y ⟨A,_⟩ _;cases A
   case refine_10=>
    rintro _ c y hk1 N ⟨rfl,rfl,h3,hb8,h4⟩ hDm;have hcs:=(hw.out c N);have hstep:z<c\/(d:Int)<l:=by
     have:=hps.out.2.2.1;rw[<- congrFun hqf.out c,Tg,Tw,decide_eq_true_eq,decide_eq_true_eq]at this;exact this.1
    have I:=hps.out.2.2.1;rw[<- congrFun hqf.out c,Tg]at I;replace I:=AI I.2;replace hstep:=AI hstep;have kA:Kq y.heap.size [] y (y.alloc (SP #[Su Sy d] 3)):=(Kq.refl y).alloc (Sz _) _;have kB:Kq y.heap.size [] y (y.alloc (SP #[Su Sy (bS l m d:Nat)] 3)):=(Kq.refl y).alloc (Sz _) _;have nB:a7 (y.alloc (SP #[Su Sy d] 3)) y.heap.size 3 #[Su Sy d]:=a7.new y ..;have nB2:a7 (y.alloc (SP #[Su Sy (bS l m d:Nat)] 3)) y.heap.size 3 #[Su Sy (bS l m d:Nat)]:=a7.new y ..;have hDl:=hb8.lt;have S3:=h3.own (X:=[]) (by omega) (λ_ h=>nomatch h) kA;have S4:=h3.own (X:=[]) (by omega) (λ_ h=>nomatch h) kB;have hBq2:=(S3.wb.old hE hG q hSq).trans hB'.out;have hA:=AI (o9 hBq2 (by omega:d<2000000));have u1:=S3.caps.b1.cell 0;have u8:=nB.cell 0;have u9:=hb8.cell 0;have uf:=nB.frozen;have M3:=h4.stay h4 (X:=[]) (λ_ h=>nomatch h) kB;have hDm2:=(kB.kp.2 _ (Te.1 hDm).1 Sw).trans hDm;replace S4:=AI S4;replace M3:=AI M3;replace nB2:=AI nB2;replace hDm2:=AI hDm2;refine wpIn_wide.2 ?_;go_wp2;refine hA.out.mono ?_;rintro e u ⟨rfl,hu⟩;subst u;go_wp2;have hl0:=hlt.out;have hs0:=hstep.out;refine Handed.intro f (U7 f) (hJ _ _ _ ⟨bS l m d,c,y.heap.size,dH (de E.M k z c) L',by unfold bS;split <;>omega,by unfold bS;split <;>omega,⟨rfl,rfl,rfl,rfl,rfl,rfl,rfl,rfl,rfl,rfl⟩,S4.out,by omega,nB2.out,⟨⟨w2.heap.size,rfl,by omega,hDm2.out,λd' hd' e=> ?_⟩,M3.out⟩,I.out,hcs.2,by rw[oZ];exact hL',hff.out⟩);rw[e]at hd';exact TQ _ (M2.out.lt _ hd')
   case refine_8=>
    rintro ll c y hltW hk1 N ⟨A,h2,h3,h5⟩;rw[df]at A;have hcs:=hw.out c N;have H:Kq y.heap.size [] y y.drew:=(Kq.refl _).drew;have hDl:=h3.lt;have s:WS E g (.rep id k l m) q w y.drew L' z j/\a7 y.drew D 3 #[Su Sy d]/\Marks w.heap.size ds y.drew:=⟨h2.own (X:=[]) (by omega) (λ_ h=>nomatch h) H,h3,h5.stay h5 (X:=[]) (λ_ h=>nomatch h) H⟩;replace A:=AI A;replace H:=AI H;have hL3:∀{K U1 Yx},¬ LetsOut (Exit.then K (TY 3 (jY [E.r,g,w.heap.size+1+1] y U1 Yx))):=λ⟨_,_,h⟩=>h
    gi_wp2
    have hzd:y.drew.heap.size=y.heap.size:=rfl;have hBq6:=(s.1.wb.old hE hG q hSq).trans hB'.out;have htri:Hid (z<c)\/(Hid (¬ z<c)/\Hid ((d:Int)<l))\/Hid ¬ z<c/\Hid ¬ (d:Int)<l:=by
     rcases TZ (z<c)with h|h
     .exact .inl (AI h)
     .rcases TZ ((d:Int)<l)with h'|h'
      .exact .inr (.inl ⟨AI h,AI h'⟩)
      .exact .inr (.inr ⟨AI h,AI h'⟩)
    rcases htri with t1|⟨t1,t2⟩|⟨t1,t2⟩
    case' inl=>
     have e1:decide (z<c)=true:=decide_eq_true t1.out;refine gO (S:=λu=>WS E g (.rep id k l m) q w u L' z j/\a7 u D 3 #[Su Sy d]/\Marks w.heap.size ds u) (by kernel_rfl) hL3 (by kernel_rfl) ?_;show wpAnyH _ _ _ _ _ 22 _ _ y.drew;generalize y.drew=W6 at s H hzd hBq6 ⊢;refine takeD 0 33 (Su Sy c) rfl rfl (by kernel_rfl) (by kernel_rfl) (by kernel_rfl) (λ_ _ _ h=>h) (SE ⟨by rfl,λB r=> ?_⟩) s ?_
     .skip
      go_simp
     simp only[Sx,zq0];refine takeD 1 34 (Su Sy z) rfl rfl (by kernel_rfl) (by kernel_rfl) (by kernel_rfl) (λ_ _ _ h=>h) (SE ⟨by rfl,λB r=> ?_⟩) s ?_
     .have A:=r.1.caps.b2.cell 0;go_simp
     simp only[Sx,zq0];refine takeD 2 35 (SU true) rfl rfl (by kernel_rfl) (by kernel_rfl) (by kernel_rfl) (λ_ _ _ h=>h) (SE ⟨by rfl,λB r=> ?_⟩) s ?_
     .have A:=e1;go_simp
     simp only[Sx,zq0];refine takeD 3 36 (SU true) rfl rfl (by kernel_rfl) (by kernel_rfl) (by kernel_rfl) (λ_ _ _ h=>h) (SE ⟨by rfl,λB r=> ?_⟩) s ?_
     .skip
      go_simp
     simp only[Sx,zq0];refine takeD 4 37 undef rfl rfl (by kernel_rfl) (by kernel_rfl) (by kernel_rfl) (λ_ _ _ h=>h) (Tf ⟨by rfl,rfl⟩) s ?_;simp only[Sx,zq0];refine takeD 5 38 undef rfl rfl (by kernel_rfl) (by kernel_rfl) (by kernel_rfl) (λ_ _ _ h=>h) (Tf ⟨by rfl,rfl⟩) s ?_;simp only[Sx,zq0];refine takeD 6 39 undef rfl rfl (by kernel_rfl) (by kernel_rfl) (by kernel_rfl) (λ_ _ _ h=>h) (Tf ⟨by rfl,rfl⟩) s ?_;simp only[Sx,zq0];refine takeD 7 40 undef rfl rfl (by kernel_rfl) (by kernel_rfl) (by kernel_rfl) (λ_ _ _ h=>h) (Tf ⟨by rfl,rfl⟩) s ?_;simp only[Sx,zq0];refine takeD 8 41 undef rfl rfl (by kernel_rfl) (by kernel_rfl) (by kernel_rfl) (λ_ _ _ h=>h) (Tf ⟨by rfl,rfl⟩) s ?_;simp only[Sx,zq0];refine takeD 9 42 undef rfl rfl (by kernel_rfl) (by kernel_rfl) (by kernel_rfl) (λ_ _ _ h=>h) (Tf ⟨by rfl,rfl⟩) s ?_;simp only[Sx,zq0]
    case' inr.inl=>
     have e1:decide (z<c)=false:=decide_eq_false t1.out;have e2:decide ((d:Int)<l)=true:=decide_eq_true t2.out;refine gO (S:=λu=>WS E g (.rep id k l m) q w u L' z j/\a7 u D 3 #[Su Sy d]/\Marks w.heap.size ds u) (by kernel_rfl) hL3 (by kernel_rfl) ?_;show wpAnyH _ _ _ _ _ 22 _ _ y.drew;generalize y.drew=W6 at s H hzd hBq6 ⊢;refine takeD 0 33 (Su Sy c) rfl rfl (by kernel_rfl) (by kernel_rfl) (by kernel_rfl) (λ_ _ _ h=>h) (SE ⟨by rfl,λB r=> ?_⟩) s ?_
     .skip
      go_simp
     simp only[Sx,zq0];refine takeD 1 34 (Su Sy z) rfl rfl (by kernel_rfl) (by kernel_rfl) (by kernel_rfl) (λ_ _ _ h=>h) (SE ⟨by rfl,λB r=> ?_⟩) s ?_
     .have A:=r.1.caps.b2.cell 0;go_simp
     simp only[Sx,zq0];refine takeD 2 35 (SU false) rfl rfl (by kernel_rfl) (by kernel_rfl) (by kernel_rfl) (λ_ _ _ h=>h) (SE ⟨by rfl,λB r=> ?_⟩) s ?_
     .have A:=e1;go_simp
     simp only[Sx,zq0];refine takeD 3 36 (SU false) rfl rfl (by kernel_rfl) (by kernel_rfl) (by kernel_rfl) (λ_ _ _ h=>h) (SE ⟨by rfl,λB r=> ?_⟩) s ?_
     .skip
      go_simp
     simp only[Sx,zq0];refine takeD 4 37 (Su Sy d) rfl rfl (by kernel_rfl) (by kernel_rfl) (by kernel_rfl) (λ_ _ _ h=>h) (SE ⟨by rfl,λB r=> ?_⟩) s ?_
     .have A:=r.2.1.cell 0;go_simp
     simp only[Sx,zq0];refine takeD 5 38 (AS (some ⟨q,0,none⟩)) rfl rfl (by kernel_rfl) (by kernel_rfl) (by kernel_rfl) (λ_ _ _ h=>h) (SE ⟨by rfl,λB r=> ?_⟩) s ?_
     .have A:=r.1.caps.b1.cell 0;go_simp
     simp only[Sx,zq0];refine takeD 6 39 (AS (some ⟨q,0,none⟩)) rfl rfl (by kernel_rfl) (by kernel_rfl) (by kernel_rfl) (λ_ _ _ h=>h) (SE ⟨by rfl,λB r=> ?_⟩) s ?_
     .skip
      go_simp
     simp only[Sx,zq0];refine takeD 7 40 (AS (some ⟨q,2,none⟩)) rfl rfl (by kernel_rfl) (by kernel_rfl) (by kernel_rfl) (λ_ _ _ h=>h) (SE ⟨by rfl,λB r=> ?_⟩) s ?_
     .skip
      go_simp
     simp only[Sx,zq0];refine takeD 8 41 (Su Sy l) rfl rfl (by kernel_rfl) (by kernel_rfl) (by kernel_rfl) (λ_ _ _ h=>h) (SE ⟨by rfl,λB r=> ?_⟩) s ?_
     .have A:=a7.cell ((r.1.wb.old hE hG q hSq).trans hB'.out) 2;go_simp
     simp only[Sx,zq0];refine takeD 9 42 (SU true) rfl rfl (by kernel_rfl) (by kernel_rfl) (by kernel_rfl) (λ_ _ _ h=>h) (SE ⟨by rfl,λB r=> ?_⟩) s ?_
     .have A:=e2;go_simp
     simp only[Sx,zq0]
    case inr.inr=>
     have e1:decide (z<c)=false:=decide_eq_false t1.out;have e2:decide ((d:Int)<l)=false:=decide_eq_false t2.out;refine gO (S:=λu=>WS E g (.rep id k l m) q w u L' z j/\a7 u D 3 #[Su Sy d]/\Marks w.heap.size ds u) (by kernel_rfl) hL3 (by kernel_rfl) ?_;show wpAnyH _ _ _ _ _ 22 _ _ y.drew;generalize y.drew=W6 at s H hzd hBq6 ⊢;refine takeD 0 33 (Su Sy c) rfl rfl (by kernel_rfl) (by kernel_rfl) (by kernel_rfl) (λ_ _ _ h=>h) (SE ⟨by rfl,λB r=> ?_⟩) s ?_
     .skip
      go_simp
     simp only[Sx,zq0];refine takeD 1 34 (Su Sy z) rfl rfl (by kernel_rfl) (by kernel_rfl) (by kernel_rfl) (λ_ _ _ h=>h) (SE ⟨by rfl,λB r=> ?_⟩) s ?_
     .have A:=r.1.caps.b2.cell 0;go_simp
     simp only[Sx,zq0];refine takeD 2 35 (SU false) rfl rfl (by kernel_rfl) (by kernel_rfl) (by kernel_rfl) (λ_ _ _ h=>h) (SE ⟨by rfl,λB r=> ?_⟩) s ?_
     .have A:=e1;go_simp
     simp only[Sx,zq0];refine takeD 3 36 (SU false) rfl rfl (by kernel_rfl) (by kernel_rfl) (by kernel_rfl) (λ_ _ _ h=>h) (SE ⟨by rfl,λB r=> ?_⟩) s ?_
     .skip
      go_simp
     simp only[Sx,zq0];refine takeD 4 37 (Su Sy d) rfl rfl (by kernel_rfl) (by kernel_rfl) (by kernel_rfl) (λ_ _ _ h=>h) (SE ⟨by rfl,λB r=> ?_⟩) s ?_
     .have A:=r.2.1.cell 0;go_simp
     simp only[Sx,zq0];refine takeD 5 38 (AS (some ⟨q,0,none⟩)) rfl rfl (by kernel_rfl) (by kernel_rfl) (by kernel_rfl) (λ_ _ _ h=>h) (SE ⟨by rfl,λB r=> ?_⟩) s ?_
     .have A:=r.1.caps.b1.cell 0;go_simp
     simp only[Sx,zq0];refine takeD 6 39 (AS (some ⟨q,0,none⟩)) rfl rfl (by kernel_rfl) (by kernel_rfl) (by kernel_rfl) (λ_ _ _ h=>h) (SE ⟨by rfl,λB r=> ?_⟩) s ?_
     .skip
      go_simp
     simp only[Sx,zq0];refine takeD 7 40 (AS (some ⟨q,2,none⟩)) rfl rfl (by kernel_rfl) (by kernel_rfl) (by kernel_rfl) (λ_ _ _ h=>h) (SE ⟨by rfl,λB r=> ?_⟩) s ?_
     .skip
      go_simp
     simp only[Sx,zq0];refine takeD 8 41 (Su Sy l) rfl rfl (by kernel_rfl) (by kernel_rfl) (by kernel_rfl) (λ_ _ _ h=>h) (SE ⟨by rfl,λB r=> ?_⟩) s ?_
     .have A:=a7.cell ((r.1.wb.old hE hG q hSq).trans hB'.out) 2;go_simp
     simp only[Sx,zq0];refine takeD 9 42 (SU false) rfl rfl (by kernel_rfl) (by kernel_rfl) (by kernel_rfl) (λ_ _ _ h=>h) (SE ⟨by rfl,λB r=> ?_⟩) s ?_
     .have A:=e2;go_simp
     simp only[Sx,zq0];refine takeD 10 43 (SU false) rfl rfl (by kernel_rfl) (by kernel_rfl) (by kernel_rfl) (λ_ _ _ h=>h) (SE ⟨by rfl,λB r=> ?_⟩) s ?_
     .skip
      go_simp
     simp only[Sx,zq0];refine takeD 11 44 (SU false) rfl rfl (by kernel_rfl) (by kernel_rfl) (by kernel_rfl) (λ_ _ _ h=>h) (SE ⟨by rfl,λB r=> ?_⟩) s ?_
     .skip
      go_simp
     simp only[Sx,zq0];refine takeD 12 45 undef rfl rfl (by kernel_rfl) (by kernel_rfl) (by kernel_rfl) (λ_ _ _ h=>h) (Tf ⟨by rfl,rfl⟩) s ?_;simp only[Sx,zq0];refine takeD 13 46 undef rfl rfl (by kernel_rfl) (by kernel_rfl) (by kernel_rfl) (λ_ _ _ h=>h) (Tf ⟨by rfl,rfl⟩) s ?_;simp only[Sx,zq0];refine takeD 14 47 undef rfl rfl (by kernel_rfl) (by kernel_rfl) (by kernel_rfl) (λ_ _ _ h=>h) (Tf ⟨by rfl,rfl⟩) s ?_;simp only[Sx,zq0];refine takeD 15 48 undef rfl rfl (by kernel_rfl) (by kernel_rfl) (by kernel_rfl) (λ_ _ _ h=>h) (Tf ⟨by rfl,rfl⟩) s ?_;simp only[Sx,zq0];refine takeD 16 49 undef rfl rfl (by kernel_rfl) (by kernel_rfl) (by kernel_rfl) (λ_ _ _ h=>h) (Tf ⟨by rfl,rfl⟩) s ?_;simp only[Sx,zq0];refine takeD 17 50 undef rfl rfl (by kernel_rfl) (by kernel_rfl) (by kernel_rfl) (λ_ _ _ h=>h) (Tf ⟨by rfl,rfl⟩) s ?_;simp only[Sx,zq0];refine takeD 18 51 undef rfl rfl (by kernel_rfl) (by kernel_rfl) (by kernel_rfl) (λ_ _ _ h=>h) (Tf ⟨by rfl,rfl⟩) s ?_;simp only[Sx,zq0];refine takeD 19 52 undef rfl rfl (by kernel_rfl) (by kernel_rfl) (by kernel_rfl) (λ_ _ _ h=>h) (Tf ⟨by rfl,rfl⟩) s ?_;simp only[Sx,zq0];refine takeD 20 53 undef rfl rfl (by kernel_rfl) (by kernel_rfl) (by kernel_rfl) (λ_ _ _ h=>h) (Tf ⟨by rfl,rfl⟩) s ?_;simp only[Sx,zq0];refine takeD 21 54 (SU false) rfl rfl (by kernel_rfl) (by kernel_rfl) (by kernel_rfl) (λ_ _ _ h=>h) (SE ⟨by rfl,λB r=> ?_⟩) s ?_
     .skip
      go_simp
     simp only[Sx,zq0];refine wpAnyH_done (by kernel_rfl) ?_ _;replace s:=AI s;have Z:qf c=false:=by rw[<- congrFun hqf.out c,e1,e2];rfl
     replace Z:=AI Z;gi_wp2
     refine⟨H.out.mono (by omega) nofun,?_,s.out⟩;have:=A.out;rw[if_neg (by rw[Z.out];simp)]at this;exact this
    all_goals
     refine takeD 10 43 (SU true) rfl rfl (by kernel_rfl) (by kernel_rfl) (by kernel_rfl) (λ_ _ _ h=>h) (SE ⟨by rfl,λB r=> ?_⟩) s ?_
     .skip
      go_simp
     simp only[Sx,zq0];refine takeD 11 44 (SU true) rfl rfl (by kernel_rfl) (by kernel_rfl) (by kernel_rfl) (λ_ _ _ h=>h) (SE ⟨by rfl,λB r=> ?_⟩) s ?_
     .skip
      go_simp
     simp only[Sx,zq0];refine takeD 12 45 (AS (some ⟨q,0,none⟩)) rfl rfl (by kernel_rfl) (by kernel_rfl) (by kernel_rfl) (λ_ _ _ h=>h) (SE ⟨by rfl,λB r=> ?_⟩) s ?_
     .have A:=r.1.caps.b1.cell 0;go_simp
     simp only[Sx,zq0];refine takeD 13 46 (AS (some ⟨E.m,0,none⟩)) rfl rfl (by kernel_rfl) (by kernel_rfl) (by kernel_rfl) (λ_ _ _ h=>h) (SE ⟨by rfl,λB r=> ?_⟩) s ?_
     .have A:=r.1.caps.b3.cell 0;go_simp
     simp only[Sx,zq0];refine takeD 14 47 (AS (some ⟨q,0,none⟩)) rfl rfl (by kernel_rfl) (by kernel_rfl) (by kernel_rfl) (λ_ _ _ h=>h) (SE ⟨by rfl,λB r=> ?_⟩) s ?_
     .have A:=r.1.caps.b1.cell 0;go_simp
     simp only[Sx,zq0];refine takeD 15 48 (Su Sy d) rfl rfl (by kernel_rfl) (by kernel_rfl) (by kernel_rfl) (λ_ _ _ h=>h) (SE ⟨by rfl,λB r=> ?_⟩) s ?_
     .have A:=r.2.1.cell 0;go_simp
     simp only[Sx,zq0];refine takeD 17 50 (Su Sy c) rfl rfl (by kernel_rfl) (by kernel_rfl) (by kernel_rfl) (λ_ _ _ h=>h) (SE ⟨by rfl,λB r=> ?_⟩) s ?_
     .skip
      go_simp
     simp only[Sx,zq0];refine takeD 19 52 (Su Sy j) rfl rfl (by kernel_rfl) (by kernel_rfl) (by kernel_rfl) (λ_ _ _ h=>h) (SE ⟨by rfl,λB r=> ?_⟩) s ?_
     .have A:=r.1.caps.b4.cell 0;go_simp
     simp only[Sx,zq0];have hAf:=o9 hBq6 (by omega:d<2000000);refine FK (R:=λu=>u=W6) 16 49 _ 246 #[AS (some ⟨q,0,none⟩),Su Sy d] rfl rfl (by rfl) (by kernel_rfl) (by go_simp) hAf ?_;rintro u hu;subst u;refine⟨s,?_⟩;simp only[Sx,zq0];have hmA:bS l m d<=d+1:=by unfold bS;split <;>omega
     have hlt0:=hlt.out;have hH:=hrest.out (bS l m d) c (by omega) (by omega) W6 q s.1.wb.mem s.1.wb.rep hcs.2;refine FK (R:=λu=>cI E u/\Kq W6.heap.size [E.r] W6 u) 18 51 _ 245 #[AS (some ⟨q,0,none⟩),AS (some ⟨E.m,0,none⟩),Su Sy (bS l m d:Nat),Su Sy c] rfl rfl (by rfl) (by kernel_rfl) (by go_simp) hH ?_;rintro W7 ⟨hM7,k7⟩;have hr6:=s.1.wb.new.2.1;have S7:WS E g (.rep id k l m) q w W7 L' z j/\a7 W7 D 3 #[Su Sy d]/\Marks w.heap.size ds W7:=⟨s.1.asked hE hG hM7 k7,s.2.1.kq k7 s.2.1.lt λC=>by have:=Sv.1 C;omega,s.2.2.stay s.2.2 (λx C=>by rw[Sv.1 C];exact s.1.wb.mem.fC) k7⟩;refine⟨S7,?_⟩;simp only[Sx,zq0];have hJ':=oV j (dI E.M k l m (bS l m d) c) W7 (by omega);refine FK (R:=λu=>Kq W7.heap.size [] W7 u) 20 53 _ 133 #[ep (dI E.M k l m (bS l m d) c),Su Sy j] rfl rfl (by rfl) (by kernel_rfl) (by go_simp) hJ' ?_;rintro W8 k8;have z7:=S7.2.1.lt;have S8:WS E g (.rep id k l m) q w W8 L' z j/\a7 W8 D 3 #[Su Sy d]/\Marks w.heap.size ds W8:=⟨S7.1.own (X:=[]) (by omega) (λ_ h=>nomatch h) k8,S7.2.1.kq k8 S7.2.1.lt Sw,S7.2.2.stay S7.2.2 (X:=[]) (λ_ h=>nomatch h) k8⟩;refine⟨S8,?_⟩;simp only[Sx,zq0];have hS2:=s;have s:=S8;refine takeD 21 54 (SU ((dI E.M k l m (bS l m d) c).testBit j)) rfl rfl (by kernel_rfl) (by kernel_rfl) (by kernel_rfl) (λ_ _ _ h=>h) (SE ⟨by rfl,λB r=> ?_⟩) s ?_
     .skip
      go_simp
     simp only[Sx,zq0];refine wpAnyH_done (by kernel_rfl) ?_ _;have Q:Hid (Kq y.heap.size [E.r] y W8):=AI (((H.out.mono (Sz _) nofun).trans (k7.mono H.out.kp.1 λ_ h _=>h)).trans (k8.mono (T7 H.out.kp.1 k7.kp.1) nofun));have Z:qf c=(dI E.M k l m (bS l m d) c).testBit j:=by
      rw[<- congrFun hqf.out c];first
       |(rw[e1];simp;done)
       |(rw[e1,e2];simp)
     replace s:=AI s;replace Z:=AI Z;replace e1:=AI e1;by_cases hq:(dI E.M k l m (bS l m d) c).testBit j=true
     .have hkc:c=cc:=by
       have:=A.out;rw[if_pos (by rw[N,Z.out,hq];rfl)]at this;exact Option.some.inj this
      subst hkc;rw[hq];replace hq:=AI hq;have z8:w.heap.size+1+1+1<W8.heap.size:=(s.out.1.boxes (w.heap.size+1+1+1) (by simp)).1;have hRk8:=hRk'.out.keep (w':=W8.drew) λb N _=>s.out.1.wb.old hE hG b N
      have k9d:Kq W8.heap.size [] W8 W8.drew:=(Kq.refl W8).drew;have S9:=s.out.1.own (X:=[]) z8 (λ_ h=>nomatch h) k9d;have M9:=s.out.2.2.stay s.out.2.2 (X:=[]) (λ_ h=>nomatch h) k9d;have B9:Hid (a7 W8.drew D 3 #[Su Sy d]):=AI s.out.2.1;have hCw:=AI (hwk W8.drew p z c L' S9.wb.mem hRk8 hi' (by rw[hP.out];exact N) hL' S9.wb.sp);have hBq8:=(s.out.1.wb.old hE hG q hSq).trans hB'.out;have u1:=s.out.1.caps.b1.cell 0;have u2:=s.out.1.caps.b2.cell 0;have u3:=s.out.1.caps.b3.cell 0;have u5:W8.cell? ⟨q,1,none⟩=some (SW (bn k) (AS (some ⟨p,0,none⟩))):=a7.cell hBq8 1;have hL7:∀{K U1 Yx},¬ LetsOut (Exit.then K (TY 3 (jY [E.r,g,w.heap.size+1+1] y U1 Yx))):=λ⟨_,_,h⟩=>h
      replace S9:=AI S9;replace M9:=AI M9;gi_wp2
      refine qq 7 (by kernel_rfl) hL7 (by kernel_rfl) (by kernel_rfl) ?_;simp only[Tk,List.take_zero,Tl,List.drop_zero];repeat still_step
      try refine wpStill_nil ?_
      change wpList _ _ _ _ _ W8.drew;go_wp2;refine hCw.out.mono ?_;rintro e W9 ⟨rfl,hM9,hs9,k9⟩;have S10:=S9.out.walked hE hG hM9 hs9 k9;have hnm:∀x∈[E.r,g],W8.drew.heap[x]?≠some (.deferred (some [])):=λx C=>by
       simp only[SX,Sw,or_false]at C;rcases C with rfl|rfl
       .exact S9.out.wb.mem.fC
       .exact fC S9.out.wb.sp
      have M10:=M9.out.stay M9.out hnm k9;have hg6:=S9.out.wb.new.2.2.1;have hr7:=S9.out.wb.new.2.1;have B10:=B9.out.kq k9 B9.out.lt λC=>by
       simp only[SX,Sw,or_false]at C;omega
      have u4:=S10.caps.b2.cell 0;have u6:=S10.caps.b2.frozen;have kB:Kq W9.heap.size [w.heap.size+1+1] W9 (W9.setCell ⟨w.heap.size+1+1,0,none⟩ (Su Sy c)):=(Kq.refl W9).setCell (p:=⟨w.heap.size+1+1,0,none⟩) (λ_=>Sv.2 rfl) _;have M11:=M10.stay M10 (λx C=>by rw[Sv.1 C];exact fC S10.caps.b2) kB;have B11:=B10.kq kB B10.lt λC=>by have:=Sv.1 C;omega
      have S11:=S10.moved c;have kfin:Kq y.heap.size [E.r,g,w.heap.size+1+1] y (W9.setCell ⟨w.heap.size+1+1,0,none⟩ (Su Sy c)):=(((Q.out.mono (Sz _) λx C _=>by rw[Sv.1 C];exact Tm).trans (k9d.mono Q.out.kp.1 nofun)).trans (k9.mono Q.out.kp.1 λx C _=>by
       simp only[SX,Sw,or_false]at C ⊢;exact C.imp (λh=>h) .inl)).trans (kB.mono (T7 Q.out.kp.1 k9.kp.1) λx C _=>by rw[Sv.1 C];simp)
      replace M11:=AI M11;replace B11:=AI B11;replace S11:=AI S11;replace kfin:=AI kfin;dsimp only;first
       |go_step
       |(refine ‹∀(a:Act)(w_1:SN),wpList PM _ _ [] a w_1->_› _ _ ?_)
      refine wpList_nil ?_;gi_wp2
      exact⟨kfin.out,rfl,S11.out,B11.out,M11.out⟩
     .have hqff:=U4.2 hq;rw[hqff];replace hqff:=AI hqff;gi_wp2
      refine⟨Q.out.mono (Sz _) λx C _=>by rw[Sv.1 C];exact Tm,?_,s.out⟩;have:=A.out;rw[if_neg (by rw[Z.out,hqff.out];simp)]at this;exact this
 .have hff:=hfin.out;rw[jJ,if_neg F]at hff;have e1:decide (z<j)=false:=decide_eq_false λh=>F (.inl h)
  have e2:decide ((d:Int)<l)=false:=decide_eq_false λh=>F (.inr h)
  have hfin2:Hid (L'=dH (jJ E.M k l m (de E.M k) j (l.toNat+400) 0 i) L):=AI hff;replace F:=AI F;go_wp2;go_quiet (fail)
  have H:Kq W.heap.size [] W (W.drewN nq):=(Kq.refl W).drewN nq;have M1:=AI (hMk0.out.stay hMk0.out (X:=[]) (λ_ h=>nomatch h) H);have S1:=AI (hWS0.out.own (X:=[]) (hWS0.out.boxes (w.heap.size+1+1+1) (by simp)).1 (λ_ h=>nomatch h) H);generalize W.drewN nq=W1 at *;go_wp2;refine ot rfl M1.out λy M=> ?_
  have hB:=S1.out.wb.own (X:=[]) (Sz _) (λ_ h=>nomatch h) M;rw[<- hfin2.out];exact⟨rfl,hB.mem,hB.sp,hB.kq⟩
end
section
open Go.RowKit
mutual
def walk_any{E}(q:fu E)(s:te E){g G}(r:lL E g G):∀y,(∀a∈subs y,a∈subs E.R)->WalkC E g G y
 | .set i a b c d,h=>CK
 | .edge i f,h=>BE
 | .seq i t,h=>
  have u:=λa v=>h a (by rw[subs];grind)
  CM q r (mp q s t u) (sg q s r t u) (h _ (sub_self _))
 | .alt i t,h=>
  have u:=λa v=>h a (by rw[subs];grind)
  Dn q r (mp q s t u) (sg q s r t u) (s.alt i t (h _ (sub_self _)))
 | .grp i k n,h=>Da q r (walk_any q s r k λa v=>h a (by rw[subs];grind)) (h _ (sub_self _))
 | .rep i k l m,h=>
  have u:=λa v=>h a (by rw[subs];grind)
  CU q r (ox q s k u) (walk_any q s r k u) (h _ (sub_self _))
def sg{E:ME}(q:fu E)(s:te E){g G:Nat}(r:lL E g G):∀t,(∀a∈gJ t,a∈subs E.R)->∀k∈t,WalkC E g G k
 |[],_,k,w=>by cases w
 |x::t,h,k,w=>by
  rcases SX.1 w with e|w<;>first |(have:=walk_any q s r x λa v=>h a (List.mem_append_left _ v);rw[e];omega)|exact sg q s r t (λa v=>h a (List.mem_append_right _ v)) k w
end
end
section
open Go.RowKit
attribute [local go_sem] Ua
abbrev dM:Int×Int:=(-1,-1)
def G1(E:ME)(g G i:Nat)(w:SN)(e:Ending)(a:SN):Prop:=cI E a/\match df (λ_=>true) (bv E.M E.R i) 320 with|none=>e=SF (SI none 0 0)/\Kq w.heap.size [E.r] w a|some j=>e=SF E.sp/\a7 a g 35 (dw (dH (((0:Int),i,j)::de E.M E.R i j) (SC (G+1) dM)))/\Kq w.heap.size [E.r,g] w a
def CR{fn p t}(h:fn.results=#[.cell p t]){tmps a x w}(b:tmps.getD p undef=AS (some ⟨a,0,none⟩))(c:(loadVar t ⟨a,0,none⟩).run PM w= .ok x w):(results fn tmps).run PM w= .ok x w:=by
 simp_all[results,asAddr]
def JX{t b v w}(a:∀w,(isAgg t).run PM w= .ok false w)(c:w.cell? ⟨b,0,none⟩=some v):(loadVar t ⟨b,0,none⟩).run PM w= .ok v w:=by
 simp[loadVar,a,c]
def pV{fn p t q n B g tmps R v}(k:fn.results=#[.cell p t])(l:tmps.getD p undef=AS (some ⟨g,0,none⟩))(b:∀w,(isAgg t).run PM w= .ok false w):
 ∀{i W},a7 W g q #[v]->Marks B i W->(∀e,Kq B [] W e->R (SF v) e)->LeavesInM Fence.wide n PM fn tmps R i .returning W
 |[],W,c,_,f=>⟨_,CR k l (JX b (c.cell 0)),f W (.refl W)⟩
 |d::i,W,c,⟨⟨D,m,z,j,x⟩,h⟩,f=>by
  refine⟨by simp,.inl ⟨D,_,by rw[m],run_takeDeferred j,pV k l b (B:=B) ((TE (by rintro rfl;exact fC c j)).trans c) (h.keep λu y A r=> ?_) λe s=>f e (((Kq.refl W).put (λh=>absurd h (by omega)) _).trans (s.mono (Sz _) λ_ h _=>h))⟩⟩;refine TE ?_;grind
def OV(w v)(m i:Nat):
 ∃W,W=(((w.alloc (SP #[AS (some ⟨m,0,none⟩)] 142)).alloc (SP #[v] 62)).alloc (SP #[Su Sy i] 3)).alloc (SP #[SI none 0 0] 28)/\a7 W w.heap.size 142 #[AS (some ⟨m,0,none⟩)]/\a7 W (w.heap.size+1) 62 #[v]/\a7 W (w.heap.size+1+1) 3 #[Su Sy i]/\a7 W (w.heap.size+1+1+1) 28 #[SI none 0 0]/\Kq w.heap.size [] w W:=by
 have a:∀(W:SN)(o:Obj){b:Nat}{t c},a7 W b t c->a7 (W.alloc o) b t c:=λW o{b t c} h=>h.alloc o
 have d:∀(W:SN)(t c)(n:Nat),W.heap.size=n->a7 (W.alloc (SP c t)) n t c:=λW t c n h=>h▸a7.new W t c
 exact⟨_,rfl,a _ _ (a _ _ (a _ _ (a7.new w ..))),a _ _ (a _ _ (d _ _ _ _ (by simp))),a _ _ (d _ _ _ _ (by simp)),d _ _ _ _ (by simp),((((Kq.refl w).alloc (Sz _) _).alloc (by simp) _).alloc (by simp) _).alloc (by simp) _⟩
def xM:∀{L:Sp}{n},n<L.length->(SC n dM++L.drop n).set n dM=SC (n+1) dM++L.drop (n+1)
 |x::L,0,_=>rfl
 |x::L,n+1,h=>by
  have:=xM (L:=L) (n:=n) (by simpa using h);grind
def Oo{E}(hE:fu E)(hW:te E){g G}(B:lL E g G){w q i L}(hM:cI E w)(hR:Repr w E.S (SW (bn E.R) (AS (some ⟨q,0,none⟩))) E.R)(hi:i<=E.M.s.size)(hL:L.length=G+1)(hg:a7 w g 35 (dw L)):
 Calls PM 67 #[AS (some ⟨E.m,0,none⟩),SW (bn E.R) (AS (some ⟨q,0,none⟩)),Su Sy i] w (G1 E g G i w):=by
 have hk:=ox hE hW E.R λa h=>h
 have hwk:=walk_any hE hW B E.R λa h=>h
 have hsz:=hE.size;have B0:=WB.start hE hM hR hg;have h1:=fN E.R ⟨q,0,none⟩;have f:=gu E.R ⟨q,0,none⟩;have A:=i9 E.R;have y:=jD E.R ⟨q,0,none⟩;have h5:=kC E.R ⟨q,0,none⟩;have h6:=walk_call E.R;obtain⟨W1,hW1,b1,b2,b3,b4,k1⟩:=OV w (SW (bn E.R) (AS (some ⟨q,0,none⟩))) E.m i;have B1:=B0.own (X:=[]) (Sz _) (λ_ h=>nomatch h) k1;have hC:=hk W1 q i B1.mem B1.rep hi;have v1:=b1.cell 0;have v2:=b2.cell 0;have v3:=b3.cell 0;rw[hW1]at v1 v2 v3;replace hW1:=AI hW1;replace b1:=AI b1;replace b2:=AI b2;replace b3:=AI b3;replace b4:=AI b4;replace B1:=AI B1;replace hC:=AI hC;replace k1:=AI k1;refine callsIn_wide (n:=4).1 (callsIn_of_wp_marks (PM.func Tryz.func67 (by decide)) rfl trivial ?_ rfl);simp only[Tryz.ntmps67,SR,SD,SV,T6,T5,SM,SL,SS,SO,SQ,SG];refine wpIn_wide.2 ?_;go_wp2;rw[<- hW1.out];refine hC.out.mono ?_;rintro e w2 ⟨rfl,hM2,k2⟩;have B2:=AI (B1.out.asked hE B hM2 k2);have hr:=B1.out.new.2.1;have hgw:=B1.out.new.2.2.1;have st2:∀{b t c},a7 W1 b t c->w.heap.size<=b->a7 w2 b t c:=λhb hlo=>hb.kq k2 hb.lt λl=>by have:=Sv.1 l;omega
 have c1:=AI (st2 b1.out (Sz _));have c2:=AI (st2 b2.out (by omega));have c3:=AI (st2 b3.out (by omega));have c4:=AI (st2 b4.out (by omega));have hlt2:=c4.out.lt;have k02:=AI ((k1.out.mono (Sz _) nofun:Kq w.heap.size [E.r] w W1).trans (k2.mono k1.out.kp.1 λ_ h _=>h));go_wp2;have hw:=AI (bZ E.M E.R i hi);have⟨P,hP⟩:∃P,bv E.M E.R i=P:=⟨_,rfl⟩;rw[hP]at hw;rw[hP];have hsay:∀(e:Ending)(w':SN),(cI E w'/\match df (λ_=>true) P 320 with|none=>e=SF (SI none 0 0)/\Kq w.heap.size [E.r] w w'|some j=>e=SF E.sp/\a7 w' g 35 (dw (dH (((0:Int),i,j)::de E.M E.R i j) (SC (G+1) dM)))/\Kq w.heap.size [E.r,g] w w')->G1 E g G i w e w':=λe w' h=>by unfold G1;rw[hP];exact h
 replace hP:=AI hP;replace hsay:=AI hsay;refine wpIn_wide (n:=4).1 (qe (X:=[E.r,g,w.heap.size+1+1+1]) (t:=14) (p:=P) (by decide) rfl ?_
  (λk d=>df (λ_=>true) P k=df (λ_=>true) P 320/\WB E g E.R q w d L/\Kq w.heap.size [E.r] w d/\a7 d w.heap.size 142 #[AS (some ⟨E.m,0,none⟩)]/\a7 d (w.heap.size+1) 62 #[SW (bn E.R) (AS (some ⟨q,0,none⟩))]/\a7 d (w.heap.size+1+1) 3 #[Su Sy i]/\a7 d (w.heap.size+1+1+1) 28 #[SI none 0 0])
  (λc k d=>c= .ret/\df (λ_=>true) P 320=some k/\WB E g E.R q w d (dH (((0:Int),i,k)::de E.M E.R i k) (SC (G+1) dM))/\a7 d (w.heap.size+1+1+1) 28 #[E.sp]) ?_ ?_ ?_ ?_ ?_ ?_ ?_ ?_ ?_)
 case refine_7=>
  intro ll c d K hK;gi_wp2
  exact hK
 case refine_1=>
  intro x l;simp only[SX,Sw,or_false]at l;omega
 case refine_2=>
  rintro c d W'' ⟨h1,f,A,y,h5,h6,h7⟩ s;exact⟨h1,f.own (X:=[]) (by omega) (λ_ h=>nomatch h) s,A.trans (s.mono (by omega) nofun),y.kq s (by omega) Sw,h5.kq s (by omega) Sw,h6.kq s (by omega) Sw,h7.kq s (by omega) Sw⟩
 case refine_3=>
  rintro x c d W'' ⟨h1,f,A,y⟩ s;exact⟨h1,f,A.own (X:=[]) (by omega) (λ_ h=>nomatch h) s,y.kq s (by omega) Sw⟩
 case refine_4=>
  rintro c d ⟨h1,f⟩ hb;rw[df,if_neg (by rw[hb];simp)]at h1;exact⟨h1,f⟩
 case refine_5=>exact⟨rfl,B2.out,k02.out,c1.out,c2.out,c3.out,c4.out⟩
 case refine_9=>
  rintro d ⟨h1,f,A,y,h5,h6,h7⟩ hD;have hn:df (λ_=>true) P 320=none:=h1.symm;have fz:=h7.frozen;have f0:=h7.cell 0;have m:Kq d.heap.size [w.heap.size+1+1+1] d (d.setCell ⟨w.heap.size+1+1+1,0,none⟩ (SI none 0 0)):=(Kq.refl d).setCell (p:=⟨w.heap.size+1+1+1,0,none⟩) (λ_=>Sv.2 rfl) _;have hDl:=(Te.1 hD).1;have C:Marks w.heap.size [{target:= .collected w2.heap.size,args:=#[]}] (d.setCell ⟨w.heap.size+1+1+1,0,none⟩ (SI none 0 0)):=⟨⟨w2.heap.size,rfl,by omega,(m.kp.2 _ hDl λl=>by have:=Sv.1 l;omega).trans hD,by simp⟩,trivial⟩;have B3:=f.own (X:=[w.heap.size+1+1+1]) (by have:=f.kq.kp.1;exact this) λx l=>by rw[Sv.1 l];omega m
  have b3:=h7.bI 0 (SI none 0 0);have k3:Kq w.heap.size [E.r] w (d.setCell ⟨w.heap.size+1+1+1,0,none⟩ (SI none 0 0)):=A.trans (m.mono A.kp.1 λx l hlt=>by have:=Sv.1 l;omega);replace C:=AI C;replace B3:=AI B3;replace b3:=AI b3;replace k3:=AI k3;replace hn:=AI hn;go_wp2;refine pV rfl rfl λu=>by simp[go_sem] b3.out C.out λW'' hk''=>hsay.out _ _ ⟨(B3.out.own (X:=[]) (Sz _) (λ_ h=>nomatch h) hk'').mem,?_⟩
  rw[hn.out];exact⟨rfl,k3.out.trans (hk''.mono (Sz _) nofun)⟩
 case refine_10=>
  rintro _ k d hk1 hb ⟨rfl,f,A,y⟩ hD;have hDl:=(Te.1 hD).1;have C:Marks w.heap.size [{target:= .collected w2.heap.size,args:=#[]}] d:=⟨⟨w2.heap.size,rfl,by omega,hD,by simp⟩,trivial⟩;replace f:=AI f;replace A:=AI A;replace y:=AI y;replace C:=AI C;refine wpIn_wide.2 ?_;go_wp2;refine pV rfl rfl λu=>by simp[go_sem] y.out C.out λW'' hk''=>hsay.out _ _ ?_
  have B4:=A.out.own (X:=[]) (Sz _) (λ_ h=>nomatch h) hk'';rw[f.out];exact⟨B4.mem,rfl,B4.sp,B4.kq⟩
 case refine_8=>
  rintro ll k d hltW hk1 hb ⟨h1,f,A,y,h5,h6,h7⟩;have hmk:df (λ_=>true) P 320=some k:=by
   rw[<- h1,df,if_pos (by rw[hb];rfl)]
  have hks:=hw.out k hb;have cm:d.cell? ⟨E.m,4,none⟩=some (SI (some ⟨g,0,none⟩) (G+1) (G+1)):=by rw[<- B.sp];exact f.mem.blk.cell 4
  have v1:=y.cell 0;have hGs:=B.small;have A0:=AI (⟨f,y,h5,h6,h7⟩:WB E g E.R q w d L/\a7 d w.heap.size 142 #[AS (some ⟨E.m,0,none⟩)]/\a7 d (w.heap.size+1) 62 #[SW (bn E.R) (AS (some ⟨q,0,none⟩))]/\a7 d (w.heap.size+1+1) 3 #[Su Sy i]/\a7 d (w.heap.size+1+1+1) 28 #[SI none 0 0]);replace hmk:=AI hmk;gi_wp2
  gi_loopw [20] (λc wr=>∃n:Nat,n<=G+1/\c=Su Sy n/\WB E g E.R q w wr (SC n dM++L.drop n)/\Kq d.heap.size [g] d wr/\a7 wr w.heap.size 142 #[AS (some ⟨E.m,0,none⟩)]/\a7 wr (w.heap.size+1) 62 #[SW (bn E.R) (AS (some ⟨q,0,none⟩))]/\a7 wr (w.heap.size+1+1) 3 #[Su Sy i]/\a7 wr (w.heap.size+1+1+1) 28 #[SI none 0 0]) λc _=>G+1- (intOf c).toNat
  case atStart=>exact⟨0,Ta _,rfl,A0.out.1,.refl _,A0.out.2⟩
  case round=>
   obtain⟨n,hnG,rfl,f,A,y,h5,h6,h7⟩:=hrel;have hlen:(SC n dM++L.drop n).length=G+1:=by simp;omega
   have cm:wr.cell? ⟨E.m,4,none⟩=some (SI (some ⟨g,0,none⟩) (G+1) (G+1)):=by rw[<- B.sp];exact f.mem.blk.cell 4
   have v1:=y.cell 0;have fz:∀x,wr.frozen? ⟨g,x,none⟩=false:=f.sp.frozen;have kR:=f.kq.kp.1;by_cases hlt:n<G+1
   .have⟨s0,s1⟩:=qm f.sp (by omega:n<(SC n dM++L.drop n).length);have z:=vK (n:=n) (u:=dM) f.sp;rw[xM (by omega:n<L.length)]at z;have m:Kq wr.heap.size [g] wr ((wr.setCell ⟨g,n*2,none⟩ (Su Sy (-1))).setCell ⟨g,n*2+1,none⟩ (Su Sy (-1))):=((Kq.refl wr).setCell (p:=⟨g,n*2,none⟩) (λ_=>Sv.2 rfl) _).setCell (p:=⟨g,n*2+1,none⟩) (λ_=>Sv.2 rfl) _;have hMn:=f.mem.hZ hE (X:=[g]) (λx l=>by rw[Sv.1 l];exact⟨B.ne_m,B.ne_r,B.away⟩) m;have hBn:=f.walked hE B hMn z (m.mono (Sz _) λx l _=>Th _ l);have kn:=A.trans (m.mono A.kp.1 λ_ h _=>h);have v:∀x,w.heap.size<=x->x∉[g]:=λx l h=>by have:=Sv.1 h;omega
    have m4:=y.kq m y.lt (v _ (Sz _));have m5:=h5.kq m h5.lt (v _ (by omega));have m6:=h6.kq m h6.lt (v _ (by omega));have m7:=h7.kq m h7.lt (v _ (by omega));have A2:=AI (⟨hBn,kn,m4,m5,m6,m7⟩:WB E g E.R q w _ (SC (n+1) dM++L.drop (n+1))/\Kq d.heap.size [g] d _/\a7 _ w.heap.size 142 #[AS (some ⟨E.m,0,none⟩)]/\a7 _ (w.heap.size+1) 62 #[SW (bn E.R) (AS (some ⟨q,0,none⟩))]/\a7 _ (w.heap.size+1+1) 3 #[Su Sy i]/\a7 _ (w.heap.size+1+1+1) 28 #[SI none 0 0]);gi_wp2
    go_roundw
    case rel=>exact⟨n+1,by omega,by push_cast;rfl,A2.out⟩
    case measure=>simp[intOf];omega
   .obtain rfl:n=G+1:=by omega
    have hdr:SC (G+1) dM++L.drop (G+1)=SC (G+1) dM:=by rw[TK (by omega),Tv]
    rw[hdr]at f hlen;have⟨s0,s1⟩:=qm f.sp (by omega:0<(SC (G+1) dM).length);have z:=vK (n:=0) (u:=((i:Int),(k:Int))) f.sp;rw[Nat.zero_mul,Nat.zero_add]at z s1;rw[Nat.zero_mul]at s0;have v3:=h6.cell 0;have v5:=h5.cell 0;have m:Kq wr.heap.size [g] wr ((wr.setCell ⟨g,0,none⟩ (Su Sy i)).setCell ⟨g,1,none⟩ (Su Sy k)):=((Kq.refl wr).setCell (p:=⟨g,0,none⟩) (λ_=>Sv.2 rfl) _).setCell (p:=⟨g,1,none⟩) (λ_=>Sv.2 rfl) _;have v:∀x,w.heap.size<=x->x∉[g]:=λx l h=>by have:=Sv.1 h;omega
    have hMn:=f.mem.hZ hE (X:=[g]) (λx l=>by rw[Sv.1 l];exact⟨B.ne_m,B.ne_r,B.away⟩) m;have hBn:=f.walked hE B hMn z (m.mono (Sz _) λx l _=>Th _ l);have m4:=y.kq m y.lt (v _ (Sz _));have m5:=h5.kq m h5.lt (v _ (by omega));have m6:=h6.kq m h6.lt (v _ (by omega));have m7:=h7.kq m h7.lt (v _ (by omega));have kn:=A.trans (m.mono A.kp.1 λ_ h _=>h);have y1:=m4.cell 0;have y2:=m5.cell 0;have y3:=m6.cell 0;have A2:=AI (⟨hBn,kn,m4,m5,m6,m7⟩:WB E g E.R q w _ ((SC (G+1) dM).set 0 ((i:Int),(k:Int)))/\Kq d.heap.size [g] d _/\a7 _ w.heap.size 142 #[AS (some ⟨E.m,0,none⟩)]/\a7 _ (w.heap.size+1) 62 #[SW (bn E.R) (AS (some ⟨q,0,none⟩))]/\a7 _ (w.heap.size+1+1) 3 #[Su Sy i]/\a7 _ (w.heap.size+1+1+1) 28 #[SI none 0 0]);have hL7:∀{K U1 Yx},¬ LetsOut (Exit.then K (TY 1 (jY [E.r,g,w.heap.size+1+1+1] d U1 Yx))):=λ⟨_,_,h⟩=>h
    gi_wp2
    refine qq 7 (by kernel_rfl) hL7 (by kernel_rfl) (by kernel_rfl) ?_;simp only[Tk,List.take_zero,Tl,List.drop_zero];repeat still_step
    try refine wpStill_nil ?_
    change wpList _ _ _ _ _ wr.drew;go_wp2;have⟨a1,a2,a3,a4,a5,a6⟩:=A2.out;have kR:=a1.kq.kp.1;have kd:Kq ((wr.setCell ⟨g,0,none⟩ (Su Sy i)).setCell ⟨g,1,none⟩ (Su Sy k)).heap.size [] ((wr.setCell ⟨g,0,none⟩ (Su Sy i)).setCell ⟨g,1,none⟩ (Su Sy k)) ((wr.setCell ⟨g,0,none⟩ (Su Sy i)).setCell ⟨g,1,none⟩ (Su Sy k)).drew:=(Kq.refl _).drew;have e1:=a1.own (X:=[]) kR (λ_ h=>nomatch h) kd;have e2:=a2.trans (kd.mono a2.kp.1 nofun);have e3:=a3.kq kd a3.lt Sw;have e4:=a4.kq kd a4.lt Sw;have e5:=a5.kq kd a5.lt Sw;have e6:=a6.kq kd a6.lt Sw;generalize World.drew _=W8 at *;have y1:=e3.cell 0;have y2:=e4.cell 0;have y3:=e5.cell 0;have hCw:=AI (hwk W8 q i k _ e1.mem e1.rep hi (by rw[hP.out];exact hb) (by rw[List.length_set];simp) e1.sp);have A3:=AI (⟨e1,e2,e3,e4,e5,e6⟩:WB E g E.R q w W8 ((SC (G+1) dM).set 0 ((i:Int),(k:Int)))/\Kq d.heap.size [g] d W8/\a7 W8 w.heap.size 142 #[AS (some ⟨E.m,0,none⟩)]/\a7 W8 (w.heap.size+1) 62 #[SW (bn E.R) (AS (some ⟨q,0,none⟩))]/\a7 W8 (w.heap.size+1+1) 3 #[Su Sy i]/\a7 W8 (w.heap.size+1+1+1) 28 #[SI none 0 0]);gi_wp2
    refine⟨trivial,(CallsIn.inRound ll (callsIn_wide.2 hCw.out)).mono ?_⟩;rintro e W9 ⟨rfl,hM9,hs9,k9⟩;have⟨a1,a2,a3,a4,a5,a6⟩:=A3.out;have e1:=a1.walked hE B hM9 hs9 k9;have kR:=a1.kq.kp.1;have nin:∀x,w.heap.size<=x->x∉[E.r,g]:=λx l h=>by
     simp only[SX,Sw,or_false]at h;omega
    have e3:=a3.kq k9 a3.lt (nin _ (Sz _));have e6:=a6.kq k9 a6.lt (nin _ (by omega));have cm:W9.cell? ⟨E.m,4,none⟩=some (SI (some ⟨g,0,none⟩) (G+1) (G+1)):=by rw[<- B.sp];exact e1.mem.blk.cell 4
    have z1:=e3.cell 0;have z6:=e6.cell 0;have zf:=e6.frozen;have m:Kq W9.heap.size [w.heap.size+1+1+1] W9 (W9.setCell ⟨w.heap.size+1+1+1,0,none⟩ (SI (some ⟨g,0,none⟩) (G+1) (G+1))):=(Kq.refl W9).setCell (p:=⟨w.heap.size+1+1+1,0,none⟩) (λ_=>Sv.2 rfl) _;have f1:=e1.own (X:=[w.heap.size+1+1+1]) e1.kq.kp.1 λx l=>by rw[Sv.1 l];omega m
    have f6:a7 (W9.setCell ⟨w.heap.size+1+1+1,0,none⟩ (SI (some ⟨g,0,none⟩) (G+1) (G+1))) (w.heap.size+1+1+1) 28 #[E.sp]:=by
     rw[B.sp];exact e6.bI 0 (SI (some ⟨g,0,none⟩) (G+1) (G+1))
    have kfin:Kq d.heap.size [E.r,g,w.heap.size+1+1+1] d (W9.setCell ⟨w.heap.size+1+1+1,0,none⟩ (SI (some ⟨g,0,none⟩) (G+1) (G+1))):=((a2.mono (Sz _) λx l _=>by rw[Sv.1 l];simp).trans (k9.mono a2.kp.1 λx l _=>by
     simp only[SX,Sw,or_false]at l ⊢;exact l.imp (λh=>h) .inl)).trans (m.mono (T7 a2.kp.1 k9.kp.1) λx l _=>by rw[Sv.1 l];simp)
    replace f1:=AI f1;replace f6:=AI f6;replace kfin:=AI kfin;gi_wp2
    exact⟨kfin.out,rfl,hmk.out,f1.out,f6.out⟩
end
section
open Go.RowKit
def Ei:words co=#[Su SK 0,Su SK 0,Su SK 0,Su SK 0]:=by simp[words,qd]
def Ay{fn p q}(h:fn.results=#[.cell p 77,.tmp q]){tmps b a w v}(g:tmps.getD p undef=AS (some ⟨b,0,none⟩))(f:a7 w b 77 a)(hs:a.size=4)(i:tmps.getD q undef=v):
 (results fn tmps).run PM w= .ok (T9 #[.agg a,v]) w:=by
 have c:∃n e,PM.underlying 77=some (.array n e):=⟨_,_,(congrFun (aK ..) _).trans Tryz.underlying77⟩;have d:(PM.info? 77).map (·.size)=some 4:=by kernel_rfl
 have⟨n,e,c⟩:=c;have:=run_loadVar_row (P:=PM) w b 77 77 a _ _ f c rfl (by rw[d,hs]);simp_all[results,asAddr]
def J3{w g t T V}(h:a7 w g t (words T)):
 a7 ((((w.setCell ⟨g,0,none⟩ (Su SK (wz V 0))).setCell ⟨g,1,none⟩ (Su SK (wz V 1))).setCell ⟨g,2,none⟩ (Su SK (wz V 2))).setCell ⟨g,3,none⟩ (Su SK (wz V 3))) g t (words V):=by
 have:=(((h.bI 0 (Su SK (wz V 0))).bI 1 (Su SK (wz V 1))).bI 2 (Su SK (wz V 2))).bI 3 (Su SK (wz V 3));simp_all[words]
def IR{S c}(u:fh S c){w q}(B:Repr w S (SW (bn c) (AS (some ⟨q,0,none⟩))) c)(A:∀b,S b->b<w.heap.size):
 Calls PM 64 #[SW (bn c) (AS (some ⟨q,0,none⟩))] w λe w'=>e=SF (T9 #[kL (du co (bj c).1),SU (bj c).2])/\Kq w.heap.size [] w w':=by
 have Q:=ja c ⟨q,0,none⟩;have I:=jL c ⟨q,0,none⟩;have L:=kX c;have⟨t,f,n,g,k⟩:∃W,W=(w.alloc (.cells #[.int .u64 0,.int .u64 0,.int .u64 0,.int .u64 0] 77)).alloc (.cells #[.int .u64 0,.int .u64 0,.int .u64 0,.int .u64 0] 77)/\a7 W w.heap.size 77 (words co)/\a7 W (w.heap.size+1) 77 (words co)/\Kq w.heap.size [] w W:=by
  rw[Ei];refine⟨_,rfl,(a7.new w ..).alloc _,?_,((Kq.refl w).alloc (Sz _) _).alloc (by simp) _⟩;have:=a7.new (w.alloc (SP #[Su SK 0,Su SK 0,Su SK 0,Su SK 0] 77)) 77 #[Su SK 0,Su SK 0,Su SK 0,Su SK 0];simpa using this
 have r:=AI (u t q (w.heap.size+1) co (B.keep λb F j=>k.kp.2 b j Sw) λh=>by have:=A _ h;omega g);replace n:=AI n;replace k:=AI k;replace f:=AI f;go_enter PM.func Tryz.func64 (by decide),Tryz.ntmps64
 go_wp2;rw[<- f.out];refine r.out.mono ?_;rintro e y ⟨rfl,g,s⟩;have j:=k.out.kp.1;have z:=AI ((k.out.mono (Sz _) nofun:Kq w.heap.size [] w t).trans (s.mono j λx d h=>by have:=Sv.1 d;omega));have a:=n.out.kq s n.out.lt λd=>by have:=Sv.1 d;omega
 have⟨V,l⟩:∃V,du co (bj c).1=V:=⟨_,rfl⟩;have⟨x,d⟩:∃x,(bj c).2=x:=⟨_,rfl⟩;rw[l]at g;simp only[d];replace l:=AI l;replace d:=AI d;replace a:=AI a;have M:∀i,y.frozen? ⟨w.heap.size,i,none⟩=false:=a.out.frozen;have N:=eu g (i:=0) (by decide);have H:=eu g (i:=1) (by decide);have G:=eu g (i:=2) (by decide);have K:=eu g (i:=3) (by decide);have D:=eu a.out (i:=0) (by decide);have E:=eu a.out (i:=1) (by decide);have C:=eu a.out (i:=2) (by decide);have P:=eu a.out (i:=3) (by decide);go_wp2;refine bodyPost_ret (Ay (p:=2) (q:=3) (v:=SU x) rfl rfl (J3 (V:=V) a.out) rfl rfl) rfl ⟨by rw[l.out,d.out];rfl,?_⟩;have m:∀i,(⟨w.heap.size,i,none⟩:Addr).block<w.heap.size->(⟨w.heap.size,i,none⟩:Addr).block∈[]:=λi h=>absurd h (TQ _)
 exact(((z.out.setCell (m 0) _).setCell (m 1) _).setCell (m 2) _).setCell (m 3) _
def uJ:(PM.info? 35).map (λi=>(i.size,i.zero,i.bytes))=some (2,some (.agg #[Su Sy 0,Su Sy 0]),16):=by kernel_rfl
def DO(n):madeCells #[Su Sy 0,Su Sy 0] (n*2)=dw (SC n (0,0)):=by
 unfold madeCells dw;induction n with
 |zero=>simp[eY]
 |succ n a=>
  rw[show(n+1)*2=n*2+1+1 from by omega,Array.range_succ,Array.range_succ,U8,U8,a,List.replicate_succ'];simp[eY]
def MX(s)(f e G:Nat)(m:G<1000)(w):
 Calls PM 65 #[SJ s,Su Ti f,Su Ti e,Su Sy G] w λx b=>x=SF (AS (some ⟨w.heap.size+2,0,none⟩))/\
  a7 b (w.heap.size+2) 195 #[SJ s,Su Ti f,Su Ti e,.map (some w.heap.size),SI (some ⟨w.heap.size+1,0,none⟩) (G+1) (G+1)]/\b.heap[w.heap.size]?=some (.map #[] 0)/\
  a7 b (w.heap.size+1) 35 (dw (SC (G+1) (0,0)))/\Kq w.heap.size [] w b:=by
 have⟨i,l,c,d,j⟩:∃i,PM.info? 35=some i/\i.size=2/\i.zero=some (.agg #[.int .i64 0,.int .i64 0])/\i.bytes=16:=by
  have:=uJ;rw[Tq]at this;have⟨i,h,a⟩:=this;simp only[Prod.mk.injEq]at a;exact⟨i,h,a.1,a.2.1,a.2.2⟩
 have g:=run_make (P:=PM) (w.alloc (.map #[] 0)) 28 35 i _ ((congrFun (aK ..) _).trans Tryz.underlying28) l d Sy Sy ((G:Int)+1) ((G:Int)+1) (by omega) (by omega) (by rw[j];omega) (by omega);rw[show((G:Int)+1).toNat=G+1 from by omega,c,show(Value.agg #[Su Sy 0,Su Sy 0]).cells=#[Su Sy 0,Su Sy 0]from rfl,DO,show(w.alloc (.map #[] 0)).heap.size=w.heap.size+1 from by simp]at g;have k:(Instr.makeMap 193 none).run PM w= .ok (.map (some w.heap.size)) (w.alloc (.map #[] 0)):=run_makeMap (P:=PM) _ w;go_enter PM.func Tryz.func65 (by decide),Tryz.ntmps65
 go_wp2;go_ret;refine⟨rfl,?_,?_,?_,(((Kq.refl w).alloc (Sz _) _).alloc (by simp) _).alloc (by simp) _⟩
 .have:=a7.new ((w.alloc (.map #[] 0)).alloc (SP (dw (SC (G+1) (0,0))) 35)) 195 #[SJ s,Su Ti f,Su Ti e,.map (some w.heap.size),SI (some ⟨w.heap.size+1,0,none⟩) (G+1) (G+1)];simpa using this
 .exact((((Kq.refl (w.alloc (.map #[] 0))).alloc (Sz _) _).alloc (by simp) _).kp.2 w.heap.size (by simp) Sw).trans (by show(w.heap.push _)[w.heap.size]?=_;simp)
 .have:=(a7.new (w.alloc (.map #[] 0)) 35 (dw (SC (G+1) (0,0)))).alloc (SP #[SJ s,Su Ti f,Su Ti e,.map (some w.heap.size),SI (some ⟨w.heap.size+1,0,none⟩) (G+1) (G+1)] 195);simpa using this
def uT(s:ByteArray)(f e G:Nat)(a:Nd)(S:Nat->Prop)(B:Nat):ME:=⟨⟨s,f,e⟩,a,B+2,B,SI (some ⟨B+1,0,none⟩) (G+1) (G+1),S⟩
def Mm{s}{f e G:Nat}{c S B}(hs:s.size<=300)(t:f<256)(r:e<256)(u:je c G)(p:∀b,S b->b<B):fu (uT s f e G c S B):=by
 have⟨z,x,d⟩:=u.w;refine⟨hs,t,r,be.one c d,λa j=> ?_,λi k l m h=> ?_,λi v h=> ?_,λh=>absurd (p _ h) (TQ _),λb h=>SY (p b h) (Nat.le_add_right ..)⟩<;>first |(have:=λa j=>by have:=be.ids c d a j;omega a j;have q:=p9 (n:=a.id.toNat) (by omega);rwa [show a.id.toNat=a.id from by omega]at q)|(have⟨_,_,_,_,g⟩:=be.sub c d _ h;grind [be])|(have⟨w,y,_,_,g⟩:=be.sub c d _ h;simp[be]at g;have:=bV.le v g.2;omega)
def yI{s}{f e G:Nat}{g S B}(m:je g G):te (uT s f e G g S B):=by
 have⟨n,q,k⟩:=m.w;refine⟨λi a b c d h=> ?_,λi l h=> ?_⟩;have⟨_,_,_,_,j⟩:=be.sub g k _ h;simp_all[be]
 have⟨p,r,_,_,j⟩:=be.sub g k _ h;simp[be]at j;have:=bV.le l j.2;omega
def Ml{s}{f e G:Nat}{a S B}(c:je a G)(d:∀b,S b->b<B):lL (uT s f e G a S B) (B+1) G:=by
 have⟨l,m,g⟩:=c.w;have p:=c.g9;refine⟨rfl,by omega,by show B+1≠B;omega,by show B+1≠B+2;omega,λh=>by have:=d _ h;omega,λi k n h=> ?_⟩;have⟨_,_,_,_,j⟩:=be.sub a g _ h;simp[be]at j;omega
def JQ{s}{f e G:Nat}{c S w w' v}(g:Repr w S v c)(l:∀b,S b->b<w.heap.size)
 (d:a7 w' (w.heap.size+2) 195 #[SJ s,Su Ti f,Su Ti e,.map (some w.heap.size),SI (some ⟨w.heap.size+1,0,none⟩) (G+1) (G+1)]) (j:w'.heap[w.heap.size]?=some (.map #[] 0)) (i:Kq w.heap.size [] w w'):cI (uT s f e G c S w.heap.size) w':=
 ⟨d,⟨_,_,j,λe h=>by simp at h⟩,v,g.keep λb k a=>i.kp.2 b a Sw⟩
def ci{P g e Q S f b a w}(i d v){j}(hi:e[i]?=some j)(k:j.dst=some d)
 (hs:Region.noSelect e=true) (l:Region.free g e b i=true) (m:(TV g e b).contains i=true) (q:∀c a w,Q (.panic c) (a.put (some d) v) w->Q (.panic c) a w) (n:YieldsIf P e S j v a) (p:S w)
 (h:wpAnyH P g e Q S f (b.setIfInBounds i true) (a.put (some d) v) w):wpAnyH P g e Q S (f+1) b a w:=
 wpAnyH_take hi hs l m (by rw[k];omega) n p (by rw[k];omega)
def jz{P f c Q S d b a w}(i){e}(hi:c[i]?=some e)(m:e.guard=none)(l:TV f c b=[i])
 (h:e.wp P a w (λk g=>S g/\wpAnyH P f c Q S d (b.setIfInBounds i true) k g) Q):wpAnyH P f c Q S (d+1) b a w:=
 wpAnyH_all l (by simp) λj n=>by
  simp_all[Uj,wpOp]
def zJ{P o a w K Q}(d)(j:o.dst=some d)(f args)(b:(execOp a.eval o).run P w= .ok (.enter f args) w)(v)(R:SN->Prop)
 (i:Calls P f args w λe c=>e=SF v/\R c) (h:∀c,R c->K (a.put (some d) v) c):o.wp P a w K Q:=by
 simp[Uc,b];refine i.mono λe g k=> ?_
 grind
def LB{P o a w K Q}(d)(e:o.dst=some d)(v b)(c:(execOp a.eval o).run P w= .ok (.value v) b)(h:K (a.put (some d) v) b):o.wp P a w K Q:=by
 simp_all[Oper.upon_value,Uc]
def zI{P o a w K Q}(d:o.dst=none)(c)(b:(execOp a.eval o).run P w= .ok .skip c)(h:K a c):o.wp P a w K Q:=by
 simp[Uc,b,Oper.upon_skip,d];exact h
def mU(b:Tn)(g:Int)(c:Nat)(d a:Int)(T:cS)(e:Bool):Array Tn:=#[b,Su Sy g,Su Ti c,Su Tt d,Su .i32 a,Su Tt 0,Su SK (wz T 0),Su SK (wz T 1),Su SK (wz T 2),Su SK (wz T 3),SU e]
def Ia{S f}(hC:fh S f){w p x q F tp g d G T e}(C:a7 w p tp #[AS (some ⟨x,0,none⟩)])
 (D:a7 w x 79 (mU (SW (bn f) (AS (some ⟨q,0,none⟩))) g F d G T e)) (K:Repr w S (SW (bn f) (AS (some ⟨q,0,none⟩))) f) (hS:∀b,S b->b<w.heap.size) (t:p≠x):
 Calls PM 63 #[AS (some ⟨p,0,none⟩)] w λW c=>W=SF (T9 #[])/\a7 c x 79 (mU (SW (bn f) (AS (some ⟨q,0,none⟩))) g F d G (du co (bj f).1) (bj f).2)/\Kq w.heap.size [x] w c:=by
 have X:w.cell? ⟨p,0,none⟩=some (AS (some ⟨x,0,none⟩)):=C.cell 0;have c1:w.cell? ⟨x,0,none⟩=some (SW (bn f) (AS (some ⟨q,0,none⟩))):=D.cell 0;have hF:=AI λR(k:Kq w.heap.size [] w R)=>IR hC (K.keep (w':=R) λb N L=>k.kp.2 b L Sw) λb N=>SY (hS b N) k.kp.1
 replace C:=AI C;replace D:=AI D;replace K:=AI K;go_enter PM.func Tryz.func63 (by decide),Tryz.ntmps63
 go_wp2;refine wp_region_noPanic ?_;refine wp_region_held_drew (S:=λc=>c.cell? ⟨p,0,none⟩=some (AS (some ⟨x,0,none⟩))/\c.cell? ⟨x,0,none⟩=some (SW (bn f) (AS (some ⟨q,0,none⟩)))) (by rfl) ⟨X,c1⟩ ?_;intro m;refine ci 0 2 (AS (some ⟨x,0,none⟩)) rfl rfl (by kernel_rfl) (by kernel_rfl) (by kernel_rfl) (λ_ _ _ h=>h) (SE ⟨by rfl,λc a=> ?_⟩) m ?_
 .have⟨r,n⟩:=a;go_simp
 simp only[Sx,zq0];refine ci 1 3 (AS (some ⟨x,0,none⟩)) rfl rfl (by kernel_rfl) (by kernel_rfl) (by kernel_rfl) (λ_ _ _ h=>h) (SE ⟨by rfl,λc a=> ?_⟩) m ?_
 .have⟨r,n⟩:=a;go_simp
 simp only[Sx,zq0];refine ci 2 4 (AS (some ⟨x,0,none⟩)) rfl rfl (by kernel_rfl) (by kernel_rfl) (by kernel_rfl) (λ_ _ _ h=>h) (SE ⟨by rfl,λc a=> ?_⟩) m ?_
 .have⟨r,n⟩:=a;go_simp
 simp only[Sx,zq0];refine ci 3 5 (AS (some ⟨x,0,none⟩)) rfl rfl (by kernel_rfl) (by kernel_rfl) (by kernel_rfl) (λ_ _ _ h=>h) (SE ⟨by rfl,λc a=> ?_⟩) m ?_
 .have⟨r,n⟩:=a;go_simp
 simp only[Sx,zq0];refine ci 4 6 (AS (some ⟨x,0,none⟩)) rfl rfl (by kernel_rfl) (by kernel_rfl) (by kernel_rfl) (λ_ _ _ h=>h) (SE ⟨by rfl,λc a=> ?_⟩) m ?_
 .have⟨r,n⟩:=a;go_simp
 simp only[Sx,zq0];refine ci 5 7 (SW (bn f) (AS (some ⟨q,0,none⟩))) rfl rfl (by kernel_rfl) (by kernel_rfl) (by kernel_rfl) (λ_ _ _ h=>h) (SE ⟨by rfl,λc a=> ?_⟩) m ?_
 .have⟨r,n⟩:=a;go_simp
 simp only[Sx,zq0];refine jz 6 rfl rfl (by kernel_rfl) ?_;refine zJ 8 rfl 64 #[SW (bn f) (AS (some ⟨q,0,none⟩))] (by go_simp) _ (λc=>Kq w.heap.size [] w c) ((hF.out w.drew (Kq.refl w).drew).mono λW c h=>⟨h.1,(((Kq.refl w).drew).trans h.2:Kq w.heap.size [] w c)⟩) ?_;intro u H;have B:=C.out.kq H C.out.lt Sw;have i:=D.out.kq H D.out.lt Sw;have l:u.cell? ⟨p,0,none⟩=some (AS (some ⟨x,0,none⟩))/\u.cell? ⟨x,0,none⟩=some (SW (bn f) (AS (some ⟨q,0,none⟩))):=⟨B.cell 0,i.cell 0⟩;refine⟨l,?_⟩;have⟨V,P⟩:∃V,du co (bj f).1=V:=⟨_,rfl⟩;have⟨z,M⟩:∃z,(bj f).2=z:=⟨_,rfl⟩;simp only[P,M];unfold kL;simp only[Sx,zq0];refine ci 7 1 (T9 #[.agg #[Su SK (wz V 0),Su SK (wz V 1),Su SK (wz V 2),Su SK (wz V 3)],SU z]) rfl rfl (by kernel_rfl) (by kernel_rfl) (by kernel_rfl) (λ_ _ _ h=>h) (SE ⟨by rfl,λc a=> ?_⟩) l ?_
 .have⟨r,n⟩:=a;go_simp
 simp only[Sx,zq0];refine ci 8 9 (.agg #[Su SK (wz V 0),Su SK (wz V 1),Su SK (wz V 2),Su SK (wz V 3)]) rfl rfl (by kernel_rfl) (by kernel_rfl) (by kernel_rfl) (λ_ _ _ h=>h) (SE ⟨by rfl,λc a=> ?_⟩) l ?_
 .have⟨r,n⟩:=a;go_simp
 simp only[Sx,zq0];refine ci 9 10 (SU z) rfl rfl (by kernel_rfl) (by kernel_rfl) (by kernel_rfl) (λ_ _ _ h=>h) (SE ⟨by rfl,λc a=> ?_⟩) l ?_
 .have⟨r,n⟩:=a;go_simp
 simp only[Sx,zq0];refine ci 10 11 (AS (some ⟨x,0,none⟩)) rfl rfl (by kernel_rfl) (by kernel_rfl) (by kernel_rfl) (λ_ _ _ h=>h) (SE ⟨by rfl,λc a=> ?_⟩) l ?_
 .have⟨r,n⟩:=a;go_simp
 simp only[Sx,zq0];refine ci 11 12 (AS (some ⟨x,6,none⟩)) rfl rfl (by kernel_rfl) (by kernel_rfl) (by kernel_rfl) (λ_ _ _ h=>h) (SE ⟨by rfl,λc a=> ?_⟩) l ?_
 .have⟨r,n⟩:=a;go_simp
 simp only[Sx,zq0];have fz:∀j,u.frozen? ⟨x,j,none⟩=false:=i.frozen;have x6:=i.cell 6;have x7:=i.cell 7;have Z:=i.cell 8;have x9:=i.cell 9;simp only[mU,TP,TG,TF]at x6 x7 Z x9;refine jz 12 rfl rfl (by kernel_rfl) ?_;refine zI rfl ((((u.setCell ⟨x,6,none⟩ (Su SK (wz V 0))).setCell ⟨x,7,none⟩ (Su SK (wz V 1))).setCell ⟨x,8,none⟩ (Su SK (wz V 2))).setCell ⟨x,9,none⟩ (Su SK (wz V 3))) ?_ ?_
 .go_simp
 have s:a7 ((((u.setCell ⟨x,6,none⟩ (Su SK (wz V 0))).setCell ⟨x,7,none⟩ (Su SK (wz V 1))).setCell ⟨x,8,none⟩ (Su SK (wz V 2))).setCell ⟨x,9,none⟩ (Su SK (wz V 3))) x 79 (mU (SW (bn f) (AS (some ⟨q,0,none⟩))) g F d G V e):=(((i.bI 6 (Su SK (wz V 0))).bI 7 (Su SK (wz V 1))).bI 8 (Su SK (wz V 2))).bI 9 (Su SK (wz V 3));have y:=(((B.far (p:=⟨x,6,none⟩) (by exact t) (Su SK (wz V 0))).far (p:=⟨x,7,none⟩) (by exact t) (Su SK (wz V 1))).far (p:=⟨x,8,none⟩) (by exact t) (Su SK (wz V 2))).far (p:=⟨x,9,none⟩) (by exact t) (Su SK (wz V 3));have Q:Kq w.heap.size [x] w ((((u.setCell ⟨x,6,none⟩ (Su SK (wz V 0))).setCell ⟨x,7,none⟩ (Su SK (wz V 1))).setCell ⟨x,8,none⟩ (Su SK (wz V 2))).setCell ⟨x,9,none⟩ (Su SK (wz V 3))):=
  ((((H.mono (Sz _) nofun:Kq w.heap.size [x] w u).setCell (p:=⟨x,6,none⟩) (λ_=>Sv.2 rfl) _).setCell (p:=⟨x,7,none⟩) (λ_=>Sv.2 rfl) _).setCell (p:=⟨x,8,none⟩) (λ_=>Sv.2 rfl) _).setCell (p:=⟨x,9,none⟩) (λ_=>Sv.2 rfl) _
 generalize (((u.setCell ⟨x,6,none⟩ (Su SK (wz V 0))).setCell ⟨x,7,none⟩ (Su SK (wz V 1))).setCell ⟨x,8,none⟩ (Su SK (wz V 2))).setCell ⟨x,9,none⟩ (Su SK (wz V 3))=E at s y Q ⊢;have v:E.cell? ⟨p,0,none⟩=some (AS (some ⟨x,0,none⟩))/\E.cell? ⟨x,0,none⟩=some (SW (bn f) (AS (some ⟨q,0,none⟩))):=⟨y.cell 0,s.cell 0⟩;refine⟨v,?_⟩;refine ci 13 13 (AS (some ⟨x,0,none⟩)) rfl rfl (by kernel_rfl) (by kernel_rfl) (by kernel_rfl) (λ_ _ _ h=>h) (SE ⟨by rfl,λc a=> ?_⟩) v ?_
 .have⟨r,n⟩:=a;go_simp
 simp only[Sx,zq0];refine ci 14 14 (AS (some ⟨x,10,none⟩)) rfl rfl (by kernel_rfl) (by kernel_rfl) (by kernel_rfl) (λ_ _ _ h=>h) (SE ⟨by rfl,λc a=> ?_⟩) v ?_
 .have⟨r,n⟩:=a;go_simp
 simp only[Sx,zq0];have I:=s.cell 10;have fz4:∀j,E.frozen? ⟨x,j,none⟩=false:=s.frozen;simp only[mU,TP,TG,TF]at I;refine jz 15 rfl rfl (by kernel_rfl) ?_;refine zI rfl (E.setCell ⟨x,10,none⟩ (SU z)) ?_ ?_
 .go_simp
 have A:a7 (E.setCell ⟨x,10,none⟩ (SU z)) x 79 (mU (SW (bn f) (AS (some ⟨q,0,none⟩))) g F d G V z):=s.bI 10 (SU z);refine⟨⟨(y.far (p:=⟨x,10,none⟩) (by exact t) (SU z)).cell 0,A.cell 0⟩,?_⟩;refine wpAnyH_done (by kernel_rfl) ?_ _;refine Ud ?_;exact bodyPost_end (results_none rfl ..) rfl ⟨rfl,by rw[P,M];exact A,Q.setCell (p:=⟨x,10,none⟩) (λ_=>Sv.2 rfl) _⟩
end
section
open Go.RowKit Go.Conc
attribute [local instance] fI
def GP{a n w}(b:w.cell? a=some (Su Tt n)):(callFunc 129 #[AS (some a)]).run PH w= .ok (.value (Su Tt n)) w:=
 run_call_load (PH.func Tryz.func129 (by decide)) (by kernel_rfl) (by kernel_rfl) (by kernel_rfl) Tt wU b
def GO{a n u w}(c:w.cell? a=some u)(b:w.frozen? a=false):(callFunc 156 #[AS (some a),Su Tt n]).run PH w= .ok (.value (T9 #[])) (w.setCell a (Su Tt n)):=
 run_call_store (PH.func Tryz.func156 (by decide)) (by kernel_rfl) (by kernel_rfl) (by kernel_rfl) wT c b
def yE{x j b w}(c:w.cell? ⟨x,j,none⟩=some (Su Tt (if b then 1 else 0))):Calls PH 93 #[AS (some ⟨x,j,none⟩)] w λe a=>e=SF (SU b)/\a=w:=by
 have d:=GP c;cases b;all_goals
  go_enter PH.func Tryz.func93 (by decide),Tryz.ntmps93
  go_wp2;go_ret;simp
def MO(w):Calls PH 157 #[SU true] w λe a=>e=SF (Su Tt 1)/\a=w:=by
 go_enter PH.func Tryz.func157 (by decide),Tryz.ntmps157
 go_wp2;go_ret;simp
section
variable{h0:Array Obj}{w:SN}{x j:Nat}
def JO{u}(l:w.cell? ⟨x,j,none⟩=some u)(f:w.frozen? ⟨x,j,none⟩=false):
 tR (br ek h0) 132 #[AS (some ⟨x,j,none⟩),SU true] w λb=>jw b (w.setCell ⟨x,j,none⟩ (Su Tt 1)):=by
 refine rV (bP (by decide)) (PH.func Tryz.func132 (by decide)) rfl rfl ?_;simp only[Tryz.ntmps132,SR,SD,SV,T6,T5,SM,SL,SS,SO,SQ,SG];refine bm λe d=> ?_
 have k:=(d.cell _).trans l;have i:=(d.frozen _).trans f;refine wp_region_noPanic ?_;refine wp_region_held_drew (S:=λ_=>True) (by rfl) trivial ?_;intro a;refine ci 0 4 (AS (some ⟨x,j,none⟩)) rfl rfl (by kernel_rfl) (by kernel_rfl) (by kernel_rfl) (λ_ _ _ h=>h) (SE ⟨by rfl,λb c=> ?_⟩) a ?_
 .go_simp
 simp only[Sx,zq0];refine ci 1 5 (AS (some ⟨x,j,none⟩)) rfl rfl (by kernel_rfl) (by kernel_rfl) (by kernel_rfl) (λ_ _ _ h=>h) (SE ⟨by rfl,λb c=> ?_⟩) a ?_
 .go_simp
 simp only[Sx,zq0];refine ci 2 6 (AS (some ⟨x,j,none⟩)) rfl rfl (by kernel_rfl) (by kernel_rfl) (by kernel_rfl) (λ_ _ _ h=>h) (SE ⟨by rfl,λb c=> ?_⟩) a ?_
 .go_simp
 simp only[Sx,zq0];refine ci 3 7 (SU true) rfl rfl (by kernel_rfl) (by kernel_rfl) (by kernel_rfl) (λ_ _ _ h=>h) (SE ⟨by rfl,λb c=> ?_⟩) a ?_
 .go_simp
 simp only[Sx,zq0];refine jz 4 rfl rfl (by kernel_rfl) ?_;refine zJ 8 rfl 157 #[SU true] (by go_simp) _ (λb=>b=e.drew) (MO _) ?_;rintro _ rfl;refine⟨trivial,?_⟩;simp only[Sx,zq0];refine jz 5 rfl rfl (by kernel_rfl) ?_;have g:=GO (n:=1) (w:=e.drew) k i;refine LB 9 rfl (T9 #[]) (e.drew.setCell ⟨x,j,none⟩ (Su Tt 1)) ?_ ?_
 .go_simp
 refine⟨trivial,?_⟩;refine wpAnyH_done (by kernel_rfl) ?_ _;refine Ud ?_;exact⟨.inl rfl,rfl,(⟨d.heap,d.os,d.out⟩:jw e.drew w).set ⟨x,j,none⟩ (Su Tt 1)⟩
end
def jw.kq{w w' B X}(h:jw w' w):Kq B X w w':=⟨⟨by simp[h.heap],λb _ _=>by rw[h.heap]⟩,h.os,h.out⟩
def La{w x c b g d f T e}(h:a7 w x 79 (mU b g c d f T e))(a):a7 (w.setCell ⟨x,4,none⟩ (Su .i32 a)) x 79 (mU b g c d a T e):=h.bI 4 (Su .i32 a)
def OI{w x c b g d f T e}(h:a7 w x 79 (mU b g c d f T e))(a):a7 (w.setCell ⟨x,3,none⟩ (Su Tt a)) x 79 (mU b g c a f T e):=h.bI 3 (Su Tt a)
def Kt{h0 S k}(hC:fh S k){w p x q fl tp g T e}(D:a7 w p tp #[AS (some ⟨x,0,none⟩)])
 (l:a7 w x 79 (mU (SW (bn k) (AS (some ⟨q,0,none⟩))) g fl 0 0 T e)) (hR:Repr w S (SW (bn k) (AS (some ⟨q,0,none⟩))) k) (hS:∀b,S b->b<w.heap.size/\b≠x) (s:p≠x):
 cb (br ek h0) 94 #[AS (some ⟨x,3,none⟩),.func (.func 63) #[] #[AS (some ⟨p,0,none⟩)]] w λE w'=>E=SF (T9 #[])/\a7 w' x 79 (mU (SW (bn k) (AS (some ⟨q,0,none⟩))) g fl 1 0 (du co (bj k).1) (bj k).2)/\Kq w.heap.size [x] w w':=by
 refine vl (bP (by decide)) (PH.func Tryz.func94 (by decide)) rfl rfl ?_;simp only[Tryz.ntmps94,SR,SD,SV,T6,T5,SM,SL,SS,SO,SQ,SG];refine ac λK m=> ?_
 refine ao ?_;show aV _ _ _ (SH 0 (3+1)) ..;refine bq 0 3 1 (λN hN I e1=> ?_) (by decide);simp only[zq1];have k1:Kq w.heap.size [x] w I:=e1.kq;have z:=l.kq (e1.kq (B:=w.heap.size) (X:=[])) l.lt Sw;have t:=AI (⟨k1,z⟩:_/\_);have z3:I.cell? ⟨x,3,none⟩=some (Su Tt 0):=z.cell 3;replace l:=AI l;replace D:=AI D;replace hR:=AI hR;go_wp2;refine hN.out _ _ ?_;refine f9 (f:=130) (i:=3) (rest:=SH 4 0) rfl rfl λu=>by simp[go_sem] (bP (by decide)) (Mo (t.out.2.cell 4) (t.out.2.frozen 4)) (λv M H=> ?_) λch M H=>nomatch H.1
 have⟨hv,e2⟩:=H;cases hv;have hx2:=(La t.out.2 1).kq (e2.kq (B:=I.heap.size) (X:=[])) t.out.2.lt Sw;have k2:Kq w.heap.size [x] w M:=(t.out.1.setCell (p:=⟨x,4,none⟩) (λ_=>Sv.2 rfl) (Su .i32 1)).trans e2.kq;have G:=AI (⟨k2,hx2⟩:_/\_);simp only[Sx,zq0];refine az (m.out _ _ ?_);refine bm λA e3=> ?_
 have C:Kq w.heap.size [x] w A:=G.out.1.trans e3.kq;have n:=G.out.2.kq (e3.kq (B:=M.heap.size) (X:=[])) G.out.2.lt Sw;have y:∀b,b≠x->b∉[x]:=λb h l=>h (Sv.1 l)
 have P:=D.out.kq C D.out.lt (y _ s);have L:=hR.out.keep (w':=A) λb hb R=>C.kp.2 b R (y _ (hS b hb).2)
 have r:w.heap.size<=A.heap.size:=C.kp.1;have hL:=yE (b:=false) (x:=x) (j:=3) (w:=A) (n.cell 3);have hF:=AI (Ia hC P n L (λb hb=>SY (hS b hb).1 r) s);have A3:=AI C;go_wp2;refine hL.mono ?_;rintro E w4 ⟨rfl,rfl⟩;go_wp2;refine hF.out.mono ?_;rintro E w5 ⟨rfl,a,k5⟩;have F:Kq w.heap.size [x] w w5:=A3.out.trans (k5.mono A3.out.kp.1 λ_ h _=>h);replace a:=AI a;go_wp2;refine⟨_,_,_,_,rfl,λu=>by simp[go_sem],bP (by decide),λc Z K W hm m=>JO (a.out.cell 3) (a.out.frozen 3) c Z K W hm λQ e6=>m Q ?_⟩;have d:=(OI a.out 1).kq (e6.kq (B:=w5.heap.size) (X:=[])) a.out.lt Sw;have k6:Kq w.heap.size [x] w Q:=(F.setCell (p:=⟨x,3,none⟩) (λ_=>Sv.2 rfl) (Su Tt 1)).trans e6.kq;refine⟨_,_,_,_,rfl,λu=>by simp[go_sem],bP (by decide),λc Z K W hm m=>Hm (d.cell 4) (d.frozen 4) c Z K W hm λw7 e7=>m w7 ?_⟩;exact⟨(La d 0).kq (e7.kq (B:=Q.heap.size) (X:=[])) d.lt Sw,(k6.setCell (p:=⟨x,4,none⟩) (λ_=>Sv.2 rfl) (Su .i32 0)).trans e7.kq⟩
structure kh(w:SN)(x q fl:Nat)(g:Int)(nd:Nd)(S:Nat->Prop)(dn:Bool)(T:cS)(e:Bool):Prop where
 blk:a7 w x 79 (mU (SW (bn nd) (AS (some ⟨q,0,none⟩))) g fl (if dn then 1 else 0) 0 T e)
 rep:Repr w S (SW (bn nd) (AS (some ⟨q,0,none⟩))) nd
 low:∀b,S b->b<w.heap.size/\b≠x
 had:dn=true->T=du co (bj nd).1/\e=(bj nd).2
def kh.kq{w w' x q i g d S f T e}(h:kh w x q i g d S f T e)(k:Kq w.heap.size [] w w'):kh w' x q i g d S f T e:=
 ⟨h.blk.kq k h.blk.lt Sw,h.rep.keep λb a c=>k.kp.2 b c Sw,λb a=>⟨SY (h.low b a).1 k.kp.1,(h.low b a).2⟩,h.had⟩
def PX{h0 S k}(R:fh S k){w p x q G W g D T e}(m:a7 w p W #[AS (some ⟨x,0,none⟩)])
 (d:kh w x q G g k S D T e) (r:p≠x):
 cb (br ek h0) 62 #[AS (some ⟨x,3,none⟩),.func (.func 63) #[] #[AS (some ⟨p,0,none⟩)]] w λy z=>y=SF (T9 #[])/\kh z x q G g k S true (du co (bj k).1) (bj k).2/\Kq w.heap.size [x] w z:=by
 refine bu (bP (by decide)) (λz h=>nomatch h.1) (PH.func Tryz.func62 (by decide)) rfl ?_;simp only[Tryz.ntmps62,SR,SD,SV,T6,T5,SM,SL,SS,SO,SQ,SG];refine ac λK H=> ?_
 refine bm λP c=> ?_
 have I:=yE (b:=D) (x:=x) (j:=3) (w:=P) ((c.cell _).trans (d.blk.cell 3));replace c:=AI c;replace d:=AI d;replace m:=AI m;cases D
 .go_wp2;refine I.mono ?_;rintro y M ⟨rfl,rfl⟩;go_wp2;refine H.out _ _ ?_;refine bG rfl ?_;refine ao ?_;show aV _ _ _ (SH 0 (2+1)) ..;refine bq 0 2 1 (λN Q w2 l=> ?_) (by decide);simp only[zq1];replace l:=AI (l.trans c.out);go_wp2;refine Q.out _ _ ?_;have C:=l.out.kq (B:=w.heap.size) (X:=[]);have a:=d.out.kq C;refine f9 (f:=94) (i:=2) (rest:=SH 3 0) rfl rfl λu=>by simp[go_sem] (bP (by decide)) (Kt R (m.out.kq C m.out.lt Sw) a.blk a.rep a.low r) (λv L A=> ?_) λch L A=>nomatch A.1
  have⟨Z,h3,t⟩:=A;cases Z;have s:=C.kp.1;have F:Kq w.heap.size [x] w L:=(l.out.kq).trans (t.mono s λ_ h _=>h);refine az ⟨rfl,_,results_none rfl ..,rfl,⟨h3,a.rep.keep λb n E=>t.kp.2 b E λh=>(a.low b n).2 (Sv.1 h),λb n=>⟨SY (a.low b n).1 t.kp.1,(a.low b n).2⟩,λ_=>⟨rfl,rfl⟩⟩,F⟩
 .go_wp2;refine I.mono ?_;rintro y M ⟨rfl,rfl⟩;go_wp2;refine H.out _ _ ?_;refine bK rfl ?_;refine fS ?_;have⟨rfl,rfl⟩:=d.out.had rfl;exact⟨rfl,_,results_none rfl ..,rfl,d.out.kq c.out.kq,c.out.kq⟩
end
def or_bit{a b j:Nat}:(a|||b).testBit j=true↔a.testBit j=true\/b.testBit j=true:=by rw[Nat.testBit_or,Tw]
def LS{M k a i j}:(dL M (k::a) i).testBit j=true↔∃c,c<320/\(bv M k i).testBit c=true/\(dL M a c).testBit j=true:=by rw[dL,pd]
def aac{M k a i j}:(iK M (k::a) i).testBit j=true↔(bv M k i).testBit j=true\/(iK M a i).testBit j=true:=by rw[iK,or_bit]
def Q0{g l m f a i j}:(pU g l m (f+1) a i).testBit j=true↔l<=a/\i=j\/(a:Int)≠m/\∃c,c<320/\(g i).testBit c=true/\(i<c\/(a:Int)<l)/\(pU g l m f (bS l m a) c).testBit j=true:=by
 rw[pU,or_bit];refine or_congr ?_ ?_;grind [tN]
 split;next h=>simp[h]
 next h=>
 rw[pd];grind
section
section
variable{M:MT}
def gU(G:Int)(i j:Nat)(a:Notes):Prop:=∀x∈a,0<x.1/\x.1<=G/\i<=x.2.1/\x.2.1<=x.2.2/\x.2.2<=j
def gU.nil{G i j}:gU G i j []:=λ_ h=>nomatch h
def gU.app{G i c j a b}(f:gU G i c a)(e:gU G c j b)(k:i<=c)(g:c<=j):gU G i j (a++b):=λx d=>by
 rcases TH.1 d with h|h
 have:=f x h;omega;have:=e x h;omega
def uE{G k l m h j}(d:∀i c,i<=M.s.size->(bv M k i).testBit c=true->gU G i c (h i c)):
 ∀f b i,i<=M.s.size->gU G i j (jJ M k l m h j f b i)
 |0,_,_,_=>.nil
 |f+1,b,i,e=>by
  rw[jJ];split;split
  .next c n=>
   rw[j4]at n;have⟨r,q,p,_⟩:=n;rw[Tg]at p;have g:=bZ M k i e c q;exact(d i c e q).app (uE d f _ c g.2) g.1 (vz (l:=l) (m:=m) (λi e=>bZ M k i e) _ _ c g.2 j p.2).1
  .exact uE d f _ i e
  exact .nil
mutual
def walk_in{G lo hi}:∀r,be G lo hi r->∀i j,i<=M.s.size->(bv M r i).testBit j=true->gU G i j (de M r i j)
 | .set ..,_,_,_,_,_=>by rw[de];exact .nil
 | .edge ..,_,_,_,_,_=>.nil
 | .seq _ e,f,i,j,hi,h=>zS e f.2 i j hi h
 | .alt _ e,f,i,j,hi,h=>zT e f.2 i j hi
 | .grp _ k z,f,i,j,hi,h=>by
  intro x s;rcases SX.1 s with rfl|s
  exact⟨f.2.1,f.2.2.1,Sz _,(bZ M k i hi j h).1,Sz _⟩;exact walk_in k f.2.2.2 i j hi h x s
 | .rep _ k l m,f,i,j,hi,h=>uE (λi c hi w=>walk_in k f.2.2.2.2 i c hi w) _ 0 i hi
def zS{G lo hi:Int}:∀(e:List Nd),bV G lo hi e->∀i j,i<=M.s.size->(dL M e i).testBit j=true->gU G i j (jI M e i j)
 |[],_,_,_,_,_=>.nil
 |k::e,f,i,j,hi,h=>by
  have⟨v,g,n⟩:=f;rw[jI];split
  .next c p=>
   rw[j4]at p;have⟨y,t,u,_⟩:=p;have q:=bZ M k i hi c t;exact(walk_in k g i c hi t).app (zS e n c j q.2 u) q.1 (qH M e c q.2 j u).1
  .next p=>
   rw[oX]at p;have⟨c,y,t,u⟩:=LS.1 h<;>grind
def zT{G lo hi:Int}:∀(e:List Nd),bV G lo hi e->∀i j,i<=M.s.size->gU G i j (oq M e i j)
 |[],_,_,_,_=>.nil
 |k::e,f,i,j,hi=>by
  have⟨v,g,n⟩:=f;rw[oq];split;next h=>exact walk_in k g i j hi h
  exact zT e n i j hi
end
def Du(g:Nat)(a):(∀x∈a,x.1≠(g:Int))/\nn a g=(-1,-1)\/∃x∈a,x.1=(g:Int)/\nn a g=((x.2.1:Int),(x.2.2:Int)):=by
 unfold nn;generalize (-1,-1)=u;induction a generalizing u<;>grind
def Je{c}{G:Nat}{lo d}(k:be G lo d c)(i:0<=lo){b j}(l:b<=M.s.size)(h:(bv M c b).testBit j=true):
 nn (((0:Int),b,j)::de M c b j) 0=((b:Int),(j:Int))/\∀g,0<g->nn (((0:Int),b,j)::de M c b j) g=(-1,-1)\/∃x y,b<=x/\x<=y/\y<=j/\nn (((0:Int),b,j)::de M c b j) g=((x:Int),(y:Int)):=by
 have f:=walk_in c k b j l h;constructor;rcases Du 0 ((0,b,j)::de M c b j)with⟨a,_⟩|⟨x,a,m,e⟩<;>first |exact absurd rfl (a _ Tm)|(rw[e];rcases SX.1 a with rfl|a<;>first |rfl|(have:=f x a;omega))
 intro g n;rcases Du g ((0,b,j)::de M c b j)with⟨_,a⟩|⟨x,a,m,e⟩<;>first |exact .inl a|(refine .inr ⟨x.2.1,x.2.2,?_⟩;rcases SX.1 a with rfl|a<;>first |omega |(have:=f x a;grind))
end
end
section
open Go.RowKit Go.Conc
attribute [local instance] fI
theorem yF(g:Nat):∀b L c,(∀n∈b,0<=n.1)->(dH b L)[g]?=some (b.foldl (λx n=>if n.1=(g:Int)then((n.2.1:Int),(n.2.2:Int))else x) L[g])
 |[],L,c,_=>by simp[dH]
 |n::b,L,c,h=>by
  have:=yF g b (L.set n.1.toNat (n.2.1,n.2.2)) (by simpa using c) λm d=>h m (Th _ d)
  refine(show _=_ from this).trans ?_;grind
def Fa{a G}(h:∀n∈a,0<=n.1):dH a (SC (G+1) dM)=(TD (G+1)).map (nn a):=by
 apply List.ext_getElem?;grind [yF,nn,oZ]
def J1{w x c b g d a T e}(h:a7 w x 79 (mU b g c d a T e)):w.cell? ⟨x,6,none⟩=some (Su SK (wz T 0))/\w.cell? ⟨x,7,none⟩=some (Su SK (wz T 1))/\w.cell? ⟨x,8,none⟩=some (Su SK (wz T 2))/\w.cell? ⟨x,9,none⟩=some (Su SK (wz T 3)):=⟨h.cell 6,h.cell 7,h.cell 8,h.cell 9⟩
def P0(b:SN)(a:Nat)(G:Nat)(v:Tn):Option (List (Int×Int))->Prop
 |none=>v=SI none 0 0
 |some L=>∃g,a<=g/\v=SI (some ⟨g,0,none⟩) (G+1) (G+1)/\a7 b g 35 (dw L)
structure za(E:ME)(w:SN)(x q fl:Nat)(g:Int)(nd:Nd)(S:Nat->Prop)(B G p:Nat)(wr:SN):Prop where
 mem:cI E wr
 rx:kh wr x q fl g nd S true (du co (bj nd).1) (bj nd).2
 sp:∃L:Sp,L.length=G+1/\a7 wr (B+1) 35 (dw L)
 box:a7 wr p 23 #[AS (some ⟨x,0,none⟩)]
 kq:Kq w.heap.size [x] w wr
def za.NE{E w d u x q i B G p g j S}(h:za E w x q i g j S B G p d){X}(k:Kq d.heap.size X d u)(hX:∀b∈X,B<=b)(e:x<B)(l:p<B)(n:∀b,S b->b<B)(m:w.heap.size<=B)
 (r:cI E u) (hs:∃L,L.length=G+1/\a7 u (B+1) 35 (dw L)):za E w x q i g j S B G p u:=by
 have f:∀b,b<B->b∉X:=λb a e=>by have:=hX b e;omega
 exact⟨r,⟨h.rx.blk.kq k h.rx.blk.lt (f _ e),h.rx.rep.keep λb a c=>k.kp.2 b c (f _ (n b a)),λb a=>⟨SY (h.rx.low b a).1 k.kp.1,(h.rx.low b a).2⟩,h.rx.had⟩,hs,h.box.kq k h.box.lt (f _ l),
  h.kq.trans (k.mono h.kq.kp.1 λb a c=>by have:=hX b a;omega)⟩
def za.Hv{E w c u x q d B G p g e S}(h:za E w x q d g e S B G p c)(k:Kq c.heap.size [] c u)(n:x<B)(i:p<B)(m:∀b,S b->b<B)(a:w.heap.size<=B):za E w x q d g e S B G p u:=by
 have⟨L,j,f⟩:=h.sp;exact h.NE k (λb l=>nomatch l) n i m a (h.mem.kq k) ⟨L,j,f.kq k f.lt Sw⟩
def HZ{h0 S d w}{x q A ev G:Nat}{dn T e}{s:ByteArray}{i}(hx:kh w x q A G d S dn T e)(hT:je d G)(hs:s.size<=300)(hfl:A<256)(hev:ev<256)(hi:i<=s.size):
 cb (br ek h0) 49 #[AS (some ⟨x,0,none⟩),SJ s,Su Ti ev,Su Sy i] w λe' w'=>∃v,e'=SF v/\P0 w' w.heap.size G v (fj ⟨s,A,ev⟩ d G (s.size+1-i) i)/\kh w' x q A G d S true (du co (bj d).1) (bj d).2/\Kq w.heap.size [x] w w':=by
 have hC:fh S d:=first_any (E:=uT s A ev G d S 0) (yI hT) (λi k l m h=>by
  obtain⟨hi,hh,hw⟩:=hT.w;obtain⟨_,_,_,_,hn⟩:=be.sub d hw _ h;simp only[be]at hn;have:=p9 (n:=l.toNat) (by omega);rwa [show((l.toNat:Nat):Int)=l from by omega]at this) (λi ks h=>by
  obtain⟨hi,hh,hw⟩:=hT.w;obtain⟨lo,h',_,_,hn⟩:=be.sub d hw _ h;simp only[be]at hn;have:=bV.le ks hn.2;have:=be.ids d hw _ h;simp only[Nd.id]at this;omega) d λa h=>h
 refine bu (bP (by decide)) (λw' ⟨v,h,_⟩=>nomatch h) (PH.func Tryz.func49 (by decide)) rfl ?_;simp only[Tryz.ntmps49,SR,SD,SV,T6,T5,SM,SL,SS,SO,SQ,SG];refine ac λK hK=> ?_
 refine bm λw1 e1=> ?_
 replace e1:=AI e1;replace hx:=AI hx;go_wp2;refine hK.out _ _ ?_;obtain⟨p,hp⟩:∃p,p=w1.heap.size:=⟨_,rfl⟩;have hpw:p=w.heap.size:=by rw[hp,e1.out.heap]
 have hkW:Kq w1.heap.size [] w1 (w1.alloc (SP #[AS (some ⟨x,0,none⟩)] 23)):=(Kq.refl w1).alloc (Sz _) _;have hx1:=(hx.out.kq e1.out.kq).kq hkW;have hb1:a7 (w1.alloc (SP #[AS (some ⟨x,0,none⟩)] 23)) p 23 #[AS (some ⟨x,0,none⟩)]:=hp▸a7.new w1 ..;have hk1:Kq w.heap.size [x] w (w1.alloc (SP #[AS (some ⟨x,0,none⟩)] 23)):=(e1.out.kq).alloc (by rw[hpw.symm.trans hp];exact Sz _) _;rw[<- hp];generalize w1.alloc (SP #[AS (some ⟨x,0,none⟩)] 23)=W at *;have hpx:p≠x:=by have:=hx.out.blk.lt;omega
 replace hpw:=AI hpw;clear hkW hx e1 hp;refine ac λK hK=> ?_
 refine ao ?_;show aV _ _ _ (SH 0 (4+1)) ..;refine bq 0 4 1 (λN hN w2 e2=> ?_) (by decide);simp only[zq1];have hx2:=hx1.kq e2.kq;have hb2:=hb1.kq (e2.kq (B:=W.heap.size) (X:=[])) hb1.lt Sw;have hk2:Kq w.heap.size [x] w w2:=hk1.trans e2.kq;have v0:w2.cell? ⟨p,0,none⟩=some (AS (some ⟨x,0,none⟩)):=hb2.cell 0;have A2:=AI (⟨hx2,hb2,hk2⟩:_/\_/\_);go_wp2;refine hN.out _ _ ?_;refine f9 (f:=62) (i:=4) (rest:=SH 5 0) rfl rfl λu=>by simp[go_sem] (bP (by decide)) (PX hC A2.out.2.1 A2.out.1 hpx) (λv w3 hr=> ?_) λch w3 hr=>nomatch hr.1
 obtain⟨R,hx3,k3⟩:=hr;cases R;have hb3:=A2.out.2.1.kq k3 A2.out.2.1.lt λh=>hpx (Sv.1 h)
 have hk3:Kq w.heap.size [x] w w3:=A2.out.2.2.trans (k3.mono A2.out.2.2.kp.1 λ_ h _=>h);have A3:=AI (⟨hx3,hb3,hk3⟩:_/\_/\_);simp only[T4,T0,SZ];simp only[Sx,zq0];refine az (hK.out _ _ ?_);refine bm λF e4=> ?_
 have hx4:=A3.out.1.kq e4.kq;have hb4:=A3.out.2.1.kq (e4.kq (B:=w3.heap.size) (X:=[])) A3.out.2.1.lt Sw;have hk4:Kq w.heap.size [x] w F:=A3.out.2.2.trans e4.kq;have v0:F.cell? ⟨p,0,none⟩=some (AS (some ⟨x,0,none⟩)):=hb4.cell 0;have v1:F.cell? ⟨x,1,none⟩=some (Su Sy G):=hx4.blk.cell 1;have v2:F.cell? ⟨x,2,none⟩=some (Su Ti A):=hx4.blk.cell 2;have A4:=AI (⟨hx4,hb4,hk4⟩:_/\_/\_);have hN:=AI (MX s A ev G (by have:=hT.g9;omega) F.drew);go_wp2;go_still_tail 10,by kernel_rfl
 change wpList _ _ _ _ _ F.drew;go_wp2;refine hN.out.mono ?_;rintro e' w5 ⟨rfl,hm5,hr5,hs5,k5⟩;have hz4:F.drew.heap.size=F.heap.size:=rfl;rw[hz4]at hm5 hr5 hs5 k5;rw[hz4];obtain⟨B,hB⟩:∃B,F.heap.size=B:=⟨_,rfl⟩;have k45:Kq F.heap.size [] F w5:=((Kq.refl F).drew).trans k5;have C:w.heap.size<=B:=hB▸A4.out.2.2.kp.1;have hSB:∀b,S b->b<F.heap.size:=λb hb=>(A4.out.1.low b hb).1
 have hE:=Mm (s:=s) (f:=A) (e:=ev) (G:=G) hs hfl hev hT hSB;have hW:=yI (s:=s) (f:=A) (e:=ev) (G:=G) (S:=S) (B:=F.heap.size) hT;have hG:=Ml (s:=s) (f:=A) (e:=ev) (G:=G) hT hSB;have hM5:=JQ (s:=s) (f:=A) (e:=ev) (G:=G) (w':=w5) A4.out.1.rep hSB hm5 hr5 k45;have P:x<B:=hB▸A4.out.1.blk.lt;have H:p<B:=hB▸A4.out.2.1.lt;have I5:za (uT s A ev G d S F.heap.size) w x q A G d S F.heap.size G p w5:=⟨hM5,A4.out.1.kq k45,⟨_,by simp,hs5⟩,A4.out.2.1.kq k45 A4.out.2.1.lt Sw,A4.out.2.2.trans (k45.mono A4.out.2.2.kp.1 nofun)⟩;rw[hB]at hE hW hG I5;rw[hB];have h9:=hT.g9;have y:=AI (hB▸hSB:∀b,S b->b<B);replace I5:=AI I5;replace hB:=AI hB;replace C:=AI C;replace h9:=AI h9;go_wp2;go_loopw [10] (λc wr=>∃n:Nat,i<=n/\n<=s.size+1/\c=Su Sy n/\za (uT s A ev G d S B) w x q A G d S B G p wr/\fj ⟨s,A,ev⟩ d G (s.size+1-n) n=fj ⟨s,A,ev⟩ d G (s.size+1-i) i) λc _=>s.size+1- (intOf c).toNat
 case atStart=>exact⟨i,Sz _,by omega,rfl,I5.out,rfl⟩
 case round=>
  obtain⟨n,hin,hns,rfl,I,g⟩:=hrel;by_cases hle:n<=s.size
  .have v0:wr.cell? ⟨p,0,none⟩=some (AS (some ⟨x,0,none⟩)):=I.box.cell 0;have vE:wr.cell? ⟨x,10,none⟩=some (SU (bj d).2):=I.rx.blk.cell 10;have v6:=J1 I.rx.blk;have hd1:decide (n<=s.size)=true:=by simpa using hle
   have hd2:(n:Int)<=(s.size:Int):=by omega
   have hfm:∃f,s.size+1-n=f+1/\s.size+1- (n+1)=f:=⟨s.size-n,by omega,by omega⟩;obtain⟨f,hf1,hf2⟩:=hfm;rw[hf1,fj]at g;have hmay:JU ⟨s,A,ev⟩ d n=((bj d).2||decide (n<s.size)&&du co (bj d).1 (s.get! n).toNat):=by simp[JU,du,co]
   rw[hmay]at g;obtain⟨V,hV⟩:∃V,du co (bj d).1=V:=⟨_,rfl⟩;obtain⟨z,hz⟩:∃z,(bj d).2=z:=⟨_,rfl⟩;rw[hV]at v6 g;rw[hz]at vE g;replace I:=AI I;replace g:=AI g;replace hV:=AI hV;replace hz:=AI hz;replace hf1:=AI hf1;replace hf2:=AI hf2;have hc:=(s.get! n).toNat_lt;obtain⟨c,Z⟩:∃c,(s.get! n).toNat=c:=⟨_,rfl⟩;rw[Z]at g hc;have hH:=BU V c hc;unfold kL at hH;have vN:wr.cell? ⟨x,0,none⟩=some (SW (bn d) (AS (some ⟨q,0,none⟩))):=I.out.rx.blk.cell 0;have hcase:Hid (z=true)\/Hid (z=false/\n<s.size/\V c=true)\/Hid (z=false/\n<s.size/\V c=false)\/Hid (z=false/\n=s.size):=by
    cases z
    .by_cases h:n=s.size
     .exact .inr (.inr (.inr (AI ⟨rfl,h⟩)))
     .cases R:V c
      .exact .inr (.inr (.inl (AI ⟨rfl,by omega,rfl⟩)))
      .exact .inr (.inl (AI ⟨rfl,by omega,rfl⟩))
    .exact .inl (AI rfl)
   replace Z:=AI Z;obtain⟨v60,v61,v62,v63⟩:=v6;rcases hcase with h|h|h|h
   case inr.inr.inr=>
    obtain⟨rfl,rfl⟩:=h.out;go_wp2;go_quiet (fail)
    go_wp2;go_roundw
    case rel=>exact⟨s.size+1,by omega,by omega,by push_cast;rfl,I.out.Hv ((Kq.refl wr).drewN nq) P H y.out C.out,by rw[hf2.out];simpa using g.out⟩
    case measure=>first |(simp[intOf];done)|(simp[intOf];omega)
   case inr.inr.inl=>
    obtain⟨rfl,hlt,R⟩:=h.out;have hd3:decide ((n:Int)=(s.size:Int))=false:=by simp;omega
    have hd4:((n:Int)==(s.size:Int))=false:=by simp;omega
    replace R:=AI R;go_wp2;go_still_tail 18,by kernel_rfl
    change wpList _ _ _ _ _ wr.drew;have hcs:s[n].toNat=c:=by
     rw[<- Z.out,show s.get! n=s[n]from by show s.data[n]! =_;rw[getElem!_pos s.data n hlt];rfl]
    rw[hcs]at *;go_wp2_with (first |(go_at_call 66;refine(hH _).mono ?_;rintro e' u ⟨rfl,Q⟩;replace Q:=AI (show Kq wr.heap.size [] wr u from⟨Q.kp,Q.os,Q.out⟩);rw[R.out])|fail)
    go_roundw
    case rel=>exact⟨n+1,by omega,by omega,by push_cast;rfl,I.out.Hv Q.out P H y.out C.out,by rw[hf2.out];have:=g.out;rw[R.out]at this;simpa using this⟩
    case measure=>first |(simp[intOf];done)|(simp[intOf];omega)
   case' inl=>
    obtain rfl:=h.out;have t:=g.out;rw[Bool.true_or,if_pos rfl]at t;replace t:=AI t;go_wp2;go_quiet (fail)
    have Q:=AI ((Kq.refl wr).drewN nq:Kq wr.heap.size [] wr (wr.drewN nq));replace v0:=show(wr.drewN nq).cell? ⟨p,0,none⟩=_ from v0;replace vN:=show(wr.drewN nq).cell? ⟨x,0,none⟩=_ from vN;generalize wr.drewN nq=u at *;go_wp2
   case' inr.inl=>
    obtain⟨rfl,hlt,R⟩:=h.out;have hd3:decide ((n:Int)=(s.size:Int))=false:=by simp;omega
    have hd4:((n:Int)==(s.size:Int))=false:=by simp;omega
    have t:=g.out;rw[R,decide_eq_true hlt,Bool.false_or,TU,if_pos rfl]at t;replace t:=AI t;replace R:=AI R;go_wp2;go_still_tail 18,by kernel_rfl
    change wpList _ _ _ _ _ wr.drew;have hcs:s[n].toNat=c:=by
     rw[<- Z.out,show s.get! n=s[n]from by show s.data[n]! =_;rw[getElem!_pos s.data n hlt];rfl]
    rw[hcs]at *;go_wp2_with (first |(go_at_call 66;refine(hH _).mono ?_;rintro e' u ⟨rfl,Q⟩;replace Q:=AI (show Kq wr.heap.size [] wr u from⟨Q.kp,Q.os,Q.out⟩);rw[R.out];replace v0:u.cell? ⟨p,0,none⟩=some (AS (some ⟨x,0,none⟩)):=(I.out.Hv Q.out P H y.out C.out).box.cell 0;replace vN:u.cell? ⟨x,0,none⟩=some (SW (bn d) (AS (some ⟨q,0,none⟩))):=(I.out.Hv Q.out P H y.out C.out).rx.blk.cell 0)|fail)
   all_goals
    have IU:=AI (I.out.Hv Q.out P H y.out C.out);have⟨L,hL,hLb⟩:=IU.out.sp;have hA:=Oo hE hW hG (w:=u) (q:=q) (i:=n) (L:=L) IU.out.mem IU.out.rx.rep hle hL hLb;refine hA.mono ?_;rintro e' w7 ⟨hM7,h7⟩;replace h7:match df (λ_=>true) (bv ⟨s,A,ev⟩ d n) 320 with|none=>e'=SF (SI none 0 0)/\Kq u.heap.size [B] u w7|some j=>e'=SF (SI (some ⟨B+1,0,none⟩) (G+1) (G+1))/\a7 w7 (B+1) 35 (dw (dH (((0:Int),n,j)::de ⟨s,A,ev⟩ d n j) (SC (G+1) dM)))/\Kq u.heap.size [B,B+1] u w7:=h7
    have r:=t.out;rw[DR]at r;cases hpk:df (λ_=>true) (bv ⟨s,A,ev⟩ d n) 320
    .rw[hpk]at h7 r;have⟨rfl,k7⟩:=h7;have I7:=AI (IU.out.NE k7 (λb hb=>by rw[Sv.1 hb];exact Sz _) P H y.out C.out hM7 ⟨L,hL,hLb.kq k7 hLb.lt λh=>by have:=Sv.1 h;omega⟩);replace r:=AI r;go_wp2;go_roundw
     case rel=>exact⟨n+1,by omega,by omega,by push_cast;rfl,I7.out,by rw[hf2.out];exact r.out⟩
     case measure=>first |(simp[intOf];done)|(simp[intOf];omega)
    .rename_i j;rw[hpk]at h7 r;have⟨rfl,hb7,k7⟩:=h7;have I7:=AI (IU.out.NE k7 λb hb=>by simp only[SX,Sw,or_false]at hb;omega P H y.out C.out hM7 ⟨_,by rw[oZ];simp,hb7⟩);have hbit:=(j4.1 hpk).2.1;have hwn:∀m∈((0:Int),n,j)::de ⟨s,A,ev⟩ d n j,0<=m.1:=λm hm=>by
      rcases SX.1 hm with rfl|hm
      .exact T8 _
      .have⟨hi9,hh9,hw9⟩:=hT.w;have:=(walk_in (M:=⟨s,A,ev⟩) d hw9 n j hle hbit m hm).1;omega
     rw[Fa hwn]at hb7;replace hb7:=AI hb7;replace r:=AI r;go_wp2;go_ret;refine⟨_,rfl,?_,I7.out.rx,I7.out.kq⟩;rw[<- r.out];exact⟨B+1,by have:=C.out;omega,rfl,hb7.out⟩
  .obtain rfl:n=s.size+1:=by omega
   have hd1:decide (s.size+1<=s.size)=false:=by simp
   have hd2:¬ ((s.size+1:Nat):Int)<=(s.size:Int):=by omega
   rw[show s.size+1- (s.size+1)=0 from by omega,fj]at g;replace I:=AI I;replace g:=AI g;go_wp2;go_ret;refine⟨_,rfl,?_,I.out.rx,I.out.kq⟩;rw[<- g.out];rfl
def iM(w b:SN)(x q c:Nat)(G:Nat)(a:Nd)(S:Nat->Prop):Prop:=kh b x q c G a S true (du co (bj a).1) (bj a).2/\Kq w.heap.size [x] w b
section
variable{h0:Array Obj}{S:Nat->Prop}{nd:Nd}{w:SN}{x q fl ev G:Nat}{dn:Bool}{T:cS}{e:Bool}{s:ByteArray}
def GM(D:kh w x q fl G nd S dn T e)(X:je nd G)(hs:s.size<=300)(C:fl<256)(z:ev<256):
 cb (br ek h0) 31 #[AS (some ⟨x,0,none⟩),SJ s,Su Ti ev] w λe' F=>e'=SF (T9 #[SU (fj ⟨s,fl,ev⟩ nd G (s.size+1) 0).isSome,TW])/\iM w F x q fl G nd S:=by
 refine bu (bP (by decide)) (λF h=>nomatch h.1) (PH.func Tryz.func31 (by decide)) rfl ?_;simp only[Tryz.ntmps31,SR,SD,SV,T6,T5,SM,SL,SS,SO,SQ,SG];have Q:decide (300<s.size)=false:=by simpa using hs
 have hd2:¬ (300:Int)<(s.size:Int):=by omega
 refine ac λK k=> ?_
 refine bm λw1 A=> ?_
 replace A:=AI A;replace D:=AI D;go_wp2;refine k.out _ _ ?_;refine ac λK k=> ?_
 refine bm λw2 y=> ?_
 replace y:=AI (y.trans A.out);go_wp2;refine k.out _ _ ?_;refine ac λK k=> ?_
 refine ao ?_;show aV _ _ _ (SH 0 (3+4)) ..;refine bq 0 3 4 (λN r w3 d=> ?_) (by decide);simp only[zq1];replace d:=AI (d.trans y.out);go_wp2;refine r.out _ _ ?_;have B:=D.out.kq d.out.kq;refine f9 (f:=49) (i:=3) (rest:=SH 4 (3+0)) rfl rfl λu=>by simp[go_sem] (bP (by decide)) (HZ (i:=0) (ev:=ev) (s:=s) B X hs C z (Ta _)) (λv H n=> ?_) λch H n=>by have⟨_,h,_⟩:=n;cases h
 have⟨v',j,l,p,W⟩:=n;cases j;have m:iM w H x q fl G nd S:=⟨p,d.out.kq.trans (W.mono (by rw[d.out.heap];exact Sz _) λ_ h _=>h)⟩;replace m:=AI m;rw[Nat.sub_zero]at l;simp only[T4,T0,SZ];simp only[Sx,zq0];refine bq 4 3 0 (λN r P M=> ?_) (by decide);simp only[zq1];have a:iM w P x q fl G nd S:=⟨m.out.1.kq M.kq,m.out.2.trans M.kq⟩;replace a:=AI a;have j:∃b,(fj ⟨s,fl,ev⟩ nd G (s.size+1) 0).isSome=b/\(b=false/\v=SI none 0 0\/b=true/\∃g,v=SI (some ⟨g,0,none⟩) (G+1) (G+1)):=by
  cases E:fj ⟨s,fl,ev⟩ nd G (s.size+1) 0 with
  |none=>rw[E]at l;exact⟨false,rfl,.inl ⟨rfl,l⟩⟩
  |some L=>rw[E]at l;have⟨g,_,Z,_⟩:=l;exact⟨true,rfl,.inr ⟨rfl,g,Z⟩⟩
 have⟨b,t,j⟩:=j;replace t:=AI t;rcases j with⟨rfl,rfl⟩|⟨rfl,g,rfl⟩
 all_goals
  go_wp2;refine r.out _ _ (az (k.out _ _ ?_));refine bm λR I=> ?_
  have c:iM w R x q fl G nd S:=⟨a.out.1.kq I.kq,a.out.2.trans I.kq⟩;replace c:=AI c;go_wp2;go_ret2
  exact⟨by rw[t.out];rfl,c.out⟩
end
end
section
open Go.RowKit
def CO{P}(w n q u c g b m a d l p e t f)
 (A:P.underlying n=some (.slice c)) (hs:(P.info? c).map (·.size)=some p) (r:w.heap[g]?=some (SP e t (0,0))) (B:f.length=TN d b*p)
 (h:∀j v,f[j]?=some v->w.cell? (a.add j)=some v) (k:f.length<=e.size) (y:∀v∈f,v.oneCell'=true):
 (TS #[n,q] u #[SI (some ⟨g,0,none⟩) b m,SI (some a) d l]).run P w= .ok (goInt (TN d b)) (w.setRow g (f++e.toList.drop f.length).toArray):=by
 have z:=run_loadCells_list (P:=P) w a f h;have s:=run_storeCells_at P g 0 t f 0 e w r (by simpa using k) y;cases x:P.info? c with
 |none=>simp[x]at hs
 |some i=>
  simp_all[TS,run_underlying,Builtin.lenOf,Builtin.firstCells,sizeOf,typeInfo]
def LJ(a b):eY (a++b)=eY a++eY b:=by simp[eY]
def Aa:∀L n,eY (L.take n)=(eY L).take (n*2)
 |[],n=>by simp[eY]
 |p::L,0=>by simp[eY]
 |p::L,n+1=>by
  have:=Aa L n;rw[show(n+1)*2=n*2+1+1 from by omega];show Su Sy p.1::Su Sy p.2::eY (L.take n)=List.take (n*2+1+1) (Su Sy p.1::Su Sy p.2::eY L);rw[Tk,Tk,this]
def Ab:∀L n,eY (L.drop n)=(eY L).drop (n*2)
 |[],n=>by simp[eY]
 |p::L,0=>by simp[eY]
 |p::L,n+1=>by
  have:=Ab L n;rw[show(n+1)*2=n*2+1+1 from by omega];show eY (L.drop n)=List.drop (n*2+1+1) (Su Sy p.1::Su Sy p.2::eY L);rw[Tl,Tl,this]
def jV(n:Nat)(L:Sp):Sp:=L.take n++SC (n-L.length) dM
def FG{w g b G n L}(d:L.length=G+1)(k:a7 w g 35 (dw (SC n dM)))(hs:a7 w b 35 (dw L))(f):
 (TS #[28,28] f #[SI (some ⟨g,0,none⟩) n n,SI (some ⟨b,0,none⟩) (G+1) (G+1)]).run PM w= .ok (goInt (TN (G+1) n)) (w.setRow g (dw (jV n L))):=by
 have l:(PM.info? 35).map (·.size)=some 2:=by
  have:=uJ;rw[Tq]at this;grind
 have a:(eY (L.take n)).length=TN (G+1) n*2:=by
  rw[Dw,List.length_take,d,Nat.mul_comm,Nat.min_comm]
 have h:=CO (P:=PM) w 28 28 f 35 g n n ⟨b,0,none⟩ (G+1) (G+1) 2 (dw (SC n dM)) 35 (eY (L.take n)) ((congrFun (aK ..) _).trans Tryz.underlying28) l k a
  (λj v c=>by
   rw[Aa]at c;have m:(eY L)[j]?=some v:=by
    grind
   have e:(⟨b,0,none⟩:Addr).add j=⟨b,j,none⟩:=by simp_all[Addr.add]
   rw[e,hs.cell j];simp_all[dw])
  (by grind [Dw,dw])
  (λv c=>by
   simp only[eY,List.mem_flatMap]at c;have⟨p,_,i⟩:=c;simp[SX]at i;rcases i with rfl|rfl<;>rfl)
 have e:(eY (L.take n)++(dw (SC n dM)).toList.drop (eY (L.take n)).length).toArray=dw (jV n L):=by
  simp[a,dw,jV,<- Ab,<- LJ,d];have:n-TN (G+1) n=n- (G+1):=by
   have:TN (G+1) n=min (G+1) n:=rfl;omega
  rw[this]
 rw[h,e]
def sO{M c G}:∀f i{L},fj M c G f i=some L->L.length=G+1
 |0,_,_,h=>by cases h
 |f+1,i,L,h=>by
  rw[fj]at h;split at h;cases b:DR M c G i with
  |none=>rw[b]at h;exact sO f _ h
  |some l=>
   rw[b]at h;unfold DR at b;grind
  exact sO f _ h
end
section
open Go.RowKit Go.Conc
attribute [local instance] fI
def iM.eqv{w a b x q e G d S}(h:iM w a x q e G d S)(k:Kq a.heap.size [] a b)(c:w.heap.size<=a.heap.size):iM w b x q e G d S:=⟨h.1.kq k,h.2.trans (k.mono c nofun)⟩
def iM.far{w a b x q i G g f S}(h:iM w a x q i G f S)(k:Kq a.heap.size [g] a b)(j:w.heap.size<=g)(l:x<g)(n:∀b,S b->b<g):iM w b x q i G f S:=by
 have e:∀b,b<g->b∉[g]:=λb c m=>by have:=Sv.1 m;omega
 exact⟨⟨h.1.blk.kq k h.1.blk.lt (e _ l),h.1.rep.keep λb c d=>k.kp.2 b d (e _ (n b c)),λb c=>⟨SY (h.1.low b c).1 k.kp.1,(h.1.low b c).2⟩,h.1.had⟩,
  h.2.trans (k.mono h.2.kp.1 λb c d=>by have:=Sv.1 c;omega)⟩
def xl(b:SN)(a:Nat)(n:Nat)(v:Tn):Option (List (Int×Int))->Prop
 |none=>v=SI none 0 0
 |some L=>∃g,a<=g/\v=SI (some ⟨g,0,none⟩) n n/\a7 b g 35 (dw (jV n L))
def Ht(w g a):Kq w.heap.size [g] w (w.setRow g a):=⟨⟨by simp,λb c d=>by
 unfold World.setRow;grind⟩,rfl,rfl⟩
def tJ(a l c u):(binOp .eql 28 (SI a l c) (SI none 0 0)).run PH u= .ok (SU a.isNone) u:=by
 have h:=run_equal_slice_nil (P:=PH) u 28 35 a l c ((congrFun (aK ..) _).trans Tryz.underlying28);rw[binOp.eq_def];simp_all
section
variable{h0:Array Obj}{S:Nat->Prop}{nd:Nd}{w:SN}{x q fl ev G n:Nat}{dn:Bool}{T:cS}{e:Bool}{s:ByteArray}
def Js(hx:kh w x q fl G nd S dn T e)(hT:je nd G)(hs:s.size<=300)(hfl:fl<256)(hev:ev<256)(hn1:1<=n)(hn2:n<=20):
 cb (br ek h0) 29 #[AS (some ⟨x,0,none⟩),SJ s,Su Ti ev,Su Sy n] w λe' w'=>∃v,e'=SF (T9 #[v,TW])/\xl w' w.heap.size n v (fj ⟨s,fl,ev⟩ nd G (s.size+1) 0)/\iM w w' x q fl G nd S:=by
 refine bu (bP (by decide)) (λw' ⟨v,h,_⟩=>nomatch h) (PH.func Tryz.func29 (by decide)) rfl ?_;simp only[Tryz.ntmps29,SR,SD,SV,T6,T5,SM,SL,SS,SO,SQ,SG];have hd1:decide (300<s.size)=false:=by simpa using hs
 have hd2:¬ (300:Int)<(s.size:Int):=by omega
 have hd3:decide ((n:Int)<1)=false:=by simp;omega
 have hd4:decide ((20:Int)<(n:Int))=false:=by simp;omega
 have hd5:¬ (n:Int)<1:=by omega
 have hd6:¬ (20:Int)<(n:Int):=by omega
 refine ac λK W=> ?_
 refine bm λw1 e1=> ?_
 replace e1:=AI e1;replace hx:=AI hx;go_wp2;refine W.out _ _ ?_;refine ac λK W=> ?_
 refine bm λw2 e2=> ?_
 replace e2:=AI (e2.trans e1.out);go_wp2;refine W.out _ _ ?_;refine ac λK W=> ?_
 refine ao ?_;show aV _ _ _ (SH 0 (3+2)) ..;refine bq 0 3 2 (λN hN w3 e3=> ?_) (by decide);simp only[zq1];replace e3:=AI (e3.trans e2.out);go_wp2;refine hN.out _ _ ?_;have hx3:=hx.out.kq e3.out.kq;have hz3:w3.heap.size=w.heap.size:=by rw[e3.out.heap]
 refine f9 (f:=49) (i:=3) (rest:=SH 4 (1+0)) rfl rfl λu=>by simp[go_sem] (bP (by decide)) (HZ (i:=0) (ev:=ev) (s:=s) hx3 hT hs hfl hev (Ta _)) (λv w4 hr=> ?_) λch w4 hr=>by obtain⟨_,h,_⟩:=hr;cases h
 obtain⟨v',hv,hf,hx4,k4⟩:=hr;cases hv;have F:iM w w4 x q fl G nd S:=⟨hx4,e3.out.kq.trans (k4.mono (by rw[hz3];exact Sz _) λ_ h _=>h)⟩;rw[hz3,Nat.sub_zero]at hf;have y:=F.2.kp.1;replace F:=AI F;replace y:=AI y;simp only[T4,T0,SZ];simp only[Sx,zq0];refine bq 4 1 0 (λN hN w5 e5=> ?_) (by decide);simp only[zq1];have l:=F.out.eqv e5.kq y.out;have a:w.heap.size<=w5.heap.size:=l.2.kp.1;have h45:∀{b:Nat}{t cs},a7 w4 b t cs->a7 w5 b t cs:=λh=>h.kq (e5.kq (B:=w4.heap.size) (X:=[])) h.lt Sw
 replace l:=AI l;replace a:=AI a;cases D:fj ⟨s,fl,ev⟩ nd G (s.size+1) 0 with
 |none=>
  rw[D]at hf;obtain rfl:=hf;replace D:=AI D;go_wp2;refine hN.out _ _ (az (W.out _ _ ?_));refine bm λr e6=> ?_
  have m:=AI (l.out.eqv e6.kq a.out);have hq:=tJ none 0 0;go_wp2;go_ret2
  exact⟨_,rfl,by rw[D.out];rfl,m.out⟩
 |some L=>
  rw[D]at hf;obtain⟨gs,hgs,rfl,hb4⟩:=hf;have hL:=sO _ _ D;have hb5:=AI (h45 hb4);replace D:=AI D;replace hgs:=AI hgs;replace hL:=AI hL;go_wp2;refine hN.out _ _ (az (W.out _ _ ?_));refine bm λr e6=> ?_
  have m:=AI (l.out.eqv e6.kq a.out);have R:=AI (hb5.out.kq (e6.kq (B:=w5.heap.size) (X:=[])) hb5.out.lt Sw);have d:=AI (T7 a.out (by rw[e6.heap];exact Sz _:w5.heap.size<=r.heap.size));obtain⟨i,hi,hsz,hz,hb⟩:∃i,PM.info? 35=some i/\i.size=2/\i.zero=some (.agg #[Su Sy 0,Su Sy 0])/\i.bytes=16:=by
   have:=uJ;rw[Tq]at this;have⟨i,h1,h2⟩:=this;simp only[Prod.mk.injEq]at h2;exact⟨i,h1,h2.1,h2.2.1,h2.2.2⟩
  have hmk:=run_make (P:=PH) r 28 35 i _ ((congrFun (aK ..) _).trans Tryz.underlying28) hi hz Sy Sy (n:Int) (n:Int) (by omega) (by omega) (by rw[hb];omega) (by omega);rw[U3,hsz,show(Value.agg #[Su Sy 0,Su Sy 0]).cells=#[Su Sy 0,Su Sy 0]from rfl,DO]at hmk;have A:=a7.new r 35 (dw (SC n (0,0)));have kg:Kq r.heap.size [] r (r.alloc (SP (dw (SC n (0,0))) 35)):=(Kq.refl r).alloc (Sz _) _;have hS7:=AI (m.out.eqv kg d.out);have hb7:=AI (R.out.kq kg R.out.lt Sw);have C:gs<r.heap.size:=R.out.lt;replace A:=AI A;replace kg:=AI kg;replace C:=AI C;have I:=AI λb(hb:S b)=>(m.out.1.low b hb).1
  have M:=AI m.out.1.blk.lt;have hq:=tJ (some ⟨gs,0,none⟩) (G+1) (G+1);go_wp2;have⟨g,hgN⟩:∃g,r.heap.size=g:=⟨_,rfl⟩;rw[hgN]at A C I M d ⊢;generalize r.alloc (SP (dw (SC n (0,0))) 35)=w7 at *;go_loopw [36] (λc wr=>∃k:Nat,k<=n/\c=Su Sy k/\a7 wr g 35 (dw (SC k dM++(SC n (0,0)).drop k))/\iM w wr x q fl G nd S/\a7 wr gs 35 (dw L)) λc _=>n- (intOf c).toNat
  case atStart=>exact⟨0,Ta _,rfl,by simpa using A.out,hS7.out,hb7.out⟩
  case round=>
   obtain⟨k,hkn,rfl,Z,F,H⟩:=hrel;by_cases hlt:k<n
   .have hlen:k<(SC k dM++(SC n (0,0)).drop k).length:=by simp;omega
    have⟨s0,s1⟩:=qm Z hlen;have E:=vK (n:=k) (u:=dM) Z;rw[xM (by simpa using hlt)]at E;have fz:∀j,wr.frozen? ⟨g,j,none⟩=false:=Z.frozen;have kB:Kq wr.heap.size [g] wr ((wr.setCell ⟨g,k*2,none⟩ (Su Sy (-1))).setCell ⟨g,k*2+1,none⟩ (Su Sy (-1))):=((Kq.refl wr).setCell (p:=⟨g,k*2,none⟩) (λ_=>Sv.2 rfl) _).setCell (p:=⟨g,k*2+1,none⟩) (λ_=>Sv.2 rfl) _;have Q:=F.far kB (T7 d.out (Sz _)) M.out I.out;have hbn:=H.kq kB H.lt λh=>by have:=Sv.1 h;have:=C.out;omega
    have A2:=AI (⟨E,Q,hbn⟩:a7 _ g 35 _/\iM w _ x q fl G nd S/\a7 _ gs 35 _);go_wp2;go_roundw
    case rel=>exact⟨k+1,by omega,by push_cast;rfl,A2.out⟩
    case measure=>first |(simp[intOf];done)|(simp[intOf];omega)
   .obtain rfl:k=n:=by omega
    rw[TK (by simp),Tv]at Z;have hcp:=FG hL.out Z H 3;have kc:=Ht wr g (dw (jV k L));have hc:a7 (wr.setRow g (dw (jV k L))) g 35 (dw (jV k L)):=setRow_heap wr g _ _ 35 (0,0) Z;have Q:=AI (F.far kc d.out M.out I.out);replace hc:=AI hc;go_wp2;go_ret2
    exact⟨_,rfl,by rw[D.out];exact⟨g,d.out,rfl,hc.out⟩,Q.out⟩
end
def xl.kq{a b c n v m}(h:xl a c n v m)(k:Kq a.heap.size [] a b):xl b c n v m:=by
 cases m with
 |none=>exact h
 |some L=>have⟨g,e,f,d⟩:=h;exact⟨g,e,f,d.kq k d.lt Sw⟩
def LV{c i x d e}{g:Int}{G:Nat}{k}{l:FV}(m:g=G)(a:c.heap[x]?=some (.cells (#[k,.int .i64 g,.int .u8 d]++l.1) 79 (0,0)))(j:Repr c (λb=>i<=b/\b≠x) k e):
 ∃q,kh c x q d G e (λb=>i<=b/\b≠x/\b<c.heap.size) false co false:=by
 obtain⟨q,rfl⟩:=ed j;refine⟨q,?_,j.mono (S':=λb=>i<=b/\b≠x/\b<c.heap.size) λb a f=>⟨a.1,a.2,f⟩,λb a=>⟨a.2.2,a.2.1⟩,λh=>nomatch h⟩;obtain⟨t,rfl⟩:=l;subst m;have:mU (.iface (bn e) (.pointer (some ⟨q,0,none⟩))) G d (if false then 1 else 0) 0 co false=#[.iface (bn e) (.pointer (some ⟨q,0,none⟩)),.int .i64 G,.int .u8 d]++ #[.int .u32 0,.int .i32 0,.int .u32 0,.int .u64 0,.int .u64 0,.int .u64 0,.int .u64 0,.bool false]:=by
  simp[mU,qd]
 rw[this];exact a
section
variable{h0:Array Obj}{S:Nat->Prop}{nd:Nd}{w:SN}{x q fl ev G n:Nat}{dn:Bool}{T:cS}{e:Bool}{s:ByteArray}
def GY(M:kh w x q fl G nd S dn T e)(hT:je nd G)(hs:s.size<=300)(I:fl<256)(F:ev<256):
 cb (br ek h0) 16 #[AS (some ⟨x,0,none⟩),SJ s,Su Ti ev] w λX Q=>X=SF (T9 #[SU (fj ⟨s,fl,ev⟩ nd G (s.size+1) 0).isSome,Su Sy 0])/\iM w Q x q fl G nd S:=by
 refine bu (bP (by decide)) (λQ h=>nomatch h.1) (PH.func Tryz.func16 (by decide)) rfl ?_;simp only[Tryz.ntmps16,SR,SD,SV,T6,T5,SM,SL,SS,SO,SQ,SG];refine ac λK L=> ?_
 refine bm λw1 B=> ?_
 replace B:=AI B;replace M:=AI M;go_wp2;refine L.out _ _ ?_;refine ac λK L=> ?_
 refine ao ?_;show aV _ _ _ (SH 0 (3+6)) ..;refine bq 0 3 6 (λN E w3 d=> ?_) (by decide);simp only[zq1];replace d:=AI (d.trans B.out);go_wp2;refine E.out _ _ ?_;have C:=M.out.kq d.out.kq;have H:w3.heap.size=w.heap.size:=by rw[d.out.heap]
 refine f9 (f:=31) (i:=3) (rest:=SH 4 (5+0)) rfl rfl λu=>by simp[go_sem] (bP (by decide)) (GM (ev:=ev) (s:=s) C hT hs I F) (λv c A=> ?_) λch c A=>nomatch A.1
 have⟨hv,m⟩:=A;cases hv;generalize l:(fj ⟨s,fl,ev⟩ nd G (s.size+1) 0).isSome=b;replace l:=AI l;have t:iM w c x q fl G nd S:=⟨m.1,d.out.kq.trans (m.2.mono (by rw[H];exact Sz _) λ_ h _=>h)⟩;have a:=t.2.kp.1;replace t:=AI t;replace a:=AI a;simp only[T4,T0,SZ];simp only[Sx,zq0];refine bq 4 5 0 (λN E w5 W=> ?_) (by decide);simp only[zq1];have g:=AI (t.out.eqv W.kq a.out);have r:=AI g.out.2.kp.1;have D:=AI (W.kq:Kq c.heap.size [] c w5);go_wp2;refine E.out _ _ (az (L.out _ _ ?_));refine bm λz e6=> ?_
 have j:=AI (g.out.eqv e6.kq r.out);have k:=AI (D.out.trans e6.kq:Kq c.heap.size [] c z);have p:=AI j.out.2.kp.1;have hL:=uF z;go_wp2;refine hL.mono ?_;rintro X Z ⟨rfl,y⟩;have R:Kq z.heap.size [] z Z:=⟨⟨y.size,λb l _=>y.block b l⟩,y.os,y.output⟩;have P:=AI (j.out.eqv R p.out);have hk7:=AI (k.out.trans (R.mono k.out.kp.1 nofun):Kq c.heap.size [] c Z);go_wp2;go_ret2
 exact⟨by rw[l.out];rfl,P.out⟩
def JA(M:kh w x q fl G nd S dn T e)(hT:je nd G)(hs:s.size<=300)(H:fl<256)(F:ev<256)(I:1<=n)(D:n<=20):
 cb (br ek h0) 14 #[AS (some ⟨x,0,none⟩),SJ s,Su Ti ev,Su Sy n] w λZ E=>∃v,Z=SF (T9 #[v,Su Sy 0])/\xl E w.heap.size n v (fj ⟨s,fl,ev⟩ nd G (s.size+1) 0)/\iM w E x q fl G nd S:=by
 refine bu (bP (by decide)) (λE h=>by have⟨_,h,_⟩:=h;cases h) (PH.func Tryz.func14 (by decide)) rfl ?_;simp only[Tryz.ntmps14,SR,SD,SV,T6,T5,SM,SL,SS,SO,SQ,SG];refine ac λK W=> ?_
 refine bm λw1 X=> ?_
 replace X:=AI X;replace M:=AI M;go_wp2;refine W.out _ _ ?_;refine ac λK W=> ?_
 refine ao ?_;show aV _ _ _ (SH 0 (4+6)) ..;refine bq 0 4 6 (λN Q w3 k=> ?_) (by decide);simp only[zq1];replace k:=AI (k.trans X.out);go_wp2;refine Q.out _ _ ?_;have P:=M.out.kq k.out.kq;have m:w3.heap.size=w.heap.size:=by rw[k.out.heap]
 refine f9 (f:=29) (i:=4) (rest:=SH 5 (5+0)) rfl rfl λu=>by simp[go_sem] (bP (by decide)) (Js (ev:=ev) (s:=s) (n:=n) P hT hs H F I D) (λv c L=> ?_) λch c L=>by have⟨_,h,_⟩:=L;cases h
 have⟨v',hv,y,p⟩:=L;cases hv;rw[m]at y;replace y:=AI y;have t:iM w c x q fl G nd S:=⟨p.1,k.out.kq.trans (p.2.mono (by rw[m];exact Sz _) λ_ h _=>h)⟩;have a:=t.2.kp.1;replace t:=AI t;replace a:=AI a;simp only[T4,T0,SZ];simp only[Sx,zq0];refine bq 5 5 0 (λN Q w5 e5=> ?_) (by decide);simp only[zq1];have j:=AI (t.out.eqv e5.kq a.out);have r:=AI j.out.2.kp.1;have B:=AI (e5.kq:Kq c.heap.size [] c w5);go_wp2;refine Q.out _ _ (az (W.out _ _ ?_));refine bm λz e6=> ?_
 have l:=AI (j.out.eqv e6.kq r.out);have d:=AI (B.out.trans e6.kq:Kq c.heap.size [] c z);have g:=AI l.out.2.kp.1;have hL:=uF z;go_wp2;refine hL.mono ?_;rintro Z w7 ⟨rfl,A⟩;have k7:Kq z.heap.size [] z w7:=⟨⟨A.size,λb hb _=>A.block b hb⟩,A.os,A.output⟩;have R:=AI (l.out.eqv k7 g.out);have C:=AI (d.out.trans (k7.mono d.out.kp.1 nofun):Kq c.heap.size [] c w7);go_wp2;go_ret2
 exact⟨_,rfl,y.out.kq C.out,R.out⟩
end
end
section
def Ob(x:mP):Prop:=∀w,x.wr=some w->0<w.1
def tz(g b l e c):∀f first S p x,jk g b l e c f first S p=some x->Ob x
 |0,_,_,_,_,h=>by cases h
 |f+1,first,S,p,x,h=>by
  unfold jk at h;split at h;cases h;intro w d;cases d;simp;split at h;cases h;intro w d;cases d;split at h;split at h<;>first |(cases h;intro w d;cases d;simp)|exact tz g b l e c f _ _ _ _ h
  split at h;split at h<;>first |(cases h;intro w d;cases d;simp)|exact tz g b l e c f _ _ _ _ h
  exact tz g b l e c f _ _ _ _ h
def G6(c p rest):Ob (dS c p rest):=by
 intro w a;unfold dS at a;grind
def Dq{d c l p x}(a:eB d c l p=some x):Ob x:=by
 unfold eB at a;split at a;cases a;intro w b;cases b;split at a;cases a;intro w b;cases b;split at a;cases a;exact G6 _ _ _;split at a;exact tz _ _ _ _ _ _ _ _ _ _ a;split at a;cases a;intro w b;cases b;split at a;split at a;cases a;intro w b;cases b;simp;split at a;cases a;intro w b;cases b;simp;split at a;cases a;intro w b;cases b;simp;cases a;intro w b;cases b;cases a;intro w b;cases b
def KE:Option (g8 Nd)->Prop
 |some (.err k _)=>0<k
 |_=>True
def tH{x f}(b:KE x)(c:∀a s,KE (f a s)):KE (mb x f):=by
 cases x with
 |none=>trivial
 |some r=>cases r with|ok a s=>exact c a s|err k a=>exact b
section
variable{ln fold:Bool}{l:List UInt8}
def NH(f):(∀d s,KE (qY ln fold l f d s))/\(∀d a b s,KE (lV ln fold l f d a b s))/\(∀d s,KE (sL ln fold l f d s))/\(∀d a b s,KE (lU ln fold l f d a b s))/\(∀d s,KE (oe ln fold l f d s))/\(∀k s,KE (iC ln fold l f k s))/\(∀d s,KE (oU ln fold l f d s))/\∀d s,KE (og ln fold l f d s):=by
 induction f with
 |zero=>exact⟨λ_ _=>trivial,λ_ _ _ _=>trivial,λ_ _=>trivial,λ_ _ _ _=>trivial,λ_ _=>trivial,λ_ _=>trivial,λ_ _=>trivial,λ_ _=>trivial⟩
 |succ f j=>
  have⟨r,h,i,g,n,m,p,q⟩:=j;refine⟨λd s=>h ..,λd a b s=>tH (i d s) λk s=> ?_,λd s=>g ..,λd a b s=> ?_,λd s=>tH (p d s) λk s=>m k s,λk s=> ?_,λd s=> ?_,λd s=> ?_⟩
  .split <;>first |trivial|split <;>first |exact h .. |trivial
  .unfold lU;split;trivial;split;split;exact(by decide:(0:Int)<11);split <;>first |exact(by decide:(0:Int)<9)|trivial
   split <;>first |exact(by decide:(0:Int)<8)|exact tH (n d s) λk s=>g ..
  .unfold iC;split;trivial;next x c=>
   split;split;next w e=>exact Dq c _ e
   grind
   trivial
  .unfold oU;split;trivial;next x c=>
   split;next w e=>exact Dq c _ e
   split;exact q d s;split;trivial;split <;>trivial
  .unfold og;split <;>first |trivial|split <;>first |exact(by decide:(0:Int)<12)|(refine tH (r ..) λk s=> ?_;split <;>first |trivial|split <;>first |trivial|exact(by decide:(0:Int)<10))
end
def Kn{ln fold l k a}(h:xP ln fold l=some (.err k a)):0<k:=by
 have:=(NH (ln:=ln) (fold:=fold) (l:=l) (deep+8)).1 0 ⟨0,0,0⟩;unfold xP at h;rw[h]at this;exact this
end
section
open Go.RowKit Go.Conc
attribute [local instance] fI
def FU:ByteArray:=⟨#[97]⟩
def PU:∃b a,gK FU 0=some (.ok b a):=by
 have h:(match gK FU 0 with |some (.ok ..)=>true|_=>false)=true:=by rfl
 grind
def HS{s b k a}(h:gK s b=some (.err k a)):0<k:=by
 unfold gK at h;split at h;grind
 exact Kn h
def KT(e:Nat)(d:SN)(g:Nat)(r:Option (g8 Nd))(v:Tn):Prop:=match r with|some (.ok i f)=>∃x c,∃h:FV,v=T9 #[vp x,SU true]/\e<=x/\d.heap[x]?=some (SP (#[c,Su Sy f.g,Su Ti g]++h.1) 79 (0,0))/\Repr d (λb=>e<=b/\b≠x) c i|some (.err k a)=>v=T9 #[AS none,SU true]|none=>False
def Nl{h0 w s}{fl:Nat}(C:fl<256)(t:Under h0 w)(M:fx w)(R:gI w):
 cb (br ek h0) 12 #[SJ s,Su Ti fl] w λe E=>∃v,e=SF v/\Old w E/\KT w.heap.size E fl (gK s fl) v:=by
 refine bu (bP (by decide)) (λE ⟨v,h,_⟩=>nomatch h) (PH.func Tryz.func12 (by decide)) rfl ?_;simp only[Tryz.ntmps12,SR,SD,SV,T6,T5,SM,SL,SS,SO,SQ,SG];refine ac λK A=> ?_
 refine bm λw1 T=> ?_
 go_wp2;refine A.out _ _ ?_;refine ac λK A=> ?_
 refine ao ?_;show aV _ _ _ (SH 0 (2+8)) ..;refine bq 0 2 8 (λN n w2 e2=> ?_) (by decide);simp only[zq1];have B:=AI ((AI T.old).out.eqv e2);go_wp2;refine n.out _ _ ?_;refine bF (f:=18) (i:=2) (rest:=SH 3 (7+0)) rfl rfl λu=>by simp[go_sem] (bP (by decide)) (wl (s:=s) C (t.ea B.out) (M.ea B.out) (R.ea B.out)) (λv S a=> ?_) λZ S a=>by have⟨_,h,_⟩:=a;cases h
 obtain⟨v,e,F,j⟩:=a;cases e;have y:=AI (B.out.trans F);have z:=AI B.out.size;cases a:gK s fl with
 |none=>rw[a]at j;exact j.elim
 |some r=>
 rw[a]at j;cases r with
 |ok nd O=>
  obtain⟨x,Q,P,rfl,hx,m,c⟩:=j;replace c:=AI c;replace m:=AI m;replace a:=AI a;simp only[Sx,zq0];refine bq 3 7 0 (λN n w4 g=> ?_) (by decide);simp only[zq1];replace g:=AI g;go_wp2;refine n.out _ _ (az (A.out _ _ ?_));refine bm λL d=> ?_
  replace d:=AI d;go_wp2;go_ret2
  have q:L.heap=S.heap:=d.out.heap.trans g.out.heap;refine⟨_,rfl,(AI ((AI (y.out.eqv g)).out.eqv d)).out,?_⟩;rw[a.out];exact⟨x,Q,P,rfl,T7 z.out hx,by rw[q];exact m.out,(c.out.mono (S':=λb=>w.heap.size<=b/\b≠x) λb G D=>⟨T7 z.out G.1,G.2⟩).keep λb G D=>by rw[q]⟩
 |err k W=>
  obtain rfl:=j;have hk:=HS a;have H:(k !=0)=true:=by simpa using by omega
  replace a:=AI a;simp only[Sx,zq0];refine bq 3 7 0 (λN n w4 g=> ?_) (by decide);simp only[zq1];go_wp2;refine n.out _ _ (az (A.out _ _ ?_));refine ac λK A=> ?_
  refine ac λK2 l=> ?_
  refine bm λL d=> ?_
  go_wp2;refine l.out _ _ ?_;refine bG rfl ?_;refine ac λK2 l=> ?_
  refine ao ?_;show aV _ _ _ (SH 0 (1+7)) ..;refine bF (f:=18) (i:=0) (rest:=SH 1 (7+0)) rfl rfl λu=>by simp[go_sem];try rfl (bP (by decide)) (wl (s:=FU) (fl:=0) (by decide) (AI ((AI ((AI (t.ea y.out)).out.ea g.old)).out.ea d.old)).out (AI ((AI ((AI (M.ea y.out)).out.ea g.old)).out.ea d.old)).out (AI ((AI ((AI (R.ea y.out)).out.ea g.old)).out.ea d.old)).out) (λv w6 p=> ?_) λZ w6 p=>by have⟨_,h,_⟩:=p;cases h
  have⟨v,e,I,j⟩:=p;cases e;have⟨nd,O,X⟩:=PU;rw[X]at j;obtain⟨x,Q,P,rfl,_,_,_⟩:=j;simp only[T4,T0,SZ];simp only[Sx,zq0];refine bq 1 7 0 (λN n w7 e7=> ?_) (by decide);simp only[zq1];go_wp2;refine n.out _ _ (az (l.out _ _ ?_));refine bm λw8 e8=> ?_
  go_wp2;go_ret2
  exact⟨_,rfl,(AI ((AI ((AI ((AI ((AI (y.out.eqv g)).out.eqv d)).out.trans I)).out.eqv e7)).out.eqv e8)).out,by
   rw[a.out];first |rfl|(show Value.tuple #[Value.pointer none,SU (k !=0)]=_;rw[(AI H).out])⟩
class oA(I:SN->Prop):Prop where
 old:∀{a b:SN},Old a b->I a->I b
instance{I U2}[hI:oA I][a:oA U2]:oA λw=>I w/\U2 w:=⟨λh k=>⟨hI.old h k.1,a.old h k.2⟩⟩
instance{A}:oA λ_=>A:=⟨λ_ k=>k⟩
instance{a}:oA (Old a):=⟨λh k=>k.trans h⟩
instance:oA fx:=⟨λh k=>k.ea h⟩
instance:oA gI:=⟨λh k=>k.ea h⟩
instance{h0}:oA (Under h0):=⟨λh k=>k.ea h⟩
def Old.kq{a b}(h:Old a b){X}:Kq a.heap.size X a b:=⟨⟨h.size,λi c _=>h.old i c⟩,h.os,h.out⟩
instance{g t a}:oA λw=>a7 w g t a:=⟨λh k=>k.kq (h.kq (X:=[])) k.lt Sw⟩
structure da(w:SN)(lo hi x fl G:Nat)(nd:Nd):Prop where
 lw:lo<=x
 up:x<hi
 sz:hi<=w.heap.size
 tree:je nd G
 rx:∃q dn T e,kh w x q fl G nd (λb=>lo<=b/\b≠x/\b<hi) dn T e
instance{g f x d G b}:oA λw=>da w g f x d G b:=⟨λh k=>by
 have⟨q,c,T,e,a⟩:=k.rx;exact⟨k.lw,k.up,T7 k.sz h.size,k.tree,q,c,T,e,a.kq h.kq⟩⟩
def da.far{w j d g x y i G l}(k:da w d g x i G l)(h:Kq w.heap.size [y] w j)(n:y<d\/g<=y):da j d g x i G l:=by
 have⟨q,m,T,e,a⟩:=k.rx;refine⟨k.lw,k.up,T7 k.sz h.kp.1,k.tree,q,m,T,e,a.blk.kq h a.blk.lt λe=>by have:=Sv.1 e;have:=k.lw;have:=k.up;omega,a.rep.keep λb c f=>h.kp.2 b f λe=> ?_,λb c=>⟨SY (a.low b c).1 h.kp.1,(a.low b c).2⟩,a.had⟩;have:=Sv.1 e;omega
def da.aa6{w f a e x d G q c}(k:da w a e x d G c)(h:iM w f x q d G c λb=>a<=b/\b≠x/\b<e):da f a e x d G c:=
 ⟨k.lw,k.up,T7 k.sz h.2.kp.1,k.tree,_,_,_,_,h.1⟩
def Old.far{a b c}(h:Old a b){x}(k:Kq b.heap.size [x] b c)(f:a.heap.size<=x):Old a c:=
 ⟨λi d=>(k.kp.2 i (SY d h.size) λe=>by have:=Sv.1 e;omega).trans (h.old i d),T7 h.size k.kp.1,k.os.trans h.os,k.out.trans h.out⟩
def mx(I:SN->Prop)(w:SN):Prop:=I w
def mx.mk{I w}(h:I w):mx I w:=h
def mx.out{I w}(h:mx I w):I w:=h
def mx.old{I a b}(H:mx I a)[hI:oA I](h:Old a b):mx I b:=hI.old h H
def mx.also{I w}(U2:SN->Prop)(H:mx I w)(h:U2 w):mx (λu=>I u/\U2 u) w:=⟨H,h⟩
section
variable{P:Program}{D:dZ P}{c:Code}{Q:Exit->Act->SN->Prop}{a:Act}{w:SN}{I:SN->Prop}
def ey[hI:oA I](h:∀b,mx I b->c.wp P Q a b)(H:mx I w):cL D c Q a w:=bm λb e=>h b (H.old e.old)
def cx[hI:oA I]{l:List Oper}(s n m)(h:∀N,Hid (∀f d,aV D l.toArray Q (SH (s+n) m) f d->N f d)->∀b,mx I b->wpList P l.toArray (Exit.then N Q) ((l.drop s).take n) a b)(i:s+n<=l.length)(H:mx I w):
 aV D l.toArray Q (SH s (n+m)) a w:=bq s n m (λN g b e=>h N g b (H.old e.old)) i
end
def aa0{s c b a}(h:gK s c=some (.ok b a)):je b a.g:=by
 unfold gK at h;split at h;cases h;exact N9 (by rw[show s.data.toList.length=s.size from by simp];omega) h
def aa2{a c x f d}{g:Int}{G:Nat}{i}{m:FV}(j:g=G)(n:je d g)(l:c<=x)(e:a.heap[x]?=some (.cells (#[i,.int .i64 g,.int .u8 f]++m.1) 79 (0,0)))(k:Repr a (λb=>c<=b/\b≠x) i d):
 da a c a.heap.size x f G d:=by
 have⟨q,h⟩:=LV j e k;exact⟨l,(Te.1 e).1,Sz _,j▸n,q,_,_,_,h⟩
theorem KT.at{f w' b s v}(h:KT f w' b (gK s b) v):
 (v=T9 #[AS none,SU true]/\∃k a,gK s b=some (.err k a))\/∃x c O G,v=T9 #[vp x,SU true]/\gK s b=some (.ok c O)/\O.g=((G:Nat):Int)/\da w' f w'.heap.size x b G c:=by
 cases d:gK s b with
 |none=>rw[d]at h;exact h.elim
 |some r=>
  rw[d]at h;cases r with
  |err k a=>exact .inl ⟨h,k,a,rfl⟩
  |ok c O=>
   obtain⟨x,m,n,rfl,j,l,i⟩:=h;have g:=aa0 d;have e:O.g=O.g.toNat:=by have:=g.g0;omega
   exact .inr ⟨x,c,O,O.g.toNat,rfl,rfl,e,aa2 e g j l i⟩
def tK(s:ByteArray)(n:Nat):ByteArray:=if n<s.size then s.extract 0 n else s
def FJ(s n):(tK s n).size<=n:=by
 grind [Tr,tK]
def KI(s)(n:Nat)(w):Calls PH 11 #[SJ s,Su Sy n] w λe b=>e=SF (SJ (tK s n))/\b=w:=by
 by_cases h:n<s.size<;>first |(have a:tK s n=s.extract 0 n:=if_pos h;replace a:=AI a;go_enter PH.func Tryz.func11 (by decide),Tryz.ntmps11;go_wp2;go_ret;exact⟨by simp[a.out],rfl⟩)|(have a:tK s n=s:=if_neg h;replace a:=AI a;go_enter PH.func Tryz.func11 (by decide),Tryz.ntmps11;go_wp2;go_ret;exact⟨by simp[a.out],rfl⟩)
def N7:∀n:Nat,n<256->bits .and Ti (n:Int) 3=((n%4:Nat):Int):=by decide+kernel
def KfQ(a):∃b:Nat,b<4/\bits .and Ti (a%256) 3=b:=by
 have⟨n,c⟩:∃n:Nat,a%256=n:=⟨(a%256).toNat,by omega⟩;refine⟨n%4,by omega,?_⟩;rw[c];exact N7 n (by omega)
def HP{w}{x q a G:Nat}{b S c T e}(h:kh w x q a G b S c T e):Calls PH 13 #[vp x] w λd f=>d=SF (Su Sy G)/\f=w:=by
 have g:w.cell? ⟨x,1,none⟩=some (Su Sy G):=h.blk.cell 1;go_enter PH.func Tryz.func13 (by decide),Tryz.ntmps13
 go_wp2;go_ret;simp
theorem IL.at{f:Nat}{w':SN}{b:Nat}{s:ByteArray}{v:Tn}(h:IL f w' b (gK s b) v):
 (∃k a,v=T9 #[AS none,Su Sy k,Su Sy a]/\gK s b=some (.err k a)/\(k !=0)=true)\/∃x c O G,v=T9 #[vp x,Su Sy 0,Su Sy 0]/\gK s b=some (.ok c O)/\O.g=((G:Nat):Int)/\da w' f w'.heap.size x b G c:=by
 cases d:gK s b with
 |none=>rw[d]at h;exact h.elim
 |some r=>
  rw[d]at h;cases r with
  |err k a=>
   have p:=HS d;exact .inl ⟨k,a,h,rfl,by simp;omega⟩
  |ok c O=>
   obtain⟨x,m,n,rfl,l,j,i⟩:=h;have g:=aa0 d;have e:O.g=(O.g.toNat:Int):=by have:=g.g0;omega
   exact .inr ⟨x,c,O,O.g.toNat,rfl,rfl,e,aa2 e g l j i⟩
def da.groups{w:SN}{a g x d G:Nat}{c:Nd}(h:da w a g x d G c):Calls PH 13 #[vp x] w λb f=>b=SF (Su Sy G)/\f=w:=by
 have⟨q,i,T,e,h⟩:=h.rx;exact HP h
instance{a n:Nat}{v:Tn}{m:Option (List (Int×Int))}:oA λw=>xl w a n v m:=⟨λh k=>k.kq h.kq⟩
def xl.far{a b:SN}{c n x:Nat}{v:Tn}{m:Option (List (Int×Int))}(h:xl a c n v m)(k:Kq a.heap.size [x] a b)(j:x<c):xl b c n v m:=by
 cases m with
 |none=>exact h
 |some L=>
  have⟨g,i,f,d⟩:=h;exact⟨g,i,f,d.kq k d.lt λe=>by have:=Sv.1 e;omega⟩
def da.find{h0:Array Obj}{w:SN}{m l x b G ev n:Nat}{f:Nd}{s:ByteArray}(h:da w m l x b G f)(hs:s.size<=300)(g:b<256)(c:ev<256)(d:1<=n)(i:n<=20):
 cb (br ek h0) 14 #[AS (some ⟨x,0,none⟩),SJ s,Su Ti ev,Su Sy n] w λk a=>∃v,k=SF (T9 #[v,Su Sy 0])/\xl a w.heap.size n v (fj ⟨s,b,ev⟩ f G (s.size+1) 0)/\da a m l x b G f/\Kq w.heap.size [x] w a:=by
 have⟨q,u,T,e,p⟩:=h.rx;refine(JA p h.tree hs g c d i).mono ?_;rintro k a ⟨v,t,r,j⟩;exact⟨v,t,r,h.aa6 j,j.2⟩
def da.match_{h0:Array Obj}{w:SN}{lo hi x fl G ev:Nat}{nd:Nd}{s:ByteArray}(h:da w lo hi x fl G nd)(hs:s.size<=300)(hfl:fl<256)(hev:ev<256):
 cb (br ek h0) 16 #[AS (some ⟨x,0,none⟩),SJ s,Su Ti ev] w λe' w'=>e'=SF (T9 #[SU (fj ⟨s,fl,ev⟩ nd G (s.size+1) 0).isSome,Su Sy 0])/\da w' lo hi x fl G nd/\Kq w.heap.size [x] w w':=by
 obtain⟨q,dn,T,e,h1⟩:=h.rx;refine(GY h1 h.tree hs hfl hev).mono ?_;rintro e' w' ⟨h2,h4⟩;exact⟨h2,h.aa6 h4,h4.2⟩
def PH.Nk:Go.Shelf.Ren:=⟨λ|137=>32|217=>51|266=>72|n=>n,λ|3=>3|5=>5|9=>9|n=>n,λ|n=>n⟩
def PH.lays137:Go.Proofs.Lays.n137 PH PH.Nk:= {
 mixed:=by kernel_rfl
 f137:=(PH.func Tryz.func32 (by decide)).trans (congrArg some (by kernel_rfl))
 f217:=(PH.func Tryz.func51 (by decide)).trans (congrArg some (by kernel_rfl))
 f266:=(PH.func Tryz.func72 (by decide)).trans (congrArg some (by kernel_rfl))
 t3:=(congrFun (aK ..) _).trans Tryz.underlying3
 a3:=λw=>(dP ..).trans (Tryz.isAgg3 w)
 z3:=λw=>(dk ..).trans (Tryz.sizeOf3 w)
 v3:=λw=>(cz ..).trans (Tryz.zeroValue3 w)
 t5:=(congrFun (aK ..) _).trans Tryz.underlying5
 a5:=λw=>(dP ..).trans (Tryz.isAgg5 w)
 z5:=λw=>(dk ..).trans (Tryz.sizeOf5 w)
 v5:=λw=>(cz ..).trans (Tryz.zeroValue5 w)
 t9:=(congrFun (aK ..) _).trans Tryz.underlying9
 a9:=λw=>(dP ..).trans (Tryz.isAgg9 w)
 z9:=λw=>(dk ..).trans (Tryz.sizeOf9 w)
 v9:=λw=>(cz ..).trans (Tryz.zeroValue9 w)}
def PH.abj:Go.Shelf.Ren:=⟨λ|166=>86|240=>52|276=>73|n=>n,λ|0=>0|3=>3|4=>4|5=>5|9=>9|20=>20|37=>86|70=>89|72=>91|75=>81|80=>94|164=>146|n=>n,λ|n=>n⟩
def PH.lays166:Go.Proofs.Lays.n166 PH PH.abj:= {
 mixed:=by kernel_rfl
 f166:=(PH.func Tryz.func86 (by decide)).trans (congrArg some (by kernel_rfl))
 f240:=(PH.func Tryz.func52 (by decide)).trans (congrArg some (by kernel_rfl))
 f276:=(PH.func Tryz.func73 (by decide)).trans (congrArg some (by kernel_rfl))
 t0:=(congrFun (aK ..) _).trans Tryz.underlying0
 a0:=λw=>(dP ..).trans (Tryz.isAgg0 w)
 z0:=λw=>(dk ..).trans (Tryz.sizeOf0 w)
 v0:=λw=>(cz ..).trans (Tryz.zeroValue0 w)
 t3:=(congrFun (aK ..) _).trans Tryz.underlying3
 a3:=λw=>(dP ..).trans (Tryz.isAgg3 w)
 z3:=λw=>(dk ..).trans (Tryz.sizeOf3 w)
 v3:=λw=>(cz ..).trans (Tryz.zeroValue3 w)
 t4:=(congrFun (aK ..) _).trans Tryz.underlying4
 a4:=λw=>(dP ..).trans (Tryz.isAgg4 w)
 z4:=λw=>(dk ..).trans (Tryz.sizeOf4 w)
 v4:=λw=>(cz ..).trans (Tryz.zeroValue4 w)
 t9:=(congrFun (aK ..) _).trans Tryz.underlying9
 a9:=λw=>(dP ..).trans (Tryz.isAgg9 w)
 z9:=λw=>(dk ..).trans (Tryz.sizeOf9 w)
 v9:=λw=>(cz ..).trans (Tryz.zeroValue9 w)
 t20:=(congrFun (aK ..) _).trans Tryz.underlying20
 a20:=λw=>(dP ..).trans (Tryz.isAgg20 w)
 z20:=λw=>(dk ..).trans (Tryz.sizeOf20 w)
 v20:=λw=>(cz ..).trans (Tryz.zeroValue20 w)
 t37:=(congrFun (aK ..) _).trans Tryz.underlying86
 a37:=λw=>(dP ..).trans (Tryz.isAgg86 w)
 z37:=λw=>(dk ..).trans (Tryz.sizeOf86 w)
 v37:=λw=>(cz ..).trans (Tryz.zeroValue86 w)
 t70:=(congrFun (aK ..) _).trans Tryz.underlying89
 a70:=λw=>(dP ..).trans (Tryz.isAgg89 w)
 z70:=λw=>(dk ..).trans (Tryz.sizeOf89 w)
 v70:=λw=>(cz ..).trans (Tryz.zeroValue89 w)
 t72:=(congrFun (aK ..) _).trans Tryz.underlying91
 a72:=λw=>(dP ..).trans (Tryz.isAgg91 w)
 z72:=λw=>(dk ..).trans (Tryz.sizeOf91 w)
 v72:=λw=>(cz ..).trans (Tryz.zeroValue91 w)
 t75:=(congrFun (aK ..) _).trans Tryz.underlying81
 a75:=λw=>(dP ..).trans (Tryz.isAgg81 w)
 z75:=λw=>(dk ..).trans (Tryz.sizeOf81 w)
 v75:=λw=>(cz ..).trans (Tryz.zeroValue81 w)
 t164:=(congrFun (aK ..) _).trans Tryz.underlying146
 a164:=λw=>(dP ..).trans (Tryz.isAgg146 w)
 z164:=λw=>(dk ..).trans (Tryz.sizeOf146 w)
 v164:=λw=>(cz ..).trans (Tryz.zeroValue146 w)}
def PH.abh:Go.Shelf.Ren:=⟨λ|167=>33|240=>52|276=>73|n=>n,λ|0=>0|4=>4|5=>5|9=>9|20=>20|37=>86|70=>89|72=>91|75=>81|80=>94|164=>146|n=>n,λ|n=>n⟩
def PH.lays167:Go.Proofs.Lays.n167 PH PH.abh:= {
 mixed:=by kernel_rfl
 f167:=(PH.func Tryz.func33 (by decide)).trans (congrArg some (by kernel_rfl))
 f240:=(PH.func Tryz.func52 (by decide)).trans (congrArg some (by kernel_rfl))
 f276:=(PH.func Tryz.func73 (by decide)).trans (congrArg some (by kernel_rfl))
 t0:=(congrFun (aK ..) _).trans Tryz.underlying0
 a0:=λw=>(dP ..).trans (Tryz.isAgg0 w)
 z0:=λw=>(dk ..).trans (Tryz.sizeOf0 w)
 v0:=λw=>(cz ..).trans (Tryz.zeroValue0 w)
 t4:=(congrFun (aK ..) _).trans Tryz.underlying4
 a4:=λw=>(dP ..).trans (Tryz.isAgg4 w)
 z4:=λw=>(dk ..).trans (Tryz.sizeOf4 w)
 v4:=λw=>(cz ..).trans (Tryz.zeroValue4 w)
 t5:=(congrFun (aK ..) _).trans Tryz.underlying5
 a5:=λw=>(dP ..).trans (Tryz.isAgg5 w)
 z5:=λw=>(dk ..).trans (Tryz.sizeOf5 w)
 v5:=λw=>(cz ..).trans (Tryz.zeroValue5 w)
 t9:=(congrFun (aK ..) _).trans Tryz.underlying9
 a9:=λw=>(dP ..).trans (Tryz.isAgg9 w)
 z9:=λw=>(dk ..).trans (Tryz.sizeOf9 w)
 v9:=λw=>(cz ..).trans (Tryz.zeroValue9 w)
 t20:=(congrFun (aK ..) _).trans Tryz.underlying20
 a20:=λw=>(dP ..).trans (Tryz.isAgg20 w)
 z20:=λw=>(dk ..).trans (Tryz.sizeOf20 w)
 v20:=λw=>(cz ..).trans (Tryz.zeroValue20 w)
 t37:=(congrFun (aK ..) _).trans Tryz.underlying86
 a37:=λw=>(dP ..).trans (Tryz.isAgg86 w)
 z37:=λw=>(dk ..).trans (Tryz.sizeOf86 w)
 v37:=λw=>(cz ..).trans (Tryz.zeroValue86 w)
 t70:=(congrFun (aK ..) _).trans Tryz.underlying89
 a70:=λw=>(dP ..).trans (Tryz.isAgg89 w)
 z70:=λw=>(dk ..).trans (Tryz.sizeOf89 w)
 v70:=λw=>(cz ..).trans (Tryz.zeroValue89 w)
 t72:=(congrFun (aK ..) _).trans Tryz.underlying91
 a72:=λw=>(dP ..).trans (Tryz.isAgg91 w)
 z72:=λw=>(dk ..).trans (Tryz.sizeOf91 w)
 v72:=λw=>(cz ..).trans (Tryz.zeroValue91 w)
 t75:=(congrFun (aK ..) _).trans Tryz.underlying81
 a75:=λw=>(dP ..).trans (Tryz.isAgg81 w)
 z75:=λw=>(dk ..).trans (Tryz.sizeOf81 w)
 v75:=λw=>(cz ..).trans (Tryz.zeroValue81 w)
 t164:=(congrFun (aK ..) _).trans Tryz.underlying146
 a164:=λw=>(dP ..).trans (Tryz.isAgg146 w)
 z164:=λw=>(dk ..).trans (Tryz.sizeOf146 w)
 v164:=λw=>(cz ..).trans (Tryz.zeroValue146 w)}
def PH.abg:Go.Shelf.Ren:=⟨λ|169=>34|n=>n,λ|0=>0|3=>3|5=>5|9=>9|37=>86|70=>89|72=>91|127=>126|n=>n,λ|n=>n⟩
def PH.lays169:Go.Proofs.Lays.n169 PH PH.abg:= {
 mixed:=by kernel_rfl
 f169:=(PH.func Tryz.func34 (by decide)).trans (congrArg some (by kernel_rfl))
 t0:=(congrFun (aK ..) _).trans Tryz.underlying0
 a0:=λw=>(dP ..).trans (Tryz.isAgg0 w)
 z0:=λw=>(dk ..).trans (Tryz.sizeOf0 w)
 v0:=λw=>(cz ..).trans (Tryz.zeroValue0 w)
 t3:=(congrFun (aK ..) _).trans Tryz.underlying3
 a3:=λw=>(dP ..).trans (Tryz.isAgg3 w)
 z3:=λw=>(dk ..).trans (Tryz.sizeOf3 w)
 v3:=λw=>(cz ..).trans (Tryz.zeroValue3 w)
 t9:=(congrFun (aK ..) _).trans Tryz.underlying9
 a9:=λw=>(dP ..).trans (Tryz.isAgg9 w)
 z9:=λw=>(dk ..).trans (Tryz.sizeOf9 w)
 v9:=λw=>(cz ..).trans (Tryz.zeroValue9 w)
 t37:=(congrFun (aK ..) _).trans Tryz.underlying86
 a37:=λw=>(dP ..).trans (Tryz.isAgg86 w)
 z37:=λw=>(dk ..).trans (Tryz.sizeOf86 w)
 v37:=λw=>(cz ..).trans (Tryz.zeroValue86 w)
 t70:=(congrFun (aK ..) _).trans Tryz.underlying89
 a70:=λw=>(dP ..).trans (Tryz.isAgg89 w)
 z70:=λw=>(dk ..).trans (Tryz.sizeOf89 w)
 v70:=λw=>(cz ..).trans (Tryz.zeroValue89 w)
 t72:=(congrFun (aK ..) _).trans Tryz.underlying91
 a72:=λw=>(dP ..).trans (Tryz.isAgg91 w)
 z72:=λw=>(dk ..).trans (Tryz.sizeOf91 w)
 v72:=λw=>(cz ..).trans (Tryz.zeroValue91 w)
 t127:=(congrFun (aK ..) _).trans Tryz.underlying126
 a127:=λw=>(dP ..).trans (Tryz.isAgg126 w)
 z127:=λw=>(dk ..).trans (Tryz.sizeOf126 w)
 v127:=λw=>(cz ..).trans (Tryz.zeroValue126 w)}
def PH.aaX(r:Go.Shelf.Ren)(a:r.t 5=5)(b:r.t 72=91):Proofs.Builder.Extra PH r where
 sizeBuilder:=by rw[b];kernel_rfl
 liesBuilder:=by rw[b];kernel_rfl
 t5:=by rw[a];exact(congrFun (aK ..) _).trans Tryz.underlying5
 a5:=λw=>by rw[a];exact(dP ..).trans (Tryz.isAgg5 w)
 z5:=λw=>by rw[a];exact(dk ..).trans (Tryz.sizeOf5 w)
 v5:=λw=>by rw[a];exact(cz ..).trans (Tryz.zeroValue5 w)
 infoByte:=by rw[a];kernel_rfl
 cellsByte:=by rw[a];kernel_rfl
 sizeByte:=by rw[a];kernel_rfl
 neB5:=by rw[a,b];decide
def ab7(s:ByteArray)(c:Int)(w:SN):Calls PH 32 #[SJ s,Su Ti c] w λe w'=>e=SF (Su Sy (Td s.data.toList c.toNat.toUInt8))/\w'=w:=Any.strings_IndexByte PH.lays137 s c w
def Bld(B b:Nat)(t:ByteArray)(w:SN):Prop:=Lib.IsBuilderF 91 5 B b (Tj t.data.toList) w
structure ab1(B b:Nat)(w w':SN):Prop where
 low:Below B w w'
 kept:Lib.OthersKept 5 (some b) w w'
def aaU(a b:ByteArray):Tj (a++b).data.toList=Tj a.data.toList++Lib.strCells b:=by
 simp[Tj,Lib.strCells]
def abe{B b:Nat}{t s:ByteArray}{w:SN}(h:Bld B b t w)(hl:t.size+s.size<=140737488355328)(hB:B<=w.heap.size):
 Calls PH 86 #[AS (some ⟨b,0,none⟩),SJ s] w λe w'=>e=SF (T9 #[Su Sy s.size,TW])/\Bld B b (t++s) w'/\ab1 B b w w':=
 (Any.Builder_WriteString_k PH.lays166 (PH.aaX _ rfl rfl) B b _ s w h (by simpa[Tj]using hl) hB).mono λe w' ⟨h1,h2,h3,h4⟩=>⟨h1,Tf (by rw[aaU];exact h2),h3,h4⟩
def nw{B b:Nat}{t:ByteArray}{c:UInt8}{w:SN}(h:Bld B b t w)(hl:t.size+1<=140737488355328)(hB:B<=w.heap.size):
 Calls PH 33 #[AS (some ⟨b,0,none⟩),Su Ti c.toNat] w λe w'=>e=SF TW/\Bld B b (t++⟨#[c]⟩) w'/\ab1 B b w w':=
 (Any.Builder_WriteByte_k PH.lays167 (PH.aaX _ rfl rfl) B b _ _ w h (by simpa[Tj]using hl) hB).mono λe w' ⟨h1,h2,h3,h4⟩=>⟨h1,Tf (by rw[aaU];exact h2),h3,h4⟩
def aaI{B b:Nat}{t:ByteArray}{w:SN}(h:Bld B b t w)(hB:B<=w.heap.size):
 Calls PH 34 #[AS (some ⟨b,0,none⟩)] w λe w'=>e=SF (SJ t)/\Bld B b t w'/\ab1 B b w w':=
 (Any.Builder_String_any_k PH.lays169 (PH.aaX _ rfl rfl) B b t.data.toList w h hB).mono λe w' ⟨h1,h2,h3,h4⟩=>⟨h1,h2,h3,h4⟩
def ab9(w:SN):Bld w.heap.size w.heap.size ⟨#[]⟩ (w.alloc (SP #[AS none,SI none 0 0] 91)):=Lib.IsBuilderF.of (Lib.fresh_isBuilder _ _ w)
end
def kindOf(c:Nat):Int:=if 0<=fG c then fG c else if c=42\/c=43\/c=63\/c=123 then 7 else 1
def vx(e b l d c):∀f first S p x,jk e b l d c f first S p=some x->x.t.kind=8\/x.t.kind=1
 |0,_,_,_,_,h=>by cases h
 |f+1,first,S,p,x,h=>by
  unfold jk at h;split at h;cases h;exact .inl rfl;split at h;cases h;exact .inr rfl;split at h;split at h<;>first |(cases h;exact .inl rfl)|exact vx e b l d c f _ _ _ _ h
  split at h;split at h<;>first |(cases h;exact .inl rfl)|exact vx e b l d c f _ _ _ _ h
  exact vx e b l d c f _ _ _ _ h
def aaB(c p rest):(dS c p rest).t.kind=7:=by
 unfold dS;split;rfl;split;rfl;split <;>rfl
def aaA{c}{n:Nat}(a:n<256):c=U5 n↔c.toNat=n:=by
 constructor;simp_all
 intro h;simp[<- h]
theorem ab3{c:UInt8}:c=42\/c=43\/c=63\/c=123↔c.toNat=42\/c.toNat=43\/c.toNat=63\/c.toNat=123:=
 or_congr (aaA (n:=42) (by decide)) (or_congr (aaA (n:=43) (by decide)) (or_congr (aaA (n:=63) (by decide)) (aaA (n:=123) (by decide))))
def jB{ln fold l p}(h:l.drop p=[]):eB ln fold l p=some ⟨ly 0 p,none,false,p⟩:=by
 simp[eB,h]
def aaJ{i b l p c r x}(h:l.drop p=c::r)(a:eB i b l p=some x):x.t.kind=kindOf c.toNat\/kindOf c.toNat=1/\x.t.kind=8:=by
 simp[eB,h]at a;unfold kindOf;split at a
 .next e=>
  cases a;rw[if_pos e];exact .inl rfl
 .next e=>
  rw[if_neg e];have g:= @ab3 c;split at a
  .next d=>
   rw[if_pos (g.1 d)];cases a;exact .inl (aaB ..)
  .next d=>
   rw[if_neg λh=>d (g.2 h)];have f:x.t.kind=1\/x.t.kind=8->x.t.kind=1\/(1:Int)=1/\x.t.kind=8:=λh=>h.elim .inl λh=>.inr ⟨rfl,h⟩
   apply f;split at a;rcases vx _ _ _ _ _ _ _ _ _ _ a with h|h<;>omega
   split at a;cases a;exact .inl rfl;split at a;split at a;cases a;exact .inr rfl;split at a;cases a;exact .inr rfl;split at a<;>first |(cases a;exact .inr rfl)|(cases a;exact .inl rfl)
   cases a;exact .inl rfl
structure abo(c:Nat)(x:mP):Prop where
 k0:x.t.kind≠0
 k6:x.t.kind=6↔c=124
 k5:x.t.kind=5↔c=41
 k4:x.t.kind=4↔c=40
 k7:x.t.kind=7↔(c=42\/c=43\/c=63\/c=123)
section
mutual
def core:Nd->Nd
 | .set _ a b c d=>.set 0 a b c d
 | .edge _ f=>.edge 0 f
 | .seq _ ks=>.seq 0 (ef ks)
 | .alt _ ks=>.alt 0 (ef ks)
 | .grp _ k _=>.grp 0 (core k) 0
 | .rep _ k l m=>.rep 0 (core k) l m
def ef:List Nd->List Nd
 |[]=>[]
 |k::ks=>core k::ef ks
end
def nu(a):ef a=a.map core:=by
 induction a with
 |nil=>rfl
 |cons k a b=>simp[ef,b]
def GA{b a k k'}(h:ef a=ef b)(c:core k'=core k):ef (a++[k'])=ef (b++[k]):=by
 simp_all[nu]
def aaT{b a}(h:ef a=ef b):a.length=b.length:=by
 have:=congrArg List.length h;simpa[nu]using this
mutual
def j0(M):∀e i,bv M (core e) i=bv M e i
 | .set ..,i=>by simp[core,bv]
 | .edge ..,i=>by simp[core,bv]
 | .seq _ d,i=>aas M d i
 | .alt _ d,i=>aat M d i
 | .grp _ k _,i=>j0 M k i
 | .rep _ k l m,i=>by simp[core,bv,show bv M (core k)=bv M k from funext (j0 M k)]
def aas(M:MT):∀(d:List Nd)(i:Nat),dL M (ef d) i=dL M d i
 |[],i=>rfl
 |k::d,i=>by simp[ef,dL,j0 M k i,show dL M (ef d)=dL M d from funext (aas M d)]
def aat(M:MT):∀(d:List Nd)(i:Nat),iK M (ef d) i=iK M d i
 |[],i=>rfl
 |k::d,i=>by simp[ef,iK,j0 M k i,aat M d i]
end
def aaR{x a s}(h:0<=TI x a):TI (x++s) a=TI x a:=by
 induction x with
 |nil=>
  unfold TI at h ⊢;grind
 |cons b x f=>
  rw[SG];rw[Lib.index.eq_2]at h ⊢;rw[Lib.index.eq_2];by_cases c:a.isPrefixOf (b::x)=true;have:a.isPrefixOf (b::(x++s))=true:=by
   grind
  rw[if_pos c,if_pos this];rw[if_neg c]at h ⊢;split at h;omega;next g=>
  have d:0<=TI x a:=by grind
  have i:=Lib.index_room x a d;have:¬ a.isPrefixOf (b::(x++s))=true:=λe=>c (by
   rw[List.isPrefixOf_iff_prefix]at e ⊢;exact List.prefix_of_prefix_length_le e ⟨s,by simp⟩ (by grind))
  rw[if_neg this,f d]
def ab8{x a s}(h:(U0 x a).2.2=true):U0 (x++s) a=((U0 x a).1,(U0 x a).2.1++s,true):=by
 unfold U0 at h ⊢;split at h
 .next b=>
  have:=Lib.index_room x a b;rw[aaR b];grind
 .cases h
def aaz{x s c}(h:0<=Td x c):Td (x++s) c=Td x c:=by
 induction x with
 |nil=>exact absurd h (by simp[Td])
 |cons b x a=>
  unfold Td at h ⊢;grind
def aaK{S c b r s x}(h:jE S (c::b::r)=some x):jE S (c::b::(r++s))=some x:=by
 simp_all[ab8,jE]
section
variable{ln fold:Bool}{l l' a s:List UInt8}
def wk{p}(b:p<=l.length):(a++l++s).drop (a.length+p)=l.drop p++s:=by
 rw[Tp,List.drop_length_add_append,List.drop_append_of_le_length b]
def sx{u q q'}:∀f first S p x,jk ln fold l u q f first S p=some x->x.wr=none->p<=l.length->∀i,f<=i->
 ∃w D,x=⟨iI q w,none,true,D⟩/\jk ln fold (a++l++s) u q' i first S (a.length+p)=some ⟨iI q' w,none,true,a.length+D⟩
 |0,_,_,_,_,h,_,_,_,_=>by cases h
 |f+1,first,S,p,x,h,j,E,i,m=>by
  obtain⟨i,rfl⟩:∃g,i=g+1:=⟨i-1,by omega⟩;have m:f<=i:=by omega
  unfold jk at h ⊢;rw[wk E];have n:∀(g:Nat)(C:Bool)(T:cS)(t:Nat),l.drop t=[]->jk ln fold l u q g C T t=some x->False:=λg C T t k h=>by
   cases g with
   |zero=>cases h
   |succ g=>simp[jk,k]at h;cases h;cases j
  cases k:l.drop p with
  |nil=>rw[k]at h;cases h;cases j
  |cons c r=>
   have z:=rl k;have G:l.drop (p+1)=r:=by simp[<- List.drop_drop,k]
   rw[k]at h;simp only[SG]at h ⊢;by_cases I:c=93/\first=false
   grind
   rw[if_neg I]at h ⊢;cases r with
   |nil=>
    grind
   |cons b r=>
    simp only[SG,SD]at h ⊢;by_cases v:c=91/\0<=Td [58,46,61] b
    .rw[if_pos ⟨by omega,v⟩]at h ⊢;split at h;cases h;cases j;next y B=>
     rw[aaK B];simp[SD]at z;have:=(yq B (by simp)).1;simp[SD]at this;have:=sx (q':=q') f false y.1 (p+y.2) x h j (by omega) i m;grind
    .rw[if_neg λh=>v h.2]at h ⊢;cases r with
     |nil=>
      have F:b≠45:=by
       rintro rfl;cases f with
       |zero=>cases h
       |succ f=>
        simp_all[jk]
      rw[if_neg λh=>F h.2.1];have:=sx (q':=q') f false _ (p+1) x h j (by omega) i m;omega
     |cons e r=>
      simp only[SG,List.getD_cons_zero,List.getD_cons_succ,SD]at h ⊢;simp[SD]at z;by_cases A:b=45/\e≠93
      .rw[if_pos ⟨by omega,A⟩]at h ⊢;split at h;cases h;cases j;next H=>
       rw[if_neg H];have:=sx (q':=q') f false _ (p+3) x h j (by omega) i m;omega
      .rw[if_neg λh=>A h.2]at h ⊢;have:=sx (q':=q') f false _ (p+1) x h j (by omega) i m;omega
def aaF{r}(h:(dU r).2.2.1=true):dU (r++s)=dU r:=by
 unfold dU at h ⊢;split at h;cases h;next b=>
 have c:=HE b;rw[aaz (by omega),if_neg b,if_neg b,List.take_append_of_le_length (by omega)]
def aaN{p x}(C:p<=l.length)(h:eB ln fold l p=some x)(g:x.wr=none)(h0:x.t.kind≠0):
 ∃z,eB ln fold (a++l++s) (a.length+p)=some ⟨{x.t with at_:=z},none,x.more,a.length+x.p⟩:=by
 unfold eB at h ⊢;rw[wk C];cases m:l.drop p with
 |nil=>rw[m]at h;cases h;exact absurd rfl h0
 |cons c r=>
  have F:=rl m;have f:l.drop (p+1)=r:=by simp[<- List.drop_drop,m]
  rw[m]at h;simp only[SG]at h ⊢;split at h;next n=>rw[if_pos n];cases h;exact⟨_,rfl⟩
  next n=>
  rw[if_neg n];split at h
  .next i=>
   rw[if_pos i];cases h;unfold dS at g ⊢;split;exact⟨_,rfl⟩;split;exact⟨_,rfl⟩;split;exact⟨_,rfl⟩;next t k j=>
   dsimp only at g ⊢;have w:(dU r).2.2.1=true:=by
    grind
   rw[aaF w,w];exact⟨_,by simp[od];exact⟨rfl,by omega⟩⟩
  next i=>
  rw[if_neg i];split at h
  .next t=>
   unfold ET at h ⊢;have u:a.length+p+1=a.length+(p+1):=by omega
   rw[u,wk (by omega)];rw[f]at h ⊢;have v:Ts (r++s) [94]=Ts r [94]:=by
    cases r with
    |nil=>
     simp[jk]at h;have e:Ts [] [94]=false:=rfl;rw[e]at h;rw[if_neg (by simp),f]at h;cases h;cases g
    |cons b r=>rfl
   dsimp only at h ⊢;have A:∀q,q<=l.length->jk ln fold l (Ts r [94]) p (l.length+1) true co q=some x->∃z,jk ln fold (a++l++s) (Ts r [94]) (a.length+p) ((a++l++s).length+1) true co (a.length+q)=some ⟨{x.t with at_:=z},none,x.more,a.length+x.p⟩:=λq u h=>by
    obtain⟨E,G,rfl,i⟩:=sx (a:=a) (s:=s) (q':=a.length+p) _ _ _ _ _ h g u ((a++l++s).length+1) (by grind);exact⟨_,i⟩
   split at h
   .next D=>
    have:=qw (l:=l) (p:=p+1) (c:=94) (by rw[f];omega);grind
   grind
  next t=>
  rw[if_neg t];split at h;next k=>rw[if_pos k];cases h;exact⟨_,rfl⟩
  next k=>
  rw[if_neg k];split at h
  .next j=>
   rw[if_pos j];cases r with
   |nil=>cases h;cases g
   |cons d r=>
    simp[SG]at h ⊢;split at h;cases h;cases g;next y=>
    rw[if_neg y];split at h;cases h;cases g;next B=>
    rw[if_neg B];cases h;exact⟨_,rfl⟩
  .next j=>rw[if_neg j];cases h;exact⟨_,rfl⟩
structure Sh(ln fold:Bool)(l l':List UInt8)(k:Nat)(K:Int):Prop where
 tok:∀p x,p<=l.length->eB ln fold l p=some x->x.wr=none->x.t.kind≠0->∃z,eB ln fold l' (k+p)=some ⟨{x.t with at_:=z},none,x.more,k+x.p⟩
 fin:∃y,eB ln fold l' (k+l.length)=some y/\y.t.kind=K
 kind:K=0\/K=5\/K=6
def aaQ(c):kindOf c≠0:=by
 unfold kindOf;split;next h=>have:=CJ h;omega
 omega
def aaS{p x}(f:p<=l.length)(d:eB ln fold l p=some x)(h0:x.t.kind=0):p=l.length:=by
 cases b:l.drop p with
 |nil=>have:=congrArg List.length b;grind
 |cons c r=>rcases aaJ b d with h|⟨h,e⟩<;>have:=aaQ c.toNat<;>omega
def Sh.at_{k K}(h:Sh ln fold l l' k K){p x}(b:p<=l.length)(c:eB ln fold l p=some x)(e:x.wr=none):
 ∃y,eB ln fold l' (k+p)=some y/\((x.t.kind≠0/\p<x.p/\x.p<=l.length/\∃z,y=⟨{x.t with at_:=z},none,x.more,k+x.p⟩)\/x.t.kind=0/\p=l.length/\y.t.kind=K):=by
 by_cases d:x.t.kind=0;have g:=aaS b c d;have⟨y,f,i⟩:=h.fin<;>grind;have⟨z,j⟩:=h.tok p x b c e d;have⟨f,i⟩:=qi b c d (.inl e)<;>grind
def abn(x:Option (g8 Nd)):Prop:=∃b s,x=some (.ok b s)
def ShR(l:List UInt8)(k:Nat)(C:Nat->Prop)(s d:pD)(x e:Option (g8 Nd)):Prop:=
 ∀f b,x=some (.ok f b)->s.p<=b.p/\b.p<=l.length/\s.g<=b.g/\(d.g+(b.g-s.g)<=9\/abn e->C b.p->∃c,e=some (.ok c ⟨k+b.p,d.n+(b.n-s.n),d.g+(b.g-s.g)⟩)/\core c=core f)
def ShR.none_{k C s c b}:ShR l k C s c none b:=λ_ _ h=>by cases h
def ShR.err{k C s d c e b}:ShR l k C s d (some (.err e b)) c:=λ_ _ h=>by cases h
def ShR.tx{k C C' s j x n f z}(H:ShR l k C s j x n)
 (q:∀c b g,s.p<=b.p->b.p<=l.length->s.g<=b.g->core g=core c->ShR l k C' b ⟨k+b.p,j.n+(b.n-s.n),j.g+(b.g-s.g)⟩ (f c b) (z g ⟨k+b.p,j.n+(b.n-s.n),j.g+(b.g-s.g)⟩))
 (F:∀c b d i,x=some (.ok c b)->f c b=some (.ok d i)->C' i.p->C b.p):ShR l k C' s j (mb x f) (mb n z):=by
 cases x with
 |none=>exact .none_
 |some r=>
  cases r with
  |err=>exact .err
  |ok c b=>
   intro d i h;have⟨p,D,y,G⟩:=H c b rfl;have w:=q c b c p D y rfl d i h;refine⟨T7 p w.1,w.2.1,by omega,λA B=> ?_⟩;obtain⟨g,rfl,K⟩:=G (A.imp (by omega) λ⟨u,v,e⟩=>by
    cases n with
    |none=>cases e
    |some r=>cases r with|err=>cases e|ok a t=>exact⟨a,t,rfl⟩) (F c b d i rfl h B)
   have⟨m,I,E⟩:=(q c b g p D y K d i h).2.2.2 (A.imp (by grind) id) B;refine⟨m,I.trans ?_,E⟩;grind
def ShR.from_{k C d s b t t' x c}(h:ShR l k C t t' x c)(j:s.p<=t.p)(r:s.g<=t.g)(n:t'.n-t.n=b.n-s.n)(g:t'.g-t.g=b.g-s.g)(u:∀p,p<=l.length->d p->C p):ShR l k d s b x c:=λi f e=>by
 have⟨w,v,m,q⟩:=h i f e<;>grind
def ShR.here{k C s n' g' c b}(d:s.p<=l.length)(h:core b=core c):ShR l k C s ⟨k+s.p,n',g'⟩ (some (.ok c s)) (some (.ok b ⟨k+s.p,n',g'⟩)):=λ_ _ e=>by
 grind
def R6(ln fold:Bool)(l:List UInt8)(K:Int)(p:Nat):Prop:=(p<l.length\/K≠6)/\∃x,eB ln fold l p=some x/\x.wr=none
def aaL(ln fold:Bool)(l:List UInt8)(p:Nat):Prop:=∃x,eB ln fold l p=some x/\x.wr=none
def aar{f d id ks s s1 nd}(i:s.p<=l.length)(h:lU ln fold l f d id ks s=some (.ok nd s1)):aaL ln fold l s.p:=by
 cases f with
 |zero=>cases h
 |succ f=>
  unfold lU at h;have⟨x,b,_,_,_,e⟩:=ib ln fold l s.p i;simp[b]at h;refine⟨x,b,?_⟩;have c:=e.bad;cases g:x.wr with
  |none=>rfl
  |some w=>
   rw[g]at c;have j:=e.bk c;rw[if_neg (by omega)]at h;split at h;cases h;cases f with
   |zero=>cases h
   |succ f=>
    unfold oe at h;cases f with
    |zero=>cases h
    |succ f=>
     simp[oU,b,g]at h;cases h
def abk{k K}(S:Sh ln fold l l' k K)(f):
 (∀d g s c b,s.p<=l.length->0<=d->0<=g->(d≠0\/K=5->g≠0)->ShR l k (R6 ln fold l K) s ⟨k+s.p,c,b⟩ (qY ln fold l f d s) (qY ln fold l' f g ⟨k+s.p,c,b⟩))/\
 (∀d g id id' X t s c b,s.p<=l.length->0<=d->0<=g->(d≠0\/K=5->g≠0)->ef t=ef X->ShR l k (R6 ln fold l K) s ⟨k+s.p,c,b⟩ (lV ln fold l f d id X s) (lV ln fold l' f g id' t ⟨k+s.p,c,b⟩))/\
 (∀d g s c b,s.p<=l.length->0<=d->0<=g->(d≠0\/K=5->g≠0)->ShR l k (λ_=>True) s ⟨k+s.p,c,b⟩ (sL ln fold l f d s) (sL ln fold l' f g ⟨k+s.p,c,b⟩))/\
 (∀d g id id' X t s c b,s.p<=l.length->0<=d->0<=g->(d≠0\/K=5->g≠0)->ef t=ef X->ShR l k (λ_=>True) s ⟨k+s.p,c,b⟩ (lU ln fold l f d id X s) (lU ln fold l' f g id' t ⟨k+s.p,c,b⟩))/\
 (∀d g s c b,s.p<=l.length->0<=d->0<=g->(d≠0\/K=5->g≠0)->(∀x,eB ln fold l s.p=some x->x.t.kind≠0)->ShR l k (aaL ln fold l) s ⟨k+s.p,c,b⟩ (oe ln fold l f d s) (oe ln fold l' f g ⟨k+s.p,c,b⟩))/\
 (∀nd Q s c b,s.p<=l.length->core Q=core nd->ShR l k (aaL ln fold l) s ⟨k+s.p,c,b⟩ (iC ln fold l f nd s) (iC ln fold l' f Q ⟨k+s.p,c,b⟩))/\
 (∀d g s c b,s.p<=l.length->0<=d->0<=g->(d≠0\/K=5->g≠0)->(∀x,eB ln fold l s.p=some x->x.t.kind≠0)->ShR l k (λ_=>True) s ⟨k+s.p,c,b⟩ (oU ln fold l f d s) (oU ln fold l' f g ⟨k+s.p,c,b⟩))/\
 ∀d g s c b,s.p<=l.length->0<=d->0<=g->(∀x,eB ln fold l s.p=some x->x.t.kind=4)->ShR l k (λ_=>True) s ⟨k+s.p,c,b⟩ (og ln fold l f d s) (og ln fold l' f g ⟨k+s.p,c,b⟩):=by
 have hK:=S.kind;have M:∀{p:Nat}{x:mP},p<=l.length->eB ln fold l p=some x->x.t.kind≠7->x.t.kind≠8->x.wr=none:=λ{p x} j n C A=>by
  have⟨y,q,_,_,_,h4⟩:=ib ln fold l p j;cases n.symm.trans q;have hb:=h4.bad;cases I:x.wr with
  |none=>rfl
  |some w=>rw[I]at hb;rcases h4.bk hb with h|h<;>omega
 induction f with
 |zero=>exact⟨λ_ _ _ _ _ _ _ _ _=>.none_,λ_ _ _ _ _ _ _ _ _ _ _ _ _ _=>.none_,λ_ _ _ _ _ _ _ _ _=>.none_,λ_ _ _ _ _ _ _ _ _ _ _ _ _ _=>.none_,λ_ _ _ _ _ _ _ _ _ _=>.none_,λ_ _ _ _ _ _ _=>.none_,λ_ _ _ _ _ _ _ _ _ _=>.none_,λ_ _ _ _ _ _ _ _ _=>.none_⟩
 |succ f ih=>
  obtain⟨i1,i2,i3,i4,i5,i6,i7,i8⟩:=ih;refine⟨λd g s c b j D i G=> ?_,λd g id id' X t s c b j D i G hk=> ?_,λd g s c b j D i G=> ?_,λd g id id' X t s c b j D i G hk=> ?_,λd g s c b j D i G P=> ?_,λnd Q s c b j T=> ?_,λd g s c b j D i G P=> ?_,λd g s c b j D i P=> ?_⟩;unfold qY;exact(i2 d g _ _ [] [] ⟨s.p,s.n+1,s.g⟩ (c+1) b j D i G rfl).from_ (Sz _) (T8 _) (by grind) (by dsimp only) λ_ _ h=>h
  unfold lV;refine(i3 d g s c b j D i G).tx (λk1 E N h1 r h3 T=> ?_) λ_ _ _ _ _ _ _=>trivial
  dsimp only;cases n:eB ln fold l E.p with
  |none=>exact .none_
  |some x=>
   dsimp only;by_cases h6:x.t.kind=6;rw[if_pos h6];obtain⟨y,q,⟨_,C,A,z,rfl⟩|⟨C,_⟩⟩:=S.at_ r n (M r n (by omega) (by omega));rw[q];dsimp only;rw[if_pos h6];exact(i2 d g id id' _ _ ⟨x.p,E.n,E.g⟩ _ _ A D i G (GA hk T)).from_ (by grind) (by simp) (by dsimp only) (by dsimp only) λ_ _ h=>h
   omega;rw[if_neg h6];intro nd2 s2 e;cases e;refine⟨Sz _,r,T8 _,λ_ R=> ?_⟩;have⟨R,z,hz,hzw⟩:=R;cases n.symm.trans hz;have⟨y,q,hy6⟩:∃y,eB ln fold l' (k+E.p)=some y/\y.t.kind≠6:=by
    obtain⟨y,q,⟨_,C,A,z,rfl⟩|⟨C,A,W⟩⟩:=S.at_ r n hzw<;>grind
   rw[q];dsimp only;rw[if_neg hy6];refine⟨.alt id' (t++[N]),?_,by simp only[core,Nd.alt.injEq,true_and];exact GA hk T⟩;simp
  unfold sL;exact(i4 d g _ _ [] [] ⟨s.p,s.n+1,s.g⟩ (c+1) b j D i G rfl).from_ (Sz _) (T8 _) (by grind) (by dsimp only) λ_ _ h=>h
  unfold lU;dsimp only;cases n:eB ln fold l s.p with
  |none=>exact .none_
  |some x=>
   dsimp only;by_cases H:x.t.kind=0\/x.t.kind=6\/x.t.kind=5;rw[if_pos H];by_cases h5:x.t.kind=5/\d=0;rw[if_pos h5];exact .err;rw[if_neg h5];by_cases hk0:X.length=0;rw[if_pos hk0];exact .err;rw[if_neg hk0];have⟨y,q,hy1,hy2⟩:∃y,eB ln fold l' (k+s.p)=some y/\(y.t.kind=0\/y.t.kind=6\/y.t.kind=5)/\¬ (y.t.kind=5/\g=0):=by
    obtain⟨y,q,⟨_,C,A,z,rfl⟩|⟨C,A,W⟩⟩:=S.at_ j n (M j n (by omega) (by omega))<;>grind
   rw[q];dsimp only;rw[if_pos hy1,if_neg hy2,if_neg (by rw[aaT hk];omega)];exact .here j (by simp only[core,hk]);rw[if_neg H];by_cases C:x.t.kind=7;rw[if_pos C];exact .err;rw[if_neg C];intro nd E e;have hgood:x.wr=none:=by
    obtain⟨u,B,I⟩:=aar (f:=f+1) (d:=d) (id:=id) (ks:=X) (s1:=E) (nd:=nd) j (by unfold lU;rw[n];simp[*])<;>grind
   obtain⟨y,q,⟨_,h7',A,z,rfl⟩|⟨h7',_⟩⟩:=S.at_ j n hgood;rw[q];dsimp only;rw[if_neg H,if_neg C];refine ShR.tx (C':=λ_=>True) (i5 d g s c b j D i G λu B=> ?_) (λk1 E N h1 r h3 T=>i4 d g id id' _ _ E _ _ r D i G (GA hk T)) (λk1 E _ _ e1 e2 _=>aar (i5 d g s c b j D i G λu B=>by cases n.symm.trans B<;>omega _ _ e1).2.1 e2) nd E e;cases n.symm.trans B<;>omega;omega
  unfold oe;exact(i7 d g s c b j D i G P).tx (λk1 E N h1 r h3 T=>i6 k1 N E _ _ r T) λ_ _ _ _ _ _ _=>trivial
  unfold iC;dsimp only;cases n:eB ln fold l s.p with
  |none=>exact .none_
  |some x=>
   dsimp only;by_cases C:x.t.kind=7;rw[if_pos C];cases I:x.wr with
   |some w=>exact .err
   |none=>
    dsimp only;obtain⟨y,q,⟨_,A,W,z,rfl⟩|⟨A,_⟩⟩:=S.at_ j n I;rw[q];dsimp only;rw[if_pos C];exact(i6 _ _ ⟨x.p,s.n+1,s.g⟩ (c+1) b W (by simp only[core,T])).from_ (by dsimp only;omega) (T8 _) (by dsimp only;omega) (by dsimp only) λ_ _ h=>h
    omega
   rw[if_neg C];intro nd2 s2 e;cases e;refine⟨Sz _,j,T8 _,λ_ R=> ?_⟩;have⟨u,B,I⟩:=R;cases n.symm.trans B;have⟨y,q,hy7⟩:∃y,eB ln fold l' (k+s.p)=some y/\y.t.kind≠7:=by
    obtain⟨y,q,⟨_,A,W,z,rfl⟩|⟨A,W,L⟩⟩:=S.at_ j n I<;>first |exact⟨_,q,C⟩|exact⟨y,q,by rw[L];omega⟩
   rw[q];simp[*]
  unfold oU;dsimp only;cases n:eB ln fold l s.p with
  |none=>exact .none_
  |some x=>
   dsimp only;cases I:x.wr with
   |some w=>exact .err
   |none=>
    dsimp only;obtain⟨y,q,⟨_,A,W,z,rfl⟩|⟨A,_⟩⟩:=S.at_ j n I;rw[q];dsimp only;have fin:∀(m m':Nd),core m'=core m->ShR l k (λ_=>True) s ⟨k+s.p,c,b⟩ (some (.ok m ⟨x.p,s.n+1,s.g⟩)) (some (.ok m' ⟨k+x.p,c+1,b⟩)):=λm m' h=>(ShR.here (s:=⟨x.p,s.n+1,s.g⟩) (n':=c+1) (g':=b) W h).from_ (by dsimp only;omega) (T8 _) (by dsimp only;omega) (by dsimp only) λ_ _ h=>h
    by_cases h4:x.t.kind=4;rw[if_pos h4,if_pos h4];simp[*];rw[if_neg h4,if_neg h4];by_cases r:x.t.kind=2;rw[if_pos r,if_pos r];exact fin _ _ (by simp only[core]);rw[if_neg r,if_neg r];by_cases h3:x.t.kind=3;rw[if_pos h3,if_pos h3];exact fin _ _ (by simp only[core]);rw[if_neg h3,if_neg h3];exact fin _ _ (by simp only[core]);exact absurd A (P x n)
  unfold og;dsimp only;cases n:eB ln fold l s.p with
  |none=>exact .none_
  |some x=>
   dsimp only;have h4:=P x n;obtain⟨y,q,⟨_,A,W,z,rfl⟩|⟨A,_⟩⟩:=S.at_ j n (M j n (by omega) (by omega));rw[q];dsimp only;by_cases hg:s.g=9;rw[if_pos hg];exact .err;rw[if_neg hg];have key:ShR l k (λ_=>True) ⟨x.p,s.n+1,s.g+1⟩ ⟨k+x.p,c+1,b+1⟩ (mb (qY ln fold l f (d+1) ⟨x.p,s.n+1,s.g+1⟩) λk F=>match eB ln fold l F.p with
    |none=>none
    |some y=>if y.t.kind=5 then some (.ok (.grp (s.n+1) k (s.g+1)) ⟨y.p,F.n,F.g⟩)else some (.err 10 x.t.at_))
    (mb (qY ln fold l' f (g+1) ⟨k+x.p,c+1,b+1⟩) λk F=>match eB ln fold l' F.p with
    |none=>none
    |some y=>if y.t.kind=5 then some (.ok (.grp (c+1) k (b+1)) ⟨y.p,F.n,F.g⟩)else some (.err 10 z)):=by
    refine(i1 (d+1) (g+1) ⟨x.p,s.n+1,s.g+1⟩ (c+1) (b+1) W (by omega) (by omega) λ_=>by omega).tx (λk1 F N h1 r h3 T=> ?_) λk1 F _ _ e1 e2 _=> ?_
    dsimp only;cases B:eB ln fold l F.p with
    |none=>exact .none_
    |some u=>
     dsimp only;by_cases h5:u.t.kind=5<;>first |(rw[if_pos h5];obtain⟨v,hv,⟨_,L,h11,z',rfl⟩|⟨L,_⟩⟩:=S.at_ r B (M r B (by omega) (by omega))<;>first |(rw[hv];dsimp only;rw[if_pos h5];exact(ShR.here (s:=⟨u.p,F.n,F.g⟩) h11 (by simp only[core,T])).from_ (by dsimp only;omega) (T8 _) (by dsimp only) (by dsimp only) λ_ _ h=>h)|omega)|(rw[if_neg h5];exact .err)
    have r:=(i1 (d+1) (g+1) ⟨x.p,s.n+1,s.g+1⟩ (c+1) (b+1) W (by omega) (by omega) λ_=>by omega _ _ e1).2.1;cases B:eB ln fold l F.p with
    |none=>rw[B]at e2;cases e2
    |some u=>
     rw[B]at e2;dsimp only at e2;split at e2
     .next h5=>
      have I:=M r B (by omega) (by omega);have:=qi r B (by omega) (.inl I);exact⟨.inl (by omega),u,B,I⟩
     .cases e2
   intro nd E e;have⟨L,h11,h12,h13⟩:=key nd E e;dsimp only at L h12 h13;refine⟨by omega,h11,by omega,λhg9 R=> ?_⟩;dsimp only at hg9;have hg':b≠9:=by
    rcases hg9 with h|⟨u,v,h⟩<;>first |omega |(rintro rfl;rw[if_pos rfl]at h;cases h)
   rw[if_neg hg']at hg9;have⟨Q,h14,h15⟩:=h13 (hg9.imp (by omega) id) trivial;rw[if_neg hg'];refine⟨Q,h14.trans ?_,h15⟩;simp only[Option.some.injEq,g8.ok.injEq,pD.mk.injEq,true_and];omega;omega
end
section
variable{ln fold:Bool}{l l' a s:List UInt8}
def bs{c:Type}(x b:Option c):Prop:=∀r,x=some r->b=some r
def bs.tx{g i x c}{f b:g->pD->Option (g8 i)}(h:bs x c)(d:∀a s,bs (f a s) (b a s)):bs (mb x f) (mb c b):=λr e=>by
 cases x with
 |none=>cases e
 |some y=>rw[h y rfl];cases y with|ok a s=>exact d a s r e|err k t=>exact e
def bs.aam{b}{x:Option b}:bs x x:=λ_ h=>h
def ab4(ln fold l f):(∀d s,bs (qY ln fold l f d s) (qY ln fold l (f+1) d s))/\(∀d b c s,bs (lV ln fold l f d b c s) (lV ln fold l (f+1) d b c s))/\
 (∀d s,bs (sL ln fold l f d s) (sL ln fold l (f+1) d s))/\(∀d b c s,bs (lU ln fold l f d b c s) (lU ln fold l (f+1) d b c s))/\
 (∀d s,bs (oe ln fold l f d s) (oe ln fold l (f+1) d s))/\(∀k s,bs (iC ln fold l f k s) (iC ln fold l (f+1) k s))/\
 (∀d s,bs (oU ln fold l f d s) (oU ln fold l (f+1) d s))/\∀d s,bs (og ln fold l f d s) (og ln fold l (f+1) d s):=by
 induction f with
 |zero=>
  refine⟨?_,?_,?_,?_,?_,?_,?_,?_⟩;all_goals
   intros
   intro r h;cases h
 |succ f j=>
  have⟨t,n,m,i,g,e,p,q⟩:=j;refine⟨λd s=> ?_,λd b c s=> ?_,λd s=> ?_,λd b c s=> ?_,λd s=>(p _ _).tx λk s=>e _ _,λk s=> ?_,λd s=> ?_,λd s=> ?_⟩
  .rw[qY,qY];grind
  .refine(m _ _).tx λk s=> ?_
   split <;>first |exact .aam|split <;>first |exact n _ _ _ _|exact .aam
  .rw[sL,sL];grind
  .rw[lU,lU];split;exact .aam;repeat' split
   all_goals first
    |exact .aam
    |exact(g _ _).tx λk s=>i _ _ _ _
  .rw[iC,iC];repeat' split
   all_goals first
    |exact .aam
    |exact e _ _
  .rw[oU,oU];repeat' split
   all_goals first
    |exact .aam
    |exact q _ _
  .rw[og,og];repeat' split
   all_goals first
    |exact .aam
    |exact(t _ _).tx λk s=>.aam
def aaE(ln fold l d s f k):bs (qY ln fold l f d s) (qY ln fold l (f+k) d s):=by
 induction k with
 |zero=>exact .aam
 |succ k b=>exactλr h=>(ab4 ln fold l (f+k)).1 d s r (b r h)
def aaY(ln fold l)(h:l.length<=120):∃r,qY ln fold l 900 0 ⟨0,0,0⟩=some r:=by
 have⟨⟨g,e⟩,v,u,m⟩:=ES ln fold l (l.length+1) 0 (Ta _) (by omega);cases g with
 |nil=>exact absurd rfl m
 |cons t g=>
  by_cases A:t.kind=8;have⟨x,c,_,_,H,n⟩:=ib ln fold l 0 (Ta _);have d:=v;simp[ew,c]at d;have b:x.t=t/\(x.more=false->x.wr=e):=by
   split at d<;>simp_all
  have q:=n.bad;rw[n.k8 (by rw[b.1];omega)]at q;have⟨w,f⟩:=Option.isSome_iff_exists.1 q.symm;have i:x.more=false:=by
   cases j:x.more<;>first |rfl|(have:=n.wrn j;rw[this]at f;cases f)
  have B:gX ln fold l e 0:=⟨x,w,c,by rw[b.1];omega,f,(b.2 i).symm.trans f⟩;have⟨k,a,F,D⟩:=B.alt 894 0 0 0<;>grind;have y:AtP ln fold l e ⟨g,t,0,0⟩ ⟨0,0,0⟩:=⟨Ta _,rfl,rfl,A,_,v⟩;have⟨r,C,_⟩:=(AO (ln:=ln) (fold:=fold) (l:=l) (wr:=e) 892).1 0 ⟨g,t,0,0⟩ ⟨_,y⟩ ⟨T8 _,T8 _,by grind,by grind⟩ (T8 _) (by grind) (by grind);have p:=(zo (ln:=ln) (fold:=fold) (l:=l) (wr:=e) 892).1 0 _ _ y;rw[C]at p;cases r with
  |ok a s=>have⟨G,z,E⟩:=p<;>grind
  |err I s=>have⟨k,a,z,E⟩:=p<;>grind
def abd{k}(c:l.length<=120):qY ln fold l (900+k) 0 ⟨0,0,0⟩=xP ln fold l:=by
 have⟨r,b⟩:=aaY ln fold l c;rw[aaE ln fold l 0 _ 900 k r b,xP,show deep+8=900+1108 from rfl,aaE ln fold l 0 _ 900 1108 r b]
def abf{K}(c:∃y,eB ln fold (a++l++s) (a.length+l.length)=some y/\y.t.kind=K)(e:K=0\/K=5\/K=6):Sh ln fold l (a++l++s) a.length K:=⟨λp x f h d b=>aaN f h d b,c,e⟩
def aaW(f):∀d i e s b c,lU ln fold l f d i e s=some (.ok c b)->∃x,eB ln fold l b.p=some x/\(x.t.kind=0\/x.t.kind=6\/x.t.kind=5/\d≠0):=by
 induction f with
 |zero=>intro _ _ _ _ _ _ h;cases h
 |succ f j=>
  intro d i e s b c h;unfold lU at h;split at h;cases h;next x m=>
  split at h;grind
  split at h;cases h;cases g:oe ln fold l f d s with
  |none=>rw[g]at h;cases h
  |some r=>
   rw[g]at h;cases r with
   |err=>cases h
   |ok k n=>exact j _ _ _ _ _ _ h
def aaZ(f):∀d e i s b g,lV ln fold l f d e i s=some (.ok g b)->∃x,eB ln fold l b.p=some x/\(x.t.kind=0\/x.t.kind=5/\d≠0):=by
 induction f with
 |zero=>intro _ _ _ _ _ _ h;cases h
 |succ f p=>
  intro d e i s b g h;unfold lV at h;cases f with
  |zero=>cases h
  |succ f=>
   cases c:sL ln fold l (f+1) d s with
   |none=>rw[c]at h;cases h
   |some r=>
    rw[c]at h;cases r with
    |err=>cases h
    |ok k m=>
     simp[mb]at h;have⟨x,n,j⟩:=aaW f _ _ _ _ _ _ c<;>grind
def ab2{d c}(h:xP ln fold l=some (.ok d c)):c.p=l.length:=by
 have b:=(Nn (ln:=ln) (fold:=fold) (l:=l) (deep+8)).1 0 ⟨0,0,0⟩ (Ta _) (T8 _);unfold xP at h;rw[h]at b;have⟨x,e,f⟩:=aaZ _ _ _ _ _ _ _ h;exact aaS b.2.1 e (by omega)
def ki{q c r}(b:l.drop q=c::r)(d:0<=fG c.toNat):eB ln fold l q=some ⟨ly (fG c.toNat) q,none,true,q+1⟩:=by
 simp_all[eB]
def g5(ln fold:Bool)(l:List UInt8)(c q b:Nat)(m:Nd)(G:Int):Prop:=∀(f:Nat)(d n g:Int),900+c<=f->0<=d->g+G<=9->∃k N,oe ln fold l f d ⟨q,n,g⟩=some (.ok k ⟨b,N,g+G⟩)/\core k=m
def oB(ln fold:Bool)(l:List UInt8)(c q b:Nat)(m:Nd)(G:Int):Prop:=∀(f:Nat)(d n g:Int),900+c<=f->0<=d->g+G<=9->∃k N,oU ln fold l f d ⟨q,n,g⟩=some (.ok k ⟨b,N,g+G⟩)/\core k=m
def nx(ln fold:Bool)(l:List UInt8)(c q:Nat)(ms:List Nd)(G:Int):Prop:=∀(f:Nat)(d h n g:Int)(b:List Nd),900+c<=f->0<=d->b.length+ms.length≠0->g+G<=9->∃e N,lU ln fold l f d h b ⟨q,n,g⟩=some (.ok e ⟨l.length,N,g+G⟩)/\core e= .seq 0 (ef b++ms)
def g5.mono{c c' q q' m G}(h:g5 ln fold l c q q' m G)(b:c<=c'):g5 ln fold l c' q q' m G:=λf d n g e=>h f d n g (by omega)
def nx.nil{c q}(m:1<=c)(b:q=l.length):nx ln fold l c q [] 0:=by
 intro f d r n g i k p h j;subst b;obtain⟨f,rfl⟩:∃e,f=e+1:=⟨f-1,by omega⟩;rw[lU];rw[jB (by simp)];dsimp only[ly];rw[if_pos (.inl rfl),if_neg (by simp),if_neg (by simpa using h)];simp[core]
def nx.cons{c q h m ms G b x}(v:eB ln fold l q=some x)(w:x.t.kind≠0/\x.t.kind≠5/\x.t.kind≠6/\x.t.kind≠7)(E:0<=b)(u:g5 ln fold l c q h m G)(hs:nx ln fold l c h ms b):nx ln fold l (c+1) q (m::ms) (G+b):=by
 intro f d A n g z D i _ C;obtain⟨f,rfl⟩:∃e,f=e+1:=⟨f-1,by omega⟩;simp only[lU,v];rw[if_neg (by omega),if_neg w.2.2.2];have⟨k,N,j,y⟩:=u f d n g (by omega) i (by omega);rw[j];have⟨r,B,p,t⟩:=hs f d A N (g+G) (z++[k]) (by omega) i (by simp) (by omega);refine⟨r,B,by rw[<- Int.add_assoc];exact p,?_⟩;simp[t,nu,y]
def g5.of{c q b m G x}(h:oB ln fold l c q b m G)(t:eB ln fold l b=some x)(u:x.t.kind≠7):g5 ln fold l (c+1) q b m G:=by
 intro f d n g v j p;obtain⟨f,rfl⟩:∃e,f=e+2:=⟨f-2,by omega⟩;rw[oe];have⟨k,N,i,r⟩:=h (f+1) d n g (by omega) j p;rw[i];refine⟨k,N,?_,r⟩;show iC ln fold l (f+1) k _=_;rw[iC];grind
def g5.rep{c q b m G x y}(h:oB ln fold l c q b m G)(w:eB ln fold l b=some x)(u:x.t.kind=7)(z:x.wr=none)(A:eB ln fold l x.p=some y)(t:y.t.kind≠7):g5 ln fold l (c+2) q x.p (.rep 0 m x.t.least x.t.most) G:=by
 intro f d n g v i j;obtain⟨f,rfl⟩:∃e,f=e+3:=⟨f-3,by omega⟩;rw[oe];have⟨k,N,p,r⟩:=h (f+2) d n g (by omega) i j;rw[p];refine⟨.rep (N+1) k x.t.least x.t.most,N+1,?_,by simp[core,r]⟩;show iC ln fold l (f+2) k _=_;simp_all[iC]
def oB.grp{p m c}(v:p.length<=120)(h:xP ln fold p=some (.ok m c))(a s):oB ln fold (a++[40]++p++41::s) 2 a.length (a.length+p.length+2) (.grp 0 (core m) 0) (1+c.g):=by
 intro f d n g z B A;obtain⟨f,rfl⟩:∃e,f=e+2:=⟨f-2,by omega⟩;have b:=ab2 h;have q:(a++[40]++p++41::s).drop a.length=40::(p++41::s):=by simp
 have i:(a++[40]++p++41::s).drop ((a++[40]).length+p.length)=41::s:=by
  rw[wk (Sz _)];simp
 have t:eB ln fold (a++[40]++p++41::s) a.length=some ⟨ly 4 a.length,none,true,a.length+1⟩:=ki q (by decide);have u:eB ln fold (a++[40]++p++41::s) ((a++[40]).length+p.length)=some ⟨ly 5 ((a++[40]).length+p.length:Nat),none,true,(a++[40]).length+p.length+1⟩:=ki i (by decide);have w:Sh ln fold p (a++[40]++p++41::s) (a++[40]).length 5:=abf ⟨_,u,rfl⟩ (by omega);have y:=(N9 v h).g0;rw[oU];dsimp only;rw[t];dsimp only[ly];rw[if_pos rfl,og];dsimp only;rw[t];dsimp only[ly];rw[if_neg (by omega)];have⟨_,_,_,x⟩:=(abk w f).1 0 (d+1) ⟨0,0,0⟩ (n+1) (g+1) (Ta _) (T8 _) (by omega) λ_=>by omega m c (by rw[show f=900+(f-900)from by omega,abd v];omega)
 have⟨j,k,r⟩:=x (.inl (by grind)) ⟨.inr (by decide),_,by rw[b];exact jB (by simp),rfl⟩;rw[show a.length+1=(a++[40]).length+0 from by simp,k];simp only[mb];rw[b,u];dsimp only[ly];refine⟨.grp (n+1) j (g+1),n+1+(c.n-0),?_,by simp only[core,r]⟩;grind
def oB.edge{q x}{fin:Bool}(j:eB ln fold l q=some x)(h:x.wr=none)(c:x.t.kind=if fin then 3 else 2):oB ln fold l 1 q x.p (.edge 0 fin) 0:=by
 intro f d n g k b i;obtain⟨f,rfl⟩:∃e,f=e+1:=⟨f-1,by omega⟩;rw[oU];cases fin;simp_all[core]
 simp_all[core]
end
mutual
def eg:Nd->Prop
 | .set .. =>True
 | .edge .. =>False
 | .seq _ ks=>fc ks
 | .alt _ ks=>fc ks
 | .grp _ k _=>eg k
 | .rep _ k _ _=>eg k
def fc:List Nd->Prop
 |[]=>True
 |k::ks=>eg k/\fc ks
end
structure PartOf(M N:MT)(o:Nat):Prop where
 get:∀i,i<N.s.size->M.s.get! (o+i)=N.s.get! i
 size:o+N.s.size<=M.s.size
 small:M.s.size<=300
def aap{M N o}(n:PartOf M N o){g r l m}(p:∀i,i<=M.s.size->Within M i (g i))(d:∀i,i<=N.s.size->Within N i (r i))
 (k:∀i j,i<=N.s.size->j<=N.s.size->((g (o+i)).testBit (o+j)=true↔(r i).testBit j=true)):
 ∀f b i j,i<=N.s.size->j<=N.s.size->((pU g l m f b (o+i)).testBit (o+j)=true↔(pU r l m f b i).testBit j=true)
 |0,_,_,_,_,_=>by simp[pU]
 |f+1,b,i,j,s,t=>by
  have z:=n.size;have w:=n.small;rw[Q0,Q0];refine or_congr (and_congr_right λ_=>by omega) (and_congr_right λ_=> ?_);constructor<;>first |(rintro⟨c,v,h,x,q⟩;have u:=p (o+i) (by omega) c h;have y:=(vz (l:=l) (m:=m) p f (bS l m b) c u.2) (o+j) q;obtain⟨c,rfl⟩:∃e,c=o+e:=⟨c-o,by omega⟩;exact⟨c,by omega,(k i c s (by omega)).1 h,by omega,(aap n p d k f _ c j (by omega) t).1 q⟩)|(rintro⟨c,v,h,x,q⟩;have u:=d i s c h;exact⟨o+c,by omega,(k i c s (by omega)).2 h,by omega,(aap n p d k f _ c j (by omega) t).2 q⟩)
mutual
def sy{M N o}(p:PartOf M N o):∀t,eg t->∀i j,i<=N.s.size->j<=N.s.size->((bv M t (o+i)).testBit (o+j)=true↔(bv N t i).testBit j=true)
 | .set _ B z C A,_,i,j,d,g=>by
  have y:=p.size;rw[bv,bv];by_cases r:i<N.s.size;rw[p.get i r,decide_eq_true (by omega),decide_eq_true r];grind
  grind
 | .edge ..,h,_,_,_,_=>h.elim
 | .seq _ n,h,i,j,d,g=>by exact Kf p n h i j d g
 | .alt _ n,h,i,j,d,g=>by exact aaD p n h i j d g
 | .grp _ k _,h,i,j,d,g=>by exact sy p k h i j d g
 | .rep _ k l m,h,i,j,d,g=>by
  exact aap p (λi d=>bZ M k i d) (λi d=>bZ N k i d) (λi j d g=>sy p k h i j d g) _ _ i j d g
def Kf{M N:MT}{o:Nat}(p:PartOf M N o):∀(n:List Nd),fc n->∀i j,i<=N.s.size->j<=N.s.size->((dL M n (o+i)).testBit (o+j)=true↔(dL N n i).testBit j=true)
 |[],_,i,j,d,g=>by rw[dL,dL,tN,tN,decide_eq_true_eq,decide_eq_true_eq];omega
 |k::n,h,i,j,d,g=>by
  have y:=p.size;have x:=p.small;rw[LS,LS];constructor<;>first |(rintro⟨c,v,q,s⟩;have u:=bZ M k (o+i) (by omega) c q;have w:=qH M n c u.2 (o+j) s;obtain⟨c,rfl⟩:∃e,c=o+e:=⟨c-o,by omega⟩;exact⟨c,by omega,(sy p k h.1 i c d (by omega)).1 q,(Kf p n h.2 c j (by omega) g).1 s⟩)|(rintro⟨c,v,q,s⟩;have u:=bZ N k i d c q;exact⟨o+c,by omega,(sy p k h.1 i c d (by omega)).2 q,(Kf p n h.2 c j (by omega) g).2 s⟩)
def aaD{M N:MT}{o:Nat}(p:PartOf M N o):∀(n:List Nd),fc n->∀i j,i<=N.s.size->j<=N.s.size->((iK M n (o+i)).testBit (o+j)=true↔(iK N n i).testBit j=true)
 |[],_,i,j,d,g=>by simp[iK]
 |k::n,h,i,j,d,g=>by rw[aac,aac,sy p k h.1 i j d g,aaD p n h.2 i j d g]
end
mutual
def aal:∀d,eg (core d)↔eg d
 | .set .. =>Iff.rfl
 | .edge .. =>Iff.rfl
 | .seq _ c=>by simp[eg];exact aak c
 | .alt _ c=>aak c
 | .grp _ k _=>aal k
 | .rep _ k .. =>aal k
def aak:∀(c:List Nd),fc (ef c)↔fc c
 |[]=>Iff.rfl
 |k::c=>by simp[ef,fc,aal k,aak c]
end
def fc.push{a k}(h:fc a)(c:eg k):fc (a++[k]):=by
 induction a with
 |nil=>exact⟨c,trivial⟩
 |cons x a b=>exact⟨h.1,b h.2⟩
section
variable{ln fold:Bool}{l:List UInt8}
end
section
variable{M:MT}
def aah(M:MT)(b:List B4)(i:Nat):Prop:=i<M.s.size/\(b.any λb=>iw b.1 b.2.1 b.2.2.1 b.2.2.2 (M.s.get! i).toNat)=true
def aan(M:MT)(x:List B4×Bool)(i p:Nat):Prop:=∀j,p.testBit j=true->(i<j->aah M x.1 i)/\(x.2=false->i<j)
def aah.left{b c i}(h:aah M b i):aah M (b++c) i:=⟨h.1,by simp[h.2]⟩
def aah.right{b c i}(h:aah M c i):aah M (b++c) i:=⟨h.1,by simp[h.2]⟩
def aav{g l m x}(d:∀i,i<=M.s.size->Within M i (g i))(k:∀i,i<=M.s.size->aan M x i (g i)):
 ∀f b i,i<=M.s.size->∀j,(pU g l m f b i).testBit j=true->(i<j->aah M x.1 i)/\(x.2=false->(b:Int)<l->i<j)
 |0,_,_,_,j,h=>by simp[pU]at h
 |f+1,b,i,q,j,h=>by
  rw[Q0]at h;rcases h with⟨r,rfl⟩|⟨_,c,r,n,u,p⟩<;>first |exact⟨λh=>by omega,λ_ h=>by omega⟩|(have e:=d i q c n;have v:=(vz (l:=l) (m:=m) d f _ c e.2) j p;have t:=aav d k f _ c e.2 j p;have s:=k i q c n;grind)
mutual
def nA{G lo hi}:∀s,be G lo hi s->∀i,i<=M.s.size->aan M (bj s) i (bv M s i)
 | .set _ F C H D,_,i,hi,j,h=>by
  rw[bv]at h;split at h
  .next p=>
   rw[tN,decide_eq_true_eq]at h;rw[Tg,decide_eq_true_eq]at p;exact⟨λ_=>⟨p.1,by simp[bj,p.2]⟩,λ_=>by omega⟩
  grind
 | .edge _ A,_,i,hi,j,h=>by
  rw[bv]at h;split at h;rw[tN,decide_eq_true_eq]at h;simp_all[bj]
  grind
 | .seq _ e,f,i,hi,j,h=>by exact aau e f.2 i hi j h
 | .alt _ e,f,i,hi,j,h=>by exact aaw e f.2 i hi j h
 | .grp _ k _,f,i,hi,j,h=>by exact nA k f.2.2.2 i hi j h
 | .rep _ k l m,f,i,hi,j,h=>by
  simp only[be]at f;have:=aav (x:=bj k) (l:=l) (m:=m) (λi hi=>bZ M k i hi) (λi hi=>nA k f.2.2.2.2 i hi) _ 0 i hi j h;rw[bj];grind
def aau{G lo hi:Int}:∀(e:List Nd),bV G lo hi e->∀(i:Nat),i<=M.s.size->aan M (iD e) i (dL M e i)
 |[],_,i,hi,j,h=>by
  rw[dL,tN,decide_eq_true_eq]at h;simp_all[iD]
 |k::e,f,i,hi,j,h=>by
  rw[LS]at h;have⟨t,g,n⟩:=f;have⟨c,p,u,w⟩:=h;have v:=bZ M k i hi c u;have E:=qH M e c v.2 j w;have y:=nA k g i hi c u;have z:=aau e n c v.2 j w;rw[iD];split
  .next B=>
   refine⟨λr=> ?_,λh=> ?_⟩;by_cases q:i<c;exact(y.1 q).left;obtain rfl:c=i:=by omega
   exact(z.1 r).right;grind
  grind
def aaw{G lo hi:Int}:∀(e:List Nd),bV G lo hi e->∀(i:Nat),i<=M.s.size->aan M (iF e) i (iK M e i)
 |[],_,i,hi,j,h=>by simp[iK]at h
 |k::e,f,i,hi,j,h=>by
  rw[aac]at h;have⟨t,g,n⟩:=f;rw[iF];rcases h with h|h<;>first |(have:=nA k g i hi j h;exact⟨λh=>(this.1 h).left,λh=>this.2 (Bool.or_eq_false_iff.1 h).1⟩)|(have:=aaw e n i hi j h;exact⟨λh=>(this.1 h).right,λh=>this.2 (Bool.or_eq_false_iff.1 h).2⟩)
end
def aaP{a G lo b}(d:be G lo b a){i j}(hi:i<=M.s.size)(h:(bv M a i).testBit j=true):JU M a i=true:=by
 have:=nA a d i hi j h;unfold JU;cases e:(bj a).2;have c:=this.1 (this.2 e);simp[c.1,c.2];rfl
def fp(M:MT)(a:Nd)(i:Nat):Prop:=∀j,(bv M a i).testBit j=false
def jp(M:MT)(a:Nd)(i j:Nat):Prop:=(bv M a i).testBit j=true/\∀c,(bv M a i).testBit c=true->c<=j
theorem aaq{a G i}(hs:M.s.size<=300)(hi:i<=M.s.size):DR M a G i=none↔fp M a i:=by
 have e:DR M a G i=none↔df (λ_=>true) (bv M a i) 320=none:=by
  grind [DR]
 rw[e,oX];constructor<;>first |(intro h j;cases b:(bv M a i).testBit j<;>first |rfl|(have:=bZ M a i hi j b;grind))|(intro h c _ b;rw[h c]at b;cases b)
def abb{a G i l}(hs:M.s.size<=300)(hi:i<=M.s.size)(h:DR M a G i=some l):∃j,jp M a i j/\l=(TD (G+1)).map (nn (((0:Int),i,j)::de M a i j)):=by
 unfold DR at h;split at h
 .next j b=>
  cases h;rw[j4]at b;refine⟨j,⟨b.2.1,λc d=> ?_⟩,rfl⟩;have:=bZ M a i hi c d;grind
 .cases h
def aay{nd G g lo d}(h:be g lo d nd)(hs:M.s.size<=300):∀f i,i+f<=M.s.size+1->(fj M nd G f i=none↔∀c,i<=c->c<i+f->fp M nd c)
 |0,i,_=>by grind [fj]
 |f+1,i,k=>by
  have p:=aay (nd:=nd) (G:=G) h hs f (i+1) (by omega);have b:(∀c,i<=c->c<i+(f+1)->fp M nd c)↔fp M nd i/\∀c,i+1<=c->c<i+1+f->fp M nd c:=by
   grind
  rw[b,fj];split
  .next e=>
   cases n:DR M nd G i with
   |none=>simp[p,(aaq hs (by omega)).1 n]
   |some l=>
    grind [aaq]
  .next e=>
   have:fp M nd i:=λj=>by
    cases m:(bv M nd i).testBit j<;>first |rfl|exact absurd (aaP h (by omega) m) e
   grind
def aax{d G g lo m}(n:be g lo m d){l}(hs:M.s.size<=300):∀f i,i+f<=M.s.size+1->fj M d G f i=some l->∃b j,i<=b/\b<i+f/\(∀c,i<=c->c<b->fp M d c)/\jp M d b j/\l=(TD (G+1)).map (nn (((0:Int),b,j)::de M d b j))
 |0,i,_,h=>by cases h
 |f+1,i,u,h=>by
  rw[fj]at h;have e:fp M d i->fj M d G f (i+1)=some l->∃b j,i<=b/\b<i+(f+1)/\(∀c,i<=c->c<b->fp M d c)/\jp M d b j/\l=(TD (G+1)).map (nn ((0,b,j)::de M d b j)):=λs h=>by
   have⟨b,j,q,r,v,w⟩:=aax n hs f (i+1) (by omega) h<;>grind
  split at h
  .next p=>
   cases k:DR M d G i with
   |none=>rw[k]at h;exact e ((aaq hs (by omega)).1 k) h
   |some x=>
    have⟨j,q,r⟩:=abb hs (by omega) k<;>grind
  .next p=>
   refine e (λj=> ?_) h;cases t:(bv M d i).testBit j<;>first |rfl|exact absurd (aaP n (by omega) t) p
end
end
def el(c:Nat):Nat:=if 97<=c/\c<=122 then c-32 else c
def eP(S:cS):Prop:=∀c,c<256->S (el c)=S c
def i4(a b c d:Int):Prop:=eP (iw a b c d)
def hY(S c)(h:c<256):iw (wz S 0) (wz S 1) (wz S 2) (wz S 3) c=S c:=by
 have e:∀k,(wz S k).toNat=wd S k:=λk=>by simp[wz]
 unfold iw;repeat' split
 all_goals
  rw[e,jC,decide_eq_true (Nat.mod_lt _ (by decide)),TU];congr 1
  omega
def h8{S}(h:eP S):i4 (wz S 0) (wz S 1) (wz S 2) (wz S 3):=λc hc=>by
 rw[hY S c hc,hY S (el c) (by unfold el;split <;>omega),h c hc]
def dT:i4 0 0 0 0:=λc hc=>by simp[iw]
def fA(S):eP (pm S):=λc hc=>by
 unfold el pm;by_cases h:97<=c/\c<=122
 .have e:c-32+32=c:=by omega
  rw[if_pos h,e,decide_eq_true (by omega:65<=c-32/\c-32<=90),decide_eq_false (by omega:¬ (97<=c-32/\c-32<=122)),decide_eq_false (by omega:¬ (65<=c/\c<=90)),decide_eq_true h];cases S c<;>cases S (c-32)<;>rfl
 .rw[if_neg h]
def eP.nm{S}(h:eP S):eP (comp S):=λc hc=>by unfold comp;rw[h c hc]
def eP.less{S}(h:eP S):eP (del S 10):=λc hc=>by
 unfold del;rw[h c hc];unfold el;split
 .have e1:(c-32 !=10)=true:=by simp;omega
  have e2:(c !=10)=true:=by simp;omega
  rw[e1,e2]
 .rfl
def mK{ln nt S}:eP (uK ln true nt S):=by
 unfold uK;have h:=fA S;cases nt<;>cases ln<;>first |exact h|exact h.nm.less|exact h.nm
def aa3(x:mP):Prop:=i4 x.t.b0 x.t.b1 x.t.b2 x.t.b3
def ms{ln l nt at_}:∀f b S p x,jk ln true l nt at_ f b S p=some x->aa3 x:=by
 intro f;induction f with
 |zero=>intro b S p x h;cases h
 |succ f ih=>
  intro b S p x h;rw[jk]at h;split at h
  .cases h;exact dT
  .split at h
   .cases h;exact h8 mK
   .split at h
    .split at h
     .cases h;exact dT
     .exact ih _ _ _ _ h
    .split at h
     .split at h
      .cases h;exact dT
      .exact ih _ _ _ _ h
     .exact ih _ _ _ _ h
def mI{ln l p x}(h:eB ln true l p=some x):aa3 x:=by
 unfold eB at h;split at h
 .cases h;exact dT
 .split at h
  .cases h;exact dT
  .split at h
   .cases h;unfold dS aa3;repeat' split
    all_goals exact dT
   .split at h
    .exact ms _ _ _ _ _ h
    .split at h
     .cases h;refine h8 λc hc=> ?_
      have e:∀c,c<256->jd co 0 255 c=true:=λc hc=>by simp[jd];omega
      have hu:el c<256:=by unfold el;split <;>omega
      cases ln
      .exact(e _ hu).trans (e _ hc).symm
      .exact eP.less (S:=jd co 0 255) (λc hc=>(e _ (by unfold el;split <;>omega)).trans (e _ hc).symm) c hc
     .split at h
      .split at h
       .cases h;exact dT
       .split at h
        .cases h;exact dT
        .split at h
         .cases h;exact dT
         .cases h;exact h8 (fA _)
      .cases h;exact h8 (fA _)
mutual
def aE:Nd->Prop
 | .set _ a b c d=>i4 a b c d
 | .edge .. =>True
 | .seq _ ks=>T2 ks
 | .alt _ ks=>T2 ks
 | .grp _ k _=>aE k
 | .rep _ k _ _=>aE k
def T2:List Nd->Prop
 |[]=>True
 |k::ks=>aE k/\T2 ks
end
def T2.push{a k}(h:T2 a)(c:aE k):T2 (a++[k]):=by
 induction a with
 |nil=>exact⟨c,trivial⟩
 |cons x a b=>exact⟨h.1,b h.2⟩
def mE(ln:Bool)(l:List UInt8)(f):(∀d s b e,qY ln true l f d s=some (.ok b e)->aE b)/\
 (∀d w n s b e,T2 n->lV ln true l f d w n s=some (.ok b e)->aE b)/\(∀d s b e,sL ln true l f d s=some (.ok b e)->aE b)/\
 (∀d w n s b e,T2 n->lU ln true l f d w n s=some (.ok b e)->aE b)/\(∀d s b e,oe ln true l f d s=some (.ok b e)->aE b)/\
 (∀k s b e,aE k->iC ln true l f k s=some (.ok b e)->aE b)/\(∀d s b e,oU ln true l f d s=some (.ok b e)->aE b)/\∀d s b e,og ln true l f d s=some (.ok b e)->aE b:=by
 have m:∀{x:Option (g8 Nd)}{g:Nd->pD->Option (g8 Nd)}{b e},mb x g=some (.ok b e)->∃k t,x=some (.ok k t)/\g k t=some (.ok b e):=λ{x g b e} h=>by
  cases x with
  |none=>cases h
  |some r=>cases r with|ok a s=>exact⟨a,s,rfl,h⟩|err=>cases h
 induction f with
 |zero=>refine⟨?_,?_,?_,?_,?_,?_,?_,?_⟩<;>(intros;rename_i h;cases h)
 |succ f M=>
  have⟨H,C,K,B,D,L,P,F⟩:=M;refine⟨λd s b e h=> ?_,λd w n s b e p h=> ?_,λd s b e h=> ?_,λd w n s b e p h=> ?_,λd s b e h=> ?_,λk s b e p h=> ?_,λd s b e h=> ?_,λd s b e h=> ?_⟩
  .rw[qY]at h;exact C _ _ [] _ _ _ trivial h
  .rw[lV]at h;have⟨k,t,q,j⟩:=m h;have v:=p.push (K _ _ _ _ q);split at j<;>first |cases j|split at j<;>first |exact C _ _ _ _ _ _ v j|(cases j;exact v)
  .rw[sL]at h;exact B _ _ [] _ _ _ trivial h
  .rw[lU]at h;split at h;cases h;split at h;split at h;cases h;split at h;cases h;cases h;exact p;split at h<;>first |cases h|(have⟨k,t,q,j⟩:=m h;exact B _ _ _ _ _ _ (p.push (D _ _ _ _ q)) j)
  .rw[oe]at h;have⟨k,t,q,j⟩:=m h;exact L _ _ _ _ (P _ _ _ _ q) j
  .rw[iC]at h;split at h;cases h;split at h;split at h<;>first |cases h|exact L _ _ _ _ (by exact p) h
   cases h;exact p
  .rw[oU]at h;split at h;cases h;next x z=>
   split at h;cases h;split at h;exact F _ _ _ _ h;split at h
   .cases h;trivial
   .split at h<;>(cases h;first |trivial|exact mI z)
  .rw[og]at h;split at h<;>first |cases h|split at h<;>first |cases h|(have⟨k,t,q,j⟩:=m h;have:=H _ _ _ _ q;split at j<;>first |cases j|split at j<;>first |(cases j;exact this)|cases j)
structure Great(M N:MT):Prop where
 size:N.s.size=M.s.size
 get:∀i,i<M.s.size->(N.s.get! i).toNat=el (M.s.get! i).toNat
 f:M.f=1/\N.f=1
 e:N.e=M.e
def Great.has{M N}(G:Great M N){a b c d}(h:i4 a b c d)(i):(decide (i<N.s.size)&&iw a b c d (N.s.get! i).toNat)=(decide (i<M.s.size)&&iw a b c d (M.s.get! i).toNat):=by
 rw[G.size];by_cases hi:i<M.s.size
 .rw[G.get i hi,h _ (TL _)]
 .rw[decide_eq_false hi];rfl
mutual
def c9{M N}(G:Great M N):∀t,aE t->bv N t=bv M t
 | .set ..,h=>by funext i;simp only[bv,G.has h i]
 | .edge _ b,_=>by funext i;cases b<;>simp[bv,wG,G.size,G.f.1,G.f.2,G.e]
 | .seq _ n,h=>by funext i;simp only[bv,WD G n h]
 | .alt _ n,h=>by funext i;simp only[bv,i7 G n h]
 | .grp _ k _,h=>by funext i;simp only[bv,c9 G k h]
 | .rep _ k _ _,h=>by funext i;simp only[bv,c9 G k h]
def WD{M N}(G:Great M N):∀n,T2 n->dL N n=dL M n
 |[],_=>by funext i;simp only[dL]
 |k::n,h=>by funext i;simp only[dL,c9 G k h.1,WD G n h.2]
def i7{M N}(G:Great M N):∀n,T2 n->iK N n=iK M n
 |[],_=>by funext i;simp only[iK]
 |k::n,h=>by funext i;simp only[iK,c9 G k h.1,i7 G n h.2]
end
def j2{M N k l m d j}(h:bv N k=bv M k):∀f a i,jJ N k l m d j f a i=jJ M k l m d j f a i:=by
 intro f;induction f with
 |zero=>intro a i;rfl
 |succ f ih=>intro a i;simp only[jJ,dI,h,ih]
mutual
def en{M N}(G:Great M N):∀t,aE t->de N t=de M t
 | .set ..,h=>by funext i j;simp only[de]
 | .edge _ b,_=>by funext i j;simp only[de]
 | .seq _ n,h=>by funext i j;simp only[de,fB G n h]
 | .alt _ n,h=>by funext i j;simp only[de,X8 G n h]
 | .grp _ k _,h=>by funext i j;simp only[de,en G k h]
 | .rep _ k _ _,h=>by funext i j;simp only[de,en G k h,j2 (c9 G k h)]
def fB{M N}(G:Great M N):∀n,T2 n->jI N n=jI M n
 |[],_=>by funext i j;simp only[jI]
 |k::n,h=>by funext i j;simp only[jI,c9 G k h.1,WD G n h.2,en G k h.1,fB G n h.2]
def X8{M N}(G:Great M N):∀n,T2 n->oq N n=oq M n
 |[],_=>by funext i j;simp only[oq]
 |k::n,h=>by funext i j;simp only[oq,c9 G k h.1,en G k h.1,X8 G n h.2]
end
mutual
def T3:∀t,aE t->∀b∈(bj t).1,i4 b.1 b.2.1 b.2.2.1 b.2.2.2
 | .set ..,h,b,hb=>by simp[bj]at hb;subst hb;exact h
 | .edge ..,_,b,hb=>by simp[bj]at hb
 | .seq _ n,h,b,hb=>W4 n h b (by simpa[bj]using hb)
 | .alt _ n,h,b,hb=>W5 n h b (by simpa[bj]using hb)
 | .grp _ k _,h,b,hb=>T3 k h b (by simpa[bj]using hb)
 | .rep _ k _ _,h,b,hb=>T3 k h b (by simpa[bj]using hb)
def W4:∀n,T2 n->∀b∈(iD n).1,i4 b.1 b.2.1 b.2.2.1 b.2.2.2
 |[],_,b,hb=>by simp[iD]at hb
 |k::n,h,b,hb=>by
  unfold iD at hb;split at hb
  .rcases TH.1 hb with hb|hb
   .exact T3 k h.1 b hb
   .exact W4 n h.2 b hb
  .exact T3 k h.1 b hb
def W5:∀n,T2 n->∀b∈(iF n).1,i4 b.1 b.2.1 b.2.2.1 b.2.2.2
 |[],_,b,hb=>by simp[iF]at hb
 |k::n,h,b,hb=>by
  unfold iF at hb;rcases TH.1 hb with hb|hb
  .exact T3 k h.1 b hb
  .exact W5 n h.2 b hb
end
def la{M N}(G:Great M N){t}(h:aE t)(i):JU N t i=JU M t i:=by
 unfold JU;congr 1
 have:=T3 t h;revert this;generalize (bj t).1=l;intro hl;rw[G.size];by_cases hi:i<M.s.size
 .simp only[decide_eq_true hi,TU];induction l with
  |nil=>rfl
  |cons b l ih=>
   simp only[List.any_cons];rw[ih λx hx=>hl x (Th _ hx),G.get i hi,hl b Tm _ (TL _)]
 .rw[decide_eq_false hi];rfl
def kP{M N}(G:Great M N){t}(h:aE t)(a):∀f i,fj N t a f i=fj M t a f i:=by
 intro f;induction f with
 |zero=>intro i;rfl
 |succ f ih=>intro i;simp only[fj,DR,la G h,c9 G t h,en G t h,ih]
def kE{s nd t}(h:gK s 1=some (.ok nd t)):aE nd:=by
 unfold gK at h;split at h
 .cases h
 .exact(mE _ _ _).1 _ _ _ _ h
def xs(c:UInt8):Bool:=[40,41,91,46,94,36,92,124,42,43,63,123].contains c
def aag(c:UInt8):List UInt8:=if xs c then[92,c]else[c]
def aae:List UInt8->List UInt8
 |[]=>[]
 |c::l=>aag c++aae l
def aaf(c:UInt8):cS:=jd co c.toNat c.toNat
def aai:Int->List UInt8->List Nd
 |_,[]=>[]
 |n,c::r=>.set n (wz (aaf c) 0) (wz (aaf c) 1) (wz (aaf c) 2) (wz (aaf c) 3)::aai (n+1) r
def tO(a:List UInt8)(c b):eB false false (a++(aag c++b)) a.length=some ⟨iI a.length (aaf c),none,true,a.length+(aag c).length⟩:=by
 unfold eB;rw[List.drop_left];unfold aag;by_cases h:xs c=true
 .rw[if_pos h];have h2:=h;simp only[xs,List.contains_cons,List.contains_nil,Bool.or_false,Tw,beq_iff_eq]at h2;rcases h2 with rfl|rfl|rfl|rfl|rfl|rfl|rfl|rfl|rfl|rfl|rfl|rfl<;>rfl
 .rw[if_neg h];have hn:∀d:UInt8,xs d=true->c.toNat≠d.toNat:=λd hd e=>h (U9.1 e▸hd)
  have hs:fG c.toNat= -1:=by
   unfold fG;rw[if_neg (show c.toNat≠40 from hn 40 rfl),if_neg (show c.toNat≠41 from hn 41 rfl),if_neg (show c.toNat≠124 from hn 124 rfl),if_neg (show c.toNat≠94 from hn 94 rfl),if_neg (show c.toNat≠36 from hn 36 rfl)]
  have hq:∀d:UInt8,xs d=true->c≠d:=λd hd e=>h (e▸hd)
  have h1:¬ (c=42\/c=43\/c=63\/c=123):=by
   rintro(e|e|e|e)
   .exact hq _ rfl e
   .exact hq _ rfl e
   .exact hq _ rfl e
   .exact hq _ rfl e
  simp only[SG,SQ];rw[hs,if_neg (by decide),if_neg h1,if_neg (hq 91 rfl),if_neg (hq 46 rfl),if_neg (hq 92 rfl)];rfl
def O4(a r):∃y,eB false false (a++aae r) a.length=some y/\y.t.kind≠7/\y.t.kind≠6:=by
 cases r with
 |nil=>exact⟨_,by rw[aae,Tv];exact jB (by simp),by simp[ly],by simp[ly]⟩
 |cons c r=>exact⟨_,tO a c _,by simp[iI],by simp[iI]⟩
def O7(a:List UInt8)(c b)(f n):oU false false (a++(aag c++b)) (f+1) 0 ⟨a.length,n,0⟩=some (.ok (.set (n+1) (wz (aaf c) 0) (wz (aaf c) 1) (wz (aaf c) 2) (wz (aaf c) 3)) ⟨a.length+(aag c).length,n+1,0⟩):=by
 rw[oU,tO];simp[iI]
def Ix(a:List UInt8)(c r)(f n):oe false false (a++(aag c++aae r)) (f+2) 0 ⟨a.length,n,0⟩=some (.ok (.set (n+1) (wz (aaf c) 0) (wz (aaf c) 1) (wz (aaf c) 2) (wz (aaf c) 3)) ⟨a.length+(aag c).length,n+1,0⟩):=by
 obtain⟨y,hy,hk,_⟩:=O4 (a++aag c) r;rw[Tp,Tx]at hy;rw[oe,O7];show iC _ _ _ _ _ _=_;rw[iC,hy];exact if_neg hk
def aaV:∀r a,∀f,r.length+4<=f->∀ks n,ks.length+r.length≠0->lU false false (a++aae r) f 0 2 ks ⟨a.length,n,0⟩=some (.ok (.seq 2 (ks++aai (n+1) r)) ⟨(a++aae r).length,n+r.length,0⟩):=by
 intro r;induction r with
 |nil=>
  intro a f hf ks n hk;obtain⟨f,rfl⟩:∃g,f=g+1:=⟨f-1,by omega⟩;rw[lU,aae,Tv,jB (by simp)];simp[ly,aai];simpa using hk
 |cons c r ih=>
  intro a f hf ks n hk;simp only[SD]at hf;obtain⟨f,rfl⟩:∃g,f=g+3:=⟨f-3,by omega⟩;rw[lU,aae,tO];show(if(1:Int)=0\/(1:Int)=6\/(1:Int)=5 then _ else if(1:Int)=7 then _ else _)=_;rw[if_neg (by decide),if_neg (by decide),Ix];show lU _ _ _ _ _ _ _ _=_;have:=ih (a++aag c) (f+2) (by omega) (ks++[.set (n+1) (wz (aaf c) 0) (wz (aaf c) 1) (wz (aaf c) 2) (wz (aaf c) 3)]) (n+1) (by simp);rw[Tx,Tp]at this;rw[this];simp[aai];omega
def aaj(l:List UInt8):Nd:=.alt 1 [.seq 2 (aai 3 l)]
def O8{l}(h:l≠[])(hl:l.length<=1000):xP false false (aae l)=some (.ok (aaj l) ⟨(aae l).length,2+l.length,0⟩):=by
 have h1:=aaV l [] 2005 (by omega) [] 2 (by simp;exact h);simp only[SQ,SV]at h1;unfold xP deep;rw[qY,lV,sL];simp only[Int.zero_add,show(1:Int)+1=2 from rfl,show(2:Int)+1=3 from rfl]at h1 ⊢;rw[h1];show(match eB false false (aae l) (aae l).length with |none=>none|some x=>_)=_;rw[jB (by simp)];rfl
def D5(l):(aae l).length<=2*l.length:=by
 induction l with
 |nil=>simp[aae]
 |cons c l ih=>
  simp only[aae,Tx,SD];have:(aag c).length<=2:=by unfold aag;split <;>simp
  omega
def o0(s:ByteArray)(l:List UInt8)(i:Nat):Prop:=i+l.length<=s.size/\∀k(h:k<l.length),s.get! (i+k)=l[k]
def O3{s c l i}:o0 s (c::l) i↔i<s.size/\s.get! i=c/\o0 s l (i+1):=by
 constructor
 .rintro⟨h1,h2⟩;simp only[SD]at h1;refine⟨by omega,h2 0 (by simp),by omega,λk hk=> ?_⟩;have:=h2 (k+1) (by simp;omega);rw[show i+1+k=i+(k+1)from by omega,this];rfl
 .rintro⟨h1,h2,h3,h4⟩;refine⟨by simp;omega,λk hk=> ?_⟩;cases k with
  |zero=>exact h2
  |succ k=>
   rw[show i+(k+1)=i+1+k from by omega];exact h4 k (by simpa using hk)
def AT{M:MT}{n c i j}:(bv M (.set n (wz (aaf c) 0) (wz (aaf c) 1) (wz (aaf c) 2) (wz (aaf c) 3)) i).testBit j=true↔j=i+1/\i<M.s.size/\M.s.get! i=c:=by
 rw[bv,hY _ _ (TL _)];have e:aaf c (M.s.get! i).toNat=true↔M.s.get! i=c:=by
  rw[<- U9];simp[aaf,jd,co];omega
 split
 .next h=>
  simp only[Tg,decide_eq_true_eq]at h;rw[tN,decide_eq_true_eq];exact⟨λq=>⟨q.symm,h.1,e.1 h.2⟩,λq=>q.1.symm⟩
 .next h=>
  simp only[Tg,decide_eq_true_eq]at h;simp;exactλ_ q r=>h ⟨q,e.2 r⟩
def O6{M:MT}(hs:M.s.size<=300):∀l n i j,i<=M.s.size->((dL M (aai n l) i).testBit j=true↔j=i+l.length/\o0 M.s l i):=by
 intro l;induction l with
 |nil=>
  intro n i j hi;rw[aai,dL,tN,decide_eq_true_eq];exact⟨λh=>⟨h.symm,hi,λk h=>nomatch h⟩,λh=>h.1.symm⟩
 |cons c l ih=>
  intro n i j hi;rw[aai,LS,O3];constructor
  .rintro⟨k,hk,h1,h2⟩;obtain⟨rfl,h3,h4⟩:=AT.1 h1;obtain⟨h5,h6⟩:=(ih _ _ _ h3).1 h2;exact⟨by simp;omega,h3,h4,h6⟩
  .rintro⟨h1,h2,h3,h4⟩;exact⟨i+1,by omega,AT.2 ⟨rfl,h2,h3⟩,(ih _ _ _ h2).2 ⟨by simp at h1;omega,h4⟩⟩
def pp{M:MT}(hs:M.s.size<=300)(l i j)(hi:i<=M.s.size):(bv M (aaj l) i).testBit j=true↔j=i+l.length/\o0 M.s l i:=by
 rw[aaj,bv,aac,bv,O6 hs l _ _ _ hi];simp[iK]
def aaM{M:MT}:∀l n i j,jI M (aai n l) i j=[]:=by
 intro l;induction l with
 |nil=>intro n i j;rw[aai,jI]
 |cons c l ih=>
  intro n i j;rw[aai,jI];split
  .rw[ih,de];rfl
  .exact ih _ _ _
def IT{M:MT}(l i j):de M (aaj l) i j=[]:=by
 rw[aaj,de,oq];split
 .rw[de];exact aaM _ _ _ _
 .rw[oq]
def O1{l s:List UInt8}{A:ByteArray}{f e k G lo hi}(hw:be G lo hi (aaj l))(hA:A.size<=300)(hk:o0 A l k):
 ∃i,i<=k/\o0 A l i/\(∀c,c<i->¬ o0 A l c)/\fj ⟨A,f,e⟩ (aaj l) 0 (A.size+1) 0=some [((i:Int),((i+l.length:Nat):Int))]:=by
 have hks:k<=A.size:=by have:=hk.1;omega
 cases h:fj ⟨A,f,e⟩ (aaj l) 0 (A.size+1) 0 with
 |none=>
  have:=(aay (M:=⟨A,f,e⟩) hw hA (A.size+1) 0 (by simp)).1 h k (by omega) (by omega) (k+l.length);exact absurd ((pp (M:=⟨A,f,e⟩) hA l k _ hks).2 ⟨rfl,hk⟩) (by simpa using this)
 |some L=>
  obtain⟨b,j,_,h2,h3,h4,rfl⟩:=aax (M:=⟨A,f,e⟩) hw hA (A.size+1) 0 (by simp) h;have hb:b<=A.size:=by omega
  obtain⟨rfl,ho⟩:=(pp (M:=⟨A,f,e⟩) hA l b j hb).1 h4.1;have hn:∀c,c<b->¬ o0 A l c:=λc hc ho=>by
   have:=h3 c (by omega) hc (c+l.length);exact absurd ((pp (M:=⟨A,f,e⟩) hA l c _ (Nat.le_of_lt (SY hc hb))).2 ⟨rfl,ho⟩) (by simpa using this)
  refine⟨b,Nat.le_of_not_lt λhlt=>hn k hlt hk,ho,hn,?_⟩;rw[IT];simp[List.range_succ,nn]
section
open Go.RowKit Go.Conc
attribute [local instance] fI
def O2(a b):aae (a++b)=aae a++aae b:=by
 induction a with
 |nil=>rfl
 |cons c a ih=>simp[aae,ih]
def K5{s:ByteArray}{k:Nat}(h:k<s.size):(⟨(aae (s.data.toList.take (k+1))).toArray⟩:ByteArray)=⟨(aae (s.data.toList.take k)).toArray⟩++⟨(aag s[k]).toArray⟩:=by
 have e:s.data.toList.take (k+1)=s.data.toList.take k++[s[k]]:=by
  have h2:k<s.data.toList.length:=by simpa using h
  rw[List.take_succ_eq_append_getElem h2];simp only[Array.getElem_toList];rfl
 rw[e,O2];apply TR;simp[aae]
def HN:∀n:_root_.Fin 256,xs (U5 n.val)=decide (0<=Td [40,41,91,46,94,36,92,124,42,43,63,123] (U5 n.val)):=by decide+kernel
def abm(c:UInt8)(w:SN):Calls PH 32 #[SJ ⟨#[40,41,91,46,94,36,92,124,42,43,63,123]⟩,Su Ti c.toNat] w λe w'=>∃n:Int,e=SF (Su Sy n)/\decide (0<=n)=xs c/\w'=w:=
 (ab7 _ _ w).mono λe w' ⟨he,hw⟩=>⟨_,he,by
  have:=HN ⟨c.toNat,c.toNat_lt⟩;simp only[UInt8.ofNat_toNat]at this;rw[this,U3,show c.toNat.toUInt8=c from UInt8.ofNat_toNat],hw⟩
def aaO(s:ByteArray)(w:SN)(hs:s.size<=300):
 Calls PH 17 #[SJ s] w λe w'=>e=SF (SJ ⟨(aae s.data.toList).toArray⟩)/\Old w w':=by
 have hO:∀{a},Below w.heap.size w a->Old w a:=λh=>⟨h.block,h.size,h.os,h.output⟩
 go_enter PH.func Tryz.func17 (by decide),Tryz.ntmps17
 go_wp2_with fail
 go_loopw [7] (λi wr=>∃k:Nat,k<=s.size/\i=Su Sy k/\Bld w.heap.size w.heap.size ⟨(aae (s.data.toList.take k)).toArray⟩ wr/\Below w.heap.size w wr)
  (λi _=>s.size- (intOf i).toNat)
 case atStart=>exact⟨0,Ta _,rfl,ab9 w,(Below.refl _ _).alloc (Sz _) _⟩
 case round=>
  obtain⟨k,hk,rfl,hb,hB⟩:=hrel;have hz:w.heap.size<=wr.heap.size:=hB.size;have hl:(⟨(aae (s.data.toList.take k)).toArray⟩:ByteArray).size<=600:=by
   have:=D5 (s.data.toList.take k);have:=List.length_take_le k s.data.toList;show(aae (s.data.toList.take k)).toArray.size<=600;simp at *;omega
  by_cases hlt:k<s.size
  .have ht:=K5 hlt;have hI:=abm s[k] wr;replace hb:=AI hb;replace ht:=AI ht;cases hq:xs s[k]with
   |true=>
    rw[hq]at hI;have hq1:aag s[k]=[92,s[k]]:=by simp[aag,hq]
    go_wp2_with (first |(go_at_call 32;refine hI.mono ?_;rintro e w' ⟨n,rfl,hn,rfl⟩)|fail)
    refine(nw (c:=92) hb.out (by omega) hz).mono ?_;rintro e w1 ⟨rfl,hb1,k1⟩;have hz1:=k1.low.size;have hB1:=hB.trans k1.low;replace hb1:=AI hb1;clear hI hq;go_wp2_with fail
    refine(nw (c:=s[k]) hb1.out (by rw[Tu,show(⟨#[92]⟩:ByteArray).size=1 from rfl];omega) (by omega)).mono ?_;rintro e w2 ⟨rfl,hb2,k2⟩;have hB2:=hB1.trans k2.low;have hb3:Bld w.heap.size w.heap.size ⟨(aae (s.data.toList.take (k+1))).toArray⟩ w2:=by
     rw[ht.out,hq1,show(⟨[92,s[k]].toArray⟩:ByteArray)=⟨#[92]⟩++⟨#[s[k]]⟩from rfl,<- ByteArray.append_assoc];exact hb2
    replace hb3:=AI hb3;clear hb2 ht hq1;go_wp2;go_roundw
    case rel=>exact⟨k+1,by omega,by push_cast;rfl,hb3.out,hB2⟩
    case measure=>simp[intOf];omega
   |false=>
    rw[hq]at hI;have hq1:aag s[k]=[s[k]]:=by simp[aag,hq]
    go_wp2_with (first |(go_at_call 32;refine hI.mono ?_;rintro e w' ⟨n,rfl,hn,rfl⟩)|fail)
    refine(nw (c:=s[k]) hb.out (by omega) hz).mono ?_;rintro e w1 ⟨rfl,hb1,k1⟩;have hB1:=hB.trans k1.low;have hb3:Bld w.heap.size w.heap.size ⟨(aae (s.data.toList.take (k+1))).toArray⟩ w1:=by
     rw[ht.out,hq1];exact hb1
    replace hb3:=AI hb3;clear hb1 ht hq1 hI hq;go_wp2;go_roundw
    case rel=>exact⟨k+1,by omega,by push_cast;rfl,hb3.out,hB1⟩
    case measure=>simp[intOf];omega
  .have hta:s.data.toList.take k=s.data.toList:=TJ (by simp;omega);rw[hta]at hb;go_wp2_with fail
   refine(aaI hb hz).mono ?_;rintro e w1 ⟨rfl,_,k1⟩;have hB1:=hB.trans k1.low;clear hb hta hl;go_wp2;go_ret;exact⟨rfl,hO hB1⟩
end
def sT(s:ByteArray)(i:Nat):s.get! i=s.data.toList.getD i 0:=by
 show s.data[i]! =_;rw[Tc,Array.getElem?_toList];by_cases h:i<s.data.size
 .rw[getElem!_pos s.data i h,Array.getElem?_eq_getElem h];rfl
 .rw[getElem!_neg s.data i h,Array.getElem?_eq_none (by omega)];rfl
def O5{T:ByteArray}{P:List UInt8}{q:Nat}(h:q<=T.size):(T.extract 0 q++⟨P.toArray⟩++T.extract q T.size:ByteArray).data.toList=T.data.toList.take q++P++T.data.toList.drop q:=by
 simp[ByteArray.data_extract];exact TJ (by rw[List.length_drop];exact Sz _)
def aaC{T:ByteArray}{P:List UInt8}{q:Nat}(h:q<=T.size):(T.extract 0 q++⟨P.toArray⟩++T.extract q T.size:ByteArray).size=T.size+P.length:=by
 rw[Tu,Tu,Tr,Tr,show(⟨P.toArray⟩:ByteArray).size=P.length from by show P.toArray.size=_;simp];omega
def ab5{T:ByteArray}{P:List UInt8}{q:Nat}(h:q<=T.size):o0 (T.extract 0 q++⟨P.toArray⟩++T.extract q T.size) P q:=by
 refine⟨by rw[aaC h];omega,λk hk=> ?_⟩;rw[sT,O5 h];have:(T.data.toList.take q).length=q:=by
  have:q<=T.data.size:=h;simp;omega
 rw[Tc,Tp,List.getElem?_append_right (by omega),List.getElem?_append_left (by omega),this,Nat.add_sub_cancel_left,Tb hk];rfl
def ab6{A:ByteArray}{P:List UInt8}{c:Nat}(h:c+P.length<=A.size):A.extract c (c+P.length)=⟨P.toArray⟩↔o0 A P c:=by
 have e:(A.extract c (c+P.length)).data.toList=(A.data.toList.drop c).take P.length:=by
  simp[ByteArray.data_extract]
 have h2:c+P.length<=A.data.toList.length:=by simpa using h
 constructor
 .intro h1;rw[h1]at e;refine⟨h,λk hk=> ?_⟩;rw[sT,Tc];have:=congrArg (·[k]?) e;simp only[Ty,TX,if_pos hk]at this;rw[<- this,Tb (by simpa using hk)];rfl
 .rintro⟨_,h1⟩;apply TR;apply Array.toList_inj.1;rw[e];apply List.ext_getElem?;intro k;by_cases hk:k<P.length
  .have:=h1 k hk;rw[sT,Tc,Tb (by omega)]at this;rw[Ty,if_pos hk,TX,Tb (by omega)];show some _=P.toArray.toList[k]?;rw[Tb (by simpa using hk)];simpa using this
  .rw[Ty,if_neg hk,List.getElem?_eq_none (by simpa using hk)]
def aaH{A:ByteArray}{P:List UInt8}{c:Nat}(h:c+P.length<=A.size):((A.extract c (c+P.length)).toList==P)=true↔o0 A P c:=by
 rw[<- ab6 h,Lib.toList_data,beq_iff_eq];constructor
 .intro e;apply TR;apply Array.toList_inj.1;rw[e]
 .intro e;rw[e]
section
open Go.RowKit Go.Conc
attribute [local instance] fI
def PH.R7:PH.underlying 35=some (.struct (PH.fieldsOf 35)):=by kernel_rfl
def PH.R8:PH.stoodInHeld 35=false:=by kernel_rfl
@[go_sem] theorem PH.aad:PH.eqGuardType Tryz.prog.depth 35=false:=by kernel_rfl
def PH.aa7:(PH.fieldsOf 35).toList=[⟨"From",3,0,false,"","",0⟩,⟨"To",3,1,false,"","",8⟩]:=by kernel_rfl
def PH.aa9:PH.underlying 3=some (.int Sy):=by kernel_rfl
@[go_sem] theorem aa8(a b c d:Int)(u:SN):(Op.equalIn 10000 35 (.agg #[Su Sy a,Su Sy b]) (.agg #[Su Sy c,Su Sy d])).run PH u= .ok (a==c&&b==d) u:=by
 rw[run_equalIn_struct u 9999 35 _ _ PH.R7 PH.R8,PH.aa7];simp[Op.eqFields,go_sem,PH.aa9,Result.andThen];by_cases a=c<;>by_cases b=d<;>simp[*]
def QuA(v0 v1 v7:Tn)(a:Act):Prop:=a.defers=[]/\a.tmps.size=130/\a.tmps.getD 0 undef=v0/\a.tmps.getD 1 undef=v1/\a.tmps.getD 7 undef=v7
def QuA.out{v0 v1 v7:Tn}{a:Act}(h:QuA v0 v1 v7 a):∃u:Nat->Tn,a= {tmps:=(v0::v1::u 2::u 3::u 4::u 5::u 6::v7::u 8::u 9::u 10::u 11::u 12::u 13::u 14::u 15::u 16::u 17::u 18::u 19::u 20::u 21::u 22::u 23::u 24::u 25::u 26::u 27::u 28::u 29::u 30::u 31::u 32::u 33::u 34::u 35::u 36::u 37::u 38::u 39::u 40::u 41::u 42::u 43::u 44::u 45::u 46::u 47::u 48::u 49::u 50::u 51::u 52::u 53::u 54::u 55::u 56::u 57::u 58::u 59::u 60::u 61::u 62::u 63::u 64::u 65::u 66::u 67::u 68::u 69::u 70::u 71::u 72::u 73::u 74::u 75::u 76::u 77::u 78::u 79::u 80::u 81::u 82::u 83::u 84::u 85::u 86::u 87::u 88::u 89::u 90::u 91::u 92::u 93::u 94::u 95::u 96::u 97::u 98::u 99::u 100::u 101::u 102::u 103::u 104::u 105::u 106::u 107::u 108::u 109::u 110::u 111::u 112::u 113::u 114::u 115::u 116::u 117::u 118::u 119::u 120::u 121::u 122::u 123::u 124::u 125::u 126::u 127::u 128::u 129::[]).toArray,defers:=[]}:=by
 obtain⟨hd,hn,rfl,rfl,rfl⟩:=h;obtain⟨ts,ds⟩:=a;dsimp only at hd hn ⊢;subst hd;refine⟨λi=>ts.getD i undef,?_⟩;exact congrArg (λt=>({tmps:=t,defers:=[]}:Act)) (dp 130 ts hn)
def Jx{h0 w s t c}(hc: -9223372036854775808<=c/\c<=9223372036854775807)(X:Under h0 w)(hG:fx w)(hE:gI w):
 cb (br ek h0) 4 #[SJ s,SJ t,Su Sy c] w λe w'=>e=SF (SU true)/\Old w w':=by
 refine bu (bP (by decide)) (λw' h=>nomatch h.1) (PH.func Tryz.func4 (by decide)) rfl ?_;simp only[Tryz.ntmps4,SR,SD,SV,T6,T5,SM,SL,SS,SO,SQ,SG];have H:mx (λu=>Old w u/\Under h0 u/\fx u/\gI u) w:=⟨.refl w,X,hG,hE⟩;clear X hG hE;refine ac (λK hK=> ?_);revert H;refine ey λw1 H=> ?_
 go_wp2;refine hK.out _ _ ?_;clear hK K;refine ac λK hK=> ?_
 revert H;refine ey λw2 H=> ?_
 have hcl:=KI s 50 w2;go_wp2;refine hcl.mono ?_;rintro e' w3 ⟨rfl,rfl⟩;have hss:=FJ s 50;generalize tK s 50=S at hss ⊢;obtain⟨P,rfl⟩:∃P:List UInt8,S=⟨P.toArray⟩:=⟨S.data.toList,by simp⟩;have hPl:P.length<=50:=by simpa using(show P.toArray.size<=50 from hss)
 clear hcl;go_wp2;refine hK.out _ _ ?_;clear hK;refine ac λK hK=> ?_
 revert H;refine ey λw4 H=> ?_
 have hcl:=KI t 60 w4;go_wp2;refine hcl.mono ?_;rintro e' w5 ⟨rfl,rfl⟩;have hts:=FJ t 60;generalize tK t 60=T at hts ⊢;clear hcl;go_wp2;refine hK.out _ _ ?_;clear hK;refine ac λK hK=> ?_
 revert H;refine ey λw6 H=> ?_
 go_wp2;refine hK.out _ _ ?_;clear hK;refine ac λK hK=> ?_
 have key:∀(n:Nat) a u,QuA (SJ ⟨P.toArray⟩) (SJ T) (Su Sy n) a->n<=9223372036854775807->mx (λu=>Old w u/\Under h0 u/\fx u/\gI u) u->K a u:=by
  clear H hc;intro n a u' hF hn H;refine hK.out _ _ ?_;clear hK;obtain⟨u,rfl⟩:=hF.out;clear hF;refine ac λK hK=> ?_
  revert H;refine ey λw7 H=> ?_
  have hT1:T.size+1<=61:=by omega
  go_wp2;refine hK.out _ _ ?_;clear hK;obtain⟨q,hq⟩:∃q:Nat,(n:Int)% ((T.size:Int)+1)=(q:Int):=⟨n% (T.size+1),by push_cast;rfl⟩;have hqT:q<=T.size:=by have:=Int.emod_lt_of_pos (n:Int) (show(0:Int)<(T.size:Int)+1 by omega);omega
  rw[hq];clear hq hn;refine ac λK hK=> ?_
  revert H;refine ey λw8 H=> ?_
  go_wp2;go_quiet (fail)
  replace H:=H.old (jw.old ⟨rfl,rfl,rfl⟩:Old w8 (w8.drewN nq));generalize w8.drewN nq=w9 at *;go_wp2;refine hK.out _ _ ?_;clear hK;have hAz:=aaC (P:=P) hqT;have hAo:=ab5 (P:=P) hqT;generalize T.extract 0 q++⟨P.toArray⟩++T.extract q T.size=A at hAz hAo ⊢;have hA:A.size<=110:=by omega
  replace hAo:=AI hAo;refine ac λK hK=> ?_
  revert H;refine ey λw10 H=> ?_
  have hcl:Calls PH 17 #[SJ ⟨P.toArray⟩] w10 λe w'=>e=SF (SJ ⟨(aae P).toArray⟩)/\Old w10 w':=aaO ⟨P.toArray⟩ w10 (by show P.toArray.size<=300;simp;omega)
  go_wp2;refine hcl.mono ?_;rintro e' w11 ⟨rfl,hO⟩;replace H:=H.old hO;clear hcl hO;go_wp2;refine hK.out _ _ ?_;clear hK;refine ac (λK hK=> ?_);refine ao ?_;show aV _ _ _ (SH 0 (1+8)) _ _;revert H;refine cx 0 1 8 (λN hN w12 H=> ?_) (by decide);simp only[zq1];go_wp2;refine hN.out _ _ ?_;clear hN N;refine bF (f:=18) (i:=1) (rest:=SH 2 (7+0)) rfl rfl (λu=>by simp[go_sem]) (bP (by decide)) (wl (s:=⟨(aae P).toArray⟩) (fl:=0) (by decide) H.out.2.1 H.out.2.2.1 H.out.2.2.2) (λv w13 E=> ?_) λch w13 E=>by obtain⟨_,h,_⟩:=E;cases h
  obtain⟨v0,e,hO',hs⟩:=E;obtain rfl:=(Ending.returned.inj e).symm;clear e;have hl12:=H.out.1.size;replace H:mx (Old w) w13:=(H.old hO').out.1;clear hO';simp only[T4,T0,SZ];have hql:=D5 P;have p:gK ⟨(aae P).toArray⟩ 0=xP false false (aae P):=by
   unfold gK;rw[if_neg (by show¬ 120<(aae P).toArray.size;simp;omega)];rfl
  have hs:=hs.at;rw[p]at hs;clear p hql;by_cases hP:P=[]
  .subst hP;obtain rfl:v0=T9 #[AS none,Su Sy 9,Su Sy 0]:=by
    have e9:xP false false (aae [])=some (.err 9 0):=by rfl
    rw[e9]at hs;rcases hs with⟨k,a_,h1,m,_⟩|⟨_,_,_,_,_,h,_⟩
    .cases m;exact h1
    .cases h
   clear hs;simp only[Sx,zq0];revert H;refine cx 2 7 0 (λN hN w14 H=> ?_) (by decide);simp only[zq1];go_wp2;refine hN.out _ _ (az (hK.out _ _ ?_));clear hN N hK K;refine ac λK hK=> ?_
   revert H;refine ey λw15 H=> ?_
   go_wp2;go_ret;exact⟨rfl,H.out⟩
  .obtain⟨x,rfl,hr⟩:∃x,v0=T9 #[vp x,Su Sy 0,Su Sy 0]/\da w13 w12.heap.size w13.heap.size x 0 0 (aaj P):=by
    have e9:=O8 hP (by omega);rw[e9]at hs;rcases hs with⟨k,a_,h1,m,_⟩|⟨x,c,O,G,h1,m,h2,h3⟩
    .cases m
    .cases m;obtain rfl:G=0:=by dsimp only at h2;omega
     exact⟨x,h1,h3⟩
   clear hs;obtain⟨_,_,hw⟩:=hr.tree.w;obtain⟨i,hik,hoc,hno,hmf⟩:=O1 (s:=P) (f:=0) (e:=0) hw (by omega) hAo.out;clear hw;have hx:=hr.lw;have hWx:w.heap.size<=x:=by omega
   replace H:=H.also (λu=>da u w12.heap.size w13.heap.size x 0 0 (aaj P)) hr;clear hr hx hl12;have pe:P.isEmpty=false:=by cases P<;>simp_all
   replace hmf:=AI hmf;replace hno:=AI hno;replace hoc:=AI hoc;replace hWx:=AI hWx;simp only[Sx,zq0];revert H;refine cx 2 7 0 (λN hN w14 H=> ?_) (by decide);simp only[zq1];go_wp2;refine hN.out _ _ (az (hK.out _ _ ?_));clear hN N hK K;refine ac (λK hK=> ?_);revert H;refine ey λw15 H=> ?_
   go_wp2;refine hK.out _ _ ?_;clear hK K;refine ac (λK hK=> ?_);revert H;refine ey λw16 H=> ?_
   go_wp2;refine hK.out _ _ ?_;clear hK K;refine ac (λK hK=> ?_);refine ao ?_;show aV _ _ _ (SH 0 (2+6)) _ _;revert H;refine cx 0 2 6 (λN hN w17 H=> ?_) (by decide);simp only[zq1];go_wp2;refine hN.out _ _ ?_;clear hN N;refine bF (f:=14) (i:=2) (rest:=SH 3 (5+0)) rfl rfl (λu=>by simp[go_sem]) (bP (by decide)) (H.out.2.find (s:=A) (ev:=0) (n:=1) (by omega) (by decide) (by decide) (by decide) (by decide)) (λv w18 k=> ?_) λch w3 k=>by obtain⟨_,h,_⟩:=k;cases h
   obtain⟨v1,e,B,k,m⟩:=k;obtain rfl:=(Ending.returned.inj e).symm;clear e;rw[hmf.out]at B;obtain⟨g,_,rfl,B⟩:=B;rw[show jV 1 [((i:Int),((i+P.length:Nat):Int))]=[((i:Int),((i+P.length:Nat):Int))]from rfl]at B;replace H:mx (λu=>Old w u/\a7 u g 35 #[Su Sy i,Su Sy (i+P.length:Nat)]) w18:=⟨H.out.1.far m hWx.out,B⟩;clear k m B;simp only[T4,T0,SZ];simp only[Sx,zq0];revert H;refine cx 3 5 0 (λN hN w19 H=> ?_) (by decide);simp only[zq1];go_wp2;refine hN.out _ _ (az (hK.out _ _ ?_));clear hN N hK K;refine ac λK hK=> ?_
   revert H;refine ey λw20 H=> ?_
   have c0:=H.out.2.cell 0;have c1:=H.out.2.cell 1;go_wp2;go_quiet (fail)
   replace H:=H.old (jw.old ⟨rfl,rfl,rfl⟩:Old w20 (w20.drewN nq));generalize w20.drewN nq=w21 at *;go_wp2;refine hK.out _ _ ?_;clear hK c0 c1;have hiA:i+P.length<=A.size:=hoc.out.1;refine ac λK hK=> ?_
   revert H;refine ey λw22 H=> ?_
   go_wp2;go_loopw [15] (λy wr=>∃k:Nat,k<=i/\y=Su Sy k/\mx (λu=>Old w u/\a7 u g 35 #[Su Sy i,Su Sy (i+P.length:Nat)]) wr) λy _=>i- (intOf y).toNat
   case atStart=>exact⟨0,Ta _,rfl,H⟩
   case round=>
    obtain⟨k,hk,rfl,H⟩:=hrel;have c0:=H.out.2.cell 0;by_cases hlt:k<i
    .have hd:decide ((k:Int)<(i:Int))=true:=by simp;omega
     have hne:((A.extract k (k+P.length)).toList==P)=false:=by
      rw[U4];exactλe=>hno.out k hlt ((aaH (by omega)).1 e)
     go_wp2;exact⟨⟨k+1,hlt,by push_cast;rfl,H⟩,by simp[intOf];omega⟩
    .obtain rfl:k=i:=by omega
     go_wp2;refine hK.out _ _ ?_;revert H;refine ey λw23 H=> ?_
     have c0:=H.out.2.cell 0;have c1:=H.out.2.cell 1;have heq:((A.extract k (k+P.length)).toList==P)=true:=(aaH (by omega)).2 hoc.out;have hkq:decide ((k:Int)<=(q:Int))=true:=by simp;omega
     go_wp2;go_quiet (fail)
     replace H:=H.old (jw.old ⟨rfl,rfl,rfl⟩:Old w23 (w23.drewN nq));generalize w23.drewN nq=w24 at *;go_wp2;go_ret;exact⟨rfl,H.out.1⟩
 revert H;refine ey λw7 H=> ?_
 by_cases h:c<0
 .have hd:decide (c<0)=true:=by simp[h]
  obtain⟨n,hn⟩:∃n:Nat,-(c+1)=(n:Int):=⟨(-(c+1)).toNat,by omega⟩;have hb:c+1<=0:=by omega
  go_wp2;exact key n _ _ ⟨rfl,rfl,rfl,rfl,rfl⟩ (by omega) H
 .have hd:decide (c<0)=false:=by simp;omega
  obtain⟨n,rfl⟩:∃n:Nat,c=(n:Int):=⟨c.toNat,by omega⟩;go_wp2;exact key n _ _ ⟨rfl,rfl,rfl,rfl,rfl⟩ (by omega) H
end
section
open Go.ChangeShapes Go.WideShapes Go.RowKit Go.Conc
attribute [local instance] fI
def A1{W:SN}(hS:W.ShapedOpen Tryz.prog)(hL:laidMetH Tryz.prog Rows.quotedRow.laid W){x0 x1:ByteArray}{x2:Int}(hx2: -9223372036854775808<=x2/\x2<=9223372036854775807){Post:Tn->SN->Prop}(hP:∀w2,Old W w2->Post (SU true) w2):
 ∃M last o w' t',runNT Tryz.prog (M+1) (solo (G (Frame.enter Tryz.prog 4 #[SJ x0,SJ x1,Su Sy x2] .normal) []) W) #[]=(.ended o w',t')/\runN Tryz.prog M (solo (G (Frame.enter Tryz.prog 4 #[SJ x0,SJ x1,Su Sy x2] .normal) []) W)= .next last/\step Tryz.prog last= .ended o w'/\Conc.Good Tryz.prog Post last o w' t':=by
 obtain⟨hG,hE⟩:=K3 hS hL;exact EV hS Tryz.func4 (by kernel_rfl) rfl (by kernel_rfl) (Jx (s:=x0) (t:=x1) (c:=x2) hx2 (Cj W) (hG.strike (vh hS)) (hE.strike (vh hS _ (Ta _)))) hP
def law_lifted(os:Os)(started:os.Started)(H:Type)(enc:TypeId×Tn->H)(F:Stop.Interp):
 ReturnsInLeavingWide {calm:=true} Tryz.checked os 4 .any (λw args=>(Rows.quotedSpec.pre enc Tryz.prog Tryz.f4 [] false w args/\laidMetH Tryz.prog Rows.quotedRow.laid w)/\sizedMet enc Tryz.prog Tryz.f4 (TC Rows.quotedSpec) false w args)
  ((TC Rows.quotedSpec).postWith enc Tryz.prog Tryz.f4 F (outsideKept [.timePasses]) false true false):=by
 refine returnsInLeavingWide_of_good (C:=Tryz.checked) OT started
  (zQ (enc:=enc) (C:=Tryz.checked) (os:=os) (X:=λw _=>laidMetH Tryz.prog Rows.quotedRow.laid w) (laidWorld os) #[SJ ⟨#[]⟩,SJ ⟨#[]⟩,Su Sy 0] 8 rfl (by kernel_rfl) (by kernel_rfl) (by kernel_rfl) (by kernel_rfl) (by kernel_rfl) (laidMetH_of_parts (laidMet_of_run3 8 (by kernel_rfl) (by kernel_rfl) (by kernel_rfl)) (by kernel_rfl))) ?_
 intro w tape i _ hS _ hok hpre hholds;obtain⟨_,_,_,fn',hfn',_,_,_,_,hval⟩:=hok;have e:fn'=Tryz.f4:=Option.some.inj (hfn'.symm.trans Tryz.func4);subst e;obtain⟨⟨⟨ds,gs,before,hw,hc⟩,hL⟩,hz⟩:=hpre;have hW:=DataW.Whole.of_heap (w':=w.forCall tape i) (by rfl) hw;have hL':laidMetH Tryz.prog Rows.quotedRow.laid (w.forCall tape i):=hL.of_heap (by rfl);have hW':=hW;obtain⟨p,q,hA0,hV0,rfl,hfz,hnd⟩:=hW;have hA:DataW.TrodAll enc Tryz.prog (w.forCall tape i) 0 (λ_=>true) true Tryz.f4.params.toList i.args.toList ds p:=hA0;rw[Tryz.params4]at hA hval;obtain⟨v0,v1,v2,d0,d1,d2,p0,p1,p2,hargs,rfl,rfl,h0,h1,h2⟩:=trodAll_three hA;rw[hargs]at hval hW' ⊢;obtain⟨x0,rfl,rfl,rfl,t0⟩:=ChangeMaps.open_string Tryz.underlying9 (hval 0 9 v0 rfl rfl) h0;obtain⟨x1,rfl,rfl,rfl,t1⟩:=ChangeMaps.open_string Tryz.underlying9 (hval 1 9 v1 rfl rfl) h1;obtain⟨x2,rfl,rfl,rfl,t2⟩:=ChangeShapes.open_int Tryz.underlying3 (hval 2 3 v2 rfl rfl) h2;have hx2: -9223372036854775808<=x2/\x2<=9223372036854775807:=by simpa[Lit.wf,IntKind.min,IntKind.max,IntKind.signed,IntKind.bits]using t2
 have hV:DataW.TrodVars enc Tryz.prog (w.forCall tape i) (λ_=>true) [] gs q:=hV0;obtain⟨rfl,rfl⟩:=trodVars_none hV;obtain⟨M,last,o,w',t',e1,e2,e3,e4⟩:=A1 hS hL' hx2 (x0:=x0) (x1:=x1) (x2:=x2) (Post:=λv W2=>(TC Rows.quotedSpec).postWith enc Tryz.prog Tryz.f4 F (outsideKept [.timePasses]) false true false (w.forCall tape i) #[SJ x0,SJ x1,Su Sy x2] v W2) λw2 hO=>by
  refine postWith_of_post ⟨_,_,_,[],[],[],hW',?_,?_,?_,⟨rfl,hO.out,λk hk=> ?_⟩,λh=>by cases h⟩ (by rw[hO.os];exact⟨0,by simp⟩)
  .exact trodAll_mk1 (shut_bool Tryz.underlying4 true)
  .exact trodAll_mk3 (ChangeMaps.shut_string Tryz.underlying9 t0) (ChangeMaps.shut_string Tryz.underlying9 t1) (ChangeShapes.shut_int Tryz.underlying3 t2)
  .rfl
  .dsimp only;rw[hO.old k hk];split <;>simp_all
 exact⟨M,last,o,w',t',e1,e2,e3,e4.mono λv hp=>postWith_blind hp⟩
def aaG:Rows.QuotedSaid:=
 OpenClaim.holds_of_wide_leaving_time 4 Tryz.f4 rfl rfl rfl rfl rfl rfl rfl ⟨rfl,rfl,rfl,rfl,rfl⟩ rfl rfl rfl rfl rfl (by kernel_rfl) Tryz.func4 (by kernel_rfl)
  (of_decide_eq_true (by kernel_rfl)) (by unfold Func.isWrapper;rw[if_neg (of_decide_eq_false (by kernel_rfl))];exact⟨rfl,rfl⟩)
  (λos started H enc _ F=>law_lifted os started H enc F)
def y0:∀f fn,Tryz.pinned.checked.prog.funcNamed Rows.quotedRow.func=some f->Tryz.pinned.checked.prog.funcs[f]?=some fn->true=Tryz.pinned.checked.prog.looks []/\∀(j:Nat) t,fn.params[j]?=some t->Tryz.pinned.checked.prog.wantsStandIn t=false:=λf fn hf hfn=>by
 obtain rfl:f=4:=Option.some.inj ((show Tryz.prog.funcNamed Rows.quotedRow.func=some 4 by kernel_rfl).symm.trans hf)|>.symm
 obtain rfl:fn=Tryz.f4:=(Option.some.inj (Tryz.func4.symm.trans hfn)).symm;refine⟨by kernel_rfl,λj t ht=> ?_⟩;rw[Tryz.params4]at ht;match j,ht with
 |0,ht=>
  obtain rfl:9=t:=by simpa using ht
  exact(show Tryz.prog.wantsStandIn 9=false by kernel_rfl)
 |1,ht=>
  obtain rfl:9=t:=by simpa using ht
  exact(show Tryz.prog.wantsStandIn 9=false by kernel_rfl)
 |2,ht=>
  obtain rfl:3=t:=by simpa using ht
  exact(show Tryz.prog.wantsStandIn 3=false by kernel_rfl)
 |j+3,ht=>simp at ht
theorem quoted_holds:Rows.QuotedCardSaid:=
 ⟨Claim7.tied_new_at .later [.handle,.data] true (Claim7.new_of_sixth aaG Rows.quotedCard.stood.harness true rfl ⟨rfl,rfl⟩ (by kernel_rfl) (by kernel_rfl) y0) (by kernel_rfl),λD hD=>(by cases hD),quoted_row_tie,λh=>(by cases h),by kernel_rfl⟩
end
end Go.Proofs.YtkgohmcmmcpigabGreatDoor
