/- Branched holds of every two patterns and every text; no condition. -/
import Derived.Carry
import Derived.Laws.CopyRow
import Derived.Test.YtkgohmcmmcpigaaGreatDoorW08
set_option linter.all false
set_option maxHeartbeats 8000000
set_option maxRecDepth 100000
namespace Go.Proofs.YtkgohmcmmcpigaaGreatDoor
open Go
open Go.Lib renaming hid->AI,indexByte->Tf,hasPrefix->Tm,index->Tz,cut->TK
open _root_.List renaming mem_singleton->Su,not_mem_nil->Sw,replicate->SC,range'->SD,cons_append->SF,length_cons->SH,getElem_cons_zero->SI,getElem_cons_succ->SJ,getElem_toArray->SM,nil_append->SP,append_toArray->SR,size_toArray->SV,push_toArray->SW,length_nil->SZ,mem_cons->T5,take_succ_cons->Tg,drop_succ_cons->Th,mem_cons_of_mem->Tr,mem_cons_self->Tt,range->Tv,getElem?_cons_zero->Tx,getElem?_cons_succ->Ty,drop_eq_nil_of_le->TC,getElem?_toArray->TF,append_assoc->TL,append_nil->TU
open Go.Act renaming put->Sx
open _root_.Nat renaming le_refl->Sy,lt_of_lt_of_le->T6,le_trans->T7,reduceSub->T8,reduceAdd->T9,zero_le->Ta,testBit_or->TD,min->TE,lt_irrefl->TG,lt_succ_self->TP
open _root_.Or renaming inl->SG,inr->Te
open _root_.Array renaming replicate_zero->SN,replicate_succ->SO,getElem?_eq_some_iff->Td,map_append->TQ
open Go renaming World->SQ,Value->Tb
open _root_.Int renaming le_refl->SX
open Go.Exit renaming inBlock->Tc
open _root_.Option renaming map_eq_some_iff->Tj
open Go.ChangeMaps renaming shut_string->Tk,open_string->Tl
open _root_.Bool renaming and_eq_true->Tp,or_eq_true->Ts
open Go.Value renaming int->Sv,bool->SK,pointer->AS,slice->SE,string->SU,tuple->T0,iface->T4
open Go.OpenSpec renaming ofChange->Tu
open Go.World renaming putObj_heap_other->Tw
open Go.Builtin renaming copy_->TH
open Go.Region renaming ready->TI,wanted->U2
open _root_.Decidable renaming em->TJ
open _root_.UInt8 renaming toNat_inj->TR
open Go.Oper renaming semAt_some->TS,wp->TW
open Go.NoPanic renaming normal->TX
open Go.IntKind renaming i64->Sz,u64->SS,u32->Tn,u8->Tq
open Go.Ending renaming returned->SL
open Go.Obj renaming cells->SY
open Go.Result renaming ok->Ti
section
open Go.RowKit
attribute [local go_sem] TS
def FK{P c Q n}{S R:SQ->Prop}{g b a w}(i d v f args){m}(t:c[i]?=some m)(u:m.dst=some d)(p:U2 m (yielded c a.tmps)=true)(q:TI n c b=[i])
 (l:(execOp a.eval m).run P w=Ti (.enter f args) w) (s:Calls P f args w λe k=>e=SL v/\R k)
 (h:∀k,R k->S k/\wpAnyH P n c Q S g (b.setIfInBounds i true) (a.put (some d) v) k):wpAnyH P n c Q S (g+1) b a w:=
 wpAnyH_all q (by simp) λj r=>by
  obtain rfl:=Su.1 r;simp[wpOp,t,if_pos p];refine .inl ?_;simp[TW,l];refine Calls.mono s ?_;grind
def Jt{M k l m d i j}(hs:M.s.size<=300)(b:i<=M.s.size)(a:(dI M k l m d i).testBit j=true)(e:i<j\/(d:Int)<l):
 ∃c,df (λc=>(decide (i<c)||decide ((d:Int)<l))&& (dI M k l m (bS l m d) c).testBit j) (bv M k i) 320=some c:=by
 cases h:df (λc=>(decide (i<c)||decide (d<l))&& (dI M k l m (bS l m d) c).testBit j) (bv M k i) 320 with
 |some c=>exact⟨c,rfl⟩
 |none=>
  rw[oX]at h;rw[Bd b hs,TD,Ts]at a;rcases a with a|a
  split at a;rw[tN,decide_eq_true_eq]at a;omega;grind
  grind [pd]
def Gs(A n)(h:A.size=n):A=((Tv n).map λi=>A.getD i undef).toArray:=by
 subst h;refine Array.ext (by simp) λi a b=> ?_
 simp_all
def OU(w t q m i j):
 Caps (((((w.alloc (SY #[AS (some ⟨q,0,none⟩)] t)).alloc (SY #[AS (some ⟨m,0,none⟩)] 174)).alloc (SY #[Sv Sz i] 3)).alloc (SY #[Sv Sz j] 3)).alloc (SY #[Sv Sz 0] 3)) w.heap.size (w.heap.size+1+1) (w.heap.size+1) (w.heap.size+1+1+1) t q m i j/\
 a7 (((((w.alloc (SY #[AS (some ⟨q,0,none⟩)] t)).alloc (SY #[AS (some ⟨m,0,none⟩)] 174)).alloc (SY #[Sv Sz i] 3)).alloc (SY #[Sv Sz j] 3)).alloc (SY #[Sv Sz 0] 3)) (w.heap.size+1+1+1+1) 3 #[Sv Sz (0:Nat)]/\
 Kq w.heap.size [] w (((((w.alloc (SY #[AS (some ⟨q,0,none⟩)] t)).alloc (SY #[AS (some ⟨m,0,none⟩)] 174)).alloc (SY #[Sv Sz i] 3)).alloc (SY #[Sv Sz j] 3)).alloc (SY #[Sv Sz 0] 3)):=by
 have⟨a,e⟩:=Ll w t q m i j;have b:∀(W:SQ)(t c)(n:Nat),W.heap.size=n->a7 (W.alloc (SY c t)) n t c:=λW t c n h=>h▸a7.new W t c
 exact⟨a.kq ((Kq.refl _).alloc (Sy _) _) λg d=>⟨a.lt g d,Sw⟩,b _ _ _ _ (by simp),e.alloc (Sy _) _⟩
def CU{E}(hE:fu E){g G}(hG:lL E g G){id l m k}(hk:gy E k)(hwk:WalkC E g G k)(hn:Nd.rep id k l m∈subs E.R):WalkC E g G (.rep id k l m):=by
 intro w q i j L hM hR hi N hL hg;have hj:=(bZ E.M _ i hi j N).2;rw[yK]at N;rw[de];show Calls PM 242 ..;have hl:=hE.rep id k l m hn;have hrest:=λ(d i:Nat)(h:d<1900000)=>uo hE hk hn ((l-d).toNat+(E.M.s.size-i)+1) d i (TP _)
 have hsz:=hE.size;obtain⟨v,hB,hSq,hRk⟩:∃v,a7 w q 288 #[Sv Sz id,v,Sv Sz l,Sv Sz m]/\E.S q/\Repr w E.S v k:=by
  cases hR with
  |rep a b c=>exact⟨_,b,a,c⟩
 obtain⟨p,rfl⟩:=ed hRk;obtain⟨hc,b8,k1⟩:=OU w 286 q E.m i j;have W0:WS E g (.rep id k l m) q w _ L i j:=⟨(WB.start hE hM hR hg).own (X:=[]) (Sy _) (λ_ h=>nomatch h) k1,hc⟩;replace W0:=AI W0;replace b8:=AI b8;replace N:=AI N;replace hrest:=AI hrest;have hB':=AI hB;have hRk':=AI hRk;have A:=fN k ⟨p,0,none⟩;have h2:=gu k ⟨p,0,none⟩;have h3:=i9 k;have h4:=jD k ⟨p,0,none⟩;have h5:=kC k ⟨p,0,none⟩;have h6:=walk_call k;refine callsIn_wide (n:=4).1 (callsIn_of_wp_marks (PM.func Tryz.func242 (by decide)) rfl trivial ?_ rfl);simp only[Tryz.ntmps242,SV,SH,SZ,T9,T8,SO,SN,SW,SR,SP,SF];refine wpIn_wide.2 ?_;go_wp2;generalize World.alloc .. =W1 at W0 b8 ⊢;refine wp_loop_ghost_k (λn a W=>∃(d z D:Nat)(L':Sp),(l-d).toNat+(E.M.s.size-z)<n/\d+n<=1500000/\(a.tmps.size=65/\a.tmps.getD 0 undef=AS (some ⟨q,0,none⟩)/\a.tmps.getD 1 undef=AS (some ⟨E.m,0,none⟩)/\a.tmps.getD 2 undef=Sv Sz i/\a.tmps.getD 3 undef=Sv Sz j/\a.tmps.getD 4 undef=AS (some ⟨w.heap.size,0,none⟩)/\a.tmps.getD 5 undef=AS (some ⟨w.heap.size+1,0,none⟩)/\a.tmps.getD 6 undef=AS (some ⟨w.heap.size+1+1,0,none⟩)/\a.tmps.getD 7 undef=AS (some ⟨w.heap.size+1+1+1,0,none⟩)/\a.tmps.getD 8 undef=AS (some ⟨D,0,none⟩))/\WS E g (.rep id k l m) q w W L' z j/\w.heap.size+1+1+1<D/\a7 W D 3 #[Sv Sz d]/\Marks w.heap.size a.defers W/\(dI E.M k l m d z).testBit j=true/\z<=E.M.s.size/\L'.length=G+1/\dH (jJ E.M k l m (de E.M k) j n d z) L'=dH (jJ E.M k l m (de E.M k) j (l.toNat+400) 0 i) L) (l.toNat+400) ?_ ?_
 .exact⟨0,i,_,L,by simp;omega,by omega,⟨rfl,rfl,rfl,rfl,rfl,rfl,rfl,rfl,rfl,rfl⟩,W0.out,by omega,b8.out,trivial,N.out,hi,hL,rfl⟩
 rintro n ⟨tm,ds⟩ W ⟨d,z,D,L',hlt,hdn,⟨hs65,t0,t1,t2,t3,t4,t5,t6,t7,t8⟩,hWS,hD,hB8,hMk,hbit,hi',hL',hfin⟩ O4 K hJ hK;have⟨X,hX⟩:∃X:Nat->Tb,(λi=>tm.getD i undef)=X:=⟨_,rfl⟩;have hX':∀i,tm.getD i undef=X i:=λi=>congrFun hX i
 have htm:tm=#[X 0,X 1,X 2,X 3,X 4,X 5,X 6,X 7,X 8,X 9,X 10,X 11,X 12,X 13,X 14,X 15,X 16,X 17,X 18,X 19,X 20,X 21,X 22,X 23,X 24,X 25,X 26,X 27,X 28,X 29,X 30,X 31,X 32,X 33,X 34,X 35,X 36,X 37,X 38,X 39,X 40,X 41,X 42,X 43,X 44,X 45,X 46,X 47,X 48,X 49,X 50,X 51,X 52,X 53,X 54,X 55,X 56,X 57,X 58,X 59,X 60,X 61,X 62,X 63,X 64]:=by
  have:=Gs tm 65 hs65;rw[hX]at this;exact this
 rw[hX']at t0 t1 t2 t3 t4 t5 t6 t7 t8;rw[t0,t1,t2,t3,t4,t5,t6,t7,t8]at htm;rw[htm];obtain⟨f,rfl⟩:∃f,n=f+1:=⟨n-1,by omega⟩;have hWS0:=AI hWS;have hMk0:=AI hMk;have hB0:=AI hB8;have hDlt:=hB8.lt;have v2:=hWS.caps.b2.cell 0;have v4:=hWS.caps.b4.cell 0;have v1:=hWS.caps.b1.cell 0;have v3:=hWS.caps.b3.cell 0;have v8:=hB8.cell 0;have hBq:=(hWS.wb.old hE hG q hSq).trans hB'.out;have v9:W.cell? ⟨q,2,none⟩=some (Sv Sz l):=a7.cell hBq 2;have v7:W.cell? ⟨q,1,none⟩=some (T4 (bn k) (AS (some ⟨p,0,none⟩))):=a7.cell hBq 1;replace hfin:=AI hfin;replace hbit:=AI hbit;replace hlt:=AI hlt;by_cases F:z<j\/(d:Int)<l
 .have⟨cc,hcc⟩:=Jt hE.size hi' hbit.out F;have hff:=hfin.out;rw[jJ,if_pos F,hcc,yG]at hff;obtain⟨qf,hqf⟩:∃qf:Nat->Bool,(λc=>(decide (z<c)||decide ((d:Int)<l))&& (dI E.M k l m (bS l m d) c).testBit j)=qf:=⟨_,rfl⟩;rw[hqf]at hcc;replace hqf:=AI hqf;replace hff:=AI hff;replace hcc:=AI hcc;rcases(TJ (z<j)).imp AI AI with hij|hij
  case' inl=>
   have e1:decide (z<j)=true:=decide_eq_true hij.out
  case' inr=>
   have e1:decide (z<j)=false:=decide_eq_false hij.out;have e2:decide ((d:Int)<l)=true:=decide_eq_true (F.resolve_left hij.out)
  all_goals
   replace F:=AI F;go_wp2;go_quiet (fail)
   have H:Kq W.heap.size [] W (W.drewN nq):=(Kq.refl W).drewN nq;have hW3:=(hWS0.out.boxes (w.heap.size+1+1+1) (by simp)).1;have S1:=hWS0.out.own (X:=[]) hW3 (λ_ h=>nomatch h) H;have M1:=hMk0.out.stay hMk0.out (X:=[]) (λ_ h=>nomatch h) H;have B1:a7 (W.drewN nq) D 3 #[Sv Sz d]:=hB0.out;replace v1:=(show(W.drewN nq).cell? _=_ from v1);replace v2:=(show(W.drewN nq).cell? _=_ from v2);replace v3:=(show(W.drewN nq).cell? _=_ from v3);replace v7:=(show(W.drewN nq).cell? _=_ from v7);have hDlt1:D<(W.drewN nq).heap.size:=hDlt;have z3:w.heap.size+1+1+1<(W.drewN nq).heap.size:=hW3;generalize W.drewN nq=W1 at *;have H:Kq W1.heap.size [] W1 W1.drew:=(Kq.refl W1).drew;replace S1:=S1.own (X:=[]) z3 (λ_ h=>nomatch h) H;replace M1:=M1.stay M1 (X:=[]) (λ_ h=>nomatch h) H;replace B1:a7 W1.drew D 3 #[Sv Sz d]:=B1;have hRk1:=hRk'.out.keep (w':=W1.drew) λb N _=>S1.wb.old hE hG b N
   have hC:=AI (hk W1.drew p z S1.wb.mem hRk1 hi');replace S1:=AI S1;replace M1:=AI M1;replace B1:=AI B1;replace hRk1:=AI hRk1;go_wp2;go_still_tail 6,(by kernel_rfl)
   change wpList _ _ _ _ _ W1.drew;go_wp2;refine hC.out.mono ?_;rintro e w2 ⟨rfl,hM2,k2⟩;have S2:=AI (S1.out.asked hE hG hM2 k2);have hr:=S1.out.wb.new.2.1;have B2:=AI (B1.out.kq k2 B1.out.lt λC=>by have:=Su.1 C;omega);have M2:=AI (M1.out.stay M1.out (λx C=>by rw[Su.1 C];exact S1.out.wb.mem.fC) k2);have hDl2:=B2.out.lt;try clear e2
   go_wp2;have hw:=AI (bZ E.M k z hi');have⟨P,hP⟩:∃P,bv E.M k z=P:=⟨_,rfl⟩;rw[hP]at hw;have T:=hcc.out;rw[hP]at T;replace T:=AI T;replace hP:=AI hP;rw[hP.out];have hps:=AI (j4.1 T.out);refine wpIn_wide (n:=4).1 (qe (X:=[E.r,g,w.heap.size+1+1]) (t:=32) (p:=P) (by decide) rfl ?_
    (λc y=>df qf P c=some cc/\WS E g (.rep id k l m) q w y L' z j/\a7 y D 3 #[Sv Sz d]/\Marks w.heap.size ds y)
    (λx c y=>x= .exit 2/\c=cc/\WS E g (.rep id k l m) q w y (dH (de E.M k z cc) L') cc j/\a7 y D 3 #[Sv Sz d]/\Marks w.heap.size ds y) ?_ ?_ ?_ ?_ ?_ ?_ ?_ ?_ ?_)
   case refine_7=>
    intro ll c y K hK;gi_wp2
    exact hK
   case refine_1=>
    intro x C;have A:=S2.out.wb.new;have h2:=S2.out.wb.kq.kp.1;simp only[T5,Sw,or_false]at C;omega
   case refine_2=>
    rintro c y W'' ⟨A,h2,h3,h5⟩ M;exact⟨A,h2.own (X:=[]) (by omega) (λ_ h=>nomatch h) M,h3.kq M (by omega) Sw,h5.stay M2.out (X:=[]) (λ_ h=>nomatch h) M⟩
   case refine_3=>
    rintro x c y W'' ⟨A,h2,h3,h4,h5⟩ M;exact⟨A,h2,h3.own (X:=[]) (by omega) (λ_ h=>nomatch h) M,h4.kq M (by omega) Sw,h5.stay M2.out (X:=[]) (λ_ h=>nomatch h) M⟩
   case refine_4=>
    rintro c y ⟨A,h2⟩ N;rw[df,if_neg (by rw[N];simp)]at A;exact⟨A,h2⟩
   case refine_5=>exact⟨T.out,S2.out,B2.out,M2.out⟩
   case refine_9=>
    rintro y ⟨A,_⟩ _;cases A
   case refine_10=>
    rintro _ c y hk1 N ⟨rfl,rfl,h3,hb8,h4⟩ hDm;have hcs:=(hw.out c N);have hstep:z<c\/(d:Int)<l:=by
     have:=hps.out.2.2.1;rw[<- congrFun hqf.out c,Tp,Ts,decide_eq_true_eq,decide_eq_true_eq]at this;exact this.1
    have I:=hps.out.2.2.1;rw[<- congrFun hqf.out c,Tp]at I;replace I:=AI I.2;replace hstep:=AI hstep;have kA:Kq y.heap.size [] y (y.alloc (SY #[Sv Sz d] 3)):=(Kq.refl y).alloc (Sy _) _;have kB:Kq y.heap.size [] y (y.alloc (SY #[Sv Sz (bS l m d:Nat)] 3)):=(Kq.refl y).alloc (Sy _) _;have nB:a7 (y.alloc (SY #[Sv Sz d] 3)) y.heap.size 3 #[Sv Sz d]:=a7.new y ..;have nB2:a7 (y.alloc (SY #[Sv Sz (bS l m d:Nat)] 3)) y.heap.size 3 #[Sv Sz (bS l m d:Nat)]:=a7.new y ..;have hDl:=hb8.lt;have S3:=h3.own (X:=[]) (by omega) (λ_ h=>nomatch h) kA;have S4:=h3.own (X:=[]) (by omega) (λ_ h=>nomatch h) kB;have hBq2:=(S3.wb.old hE hG q hSq).trans hB'.out;have hA:=AI (o9 hBq2 (by omega:d<2000000));have u1:=S3.caps.b1.cell 0;have u8:=nB.cell 0;have u9:=hb8.cell 0;have uf:=nB.frozen;have M3:=h4.stay h4 (X:=[]) (λ_ h=>nomatch h) kB;have hDm2:=(kB.kp.2 _ (Td.1 hDm).1 Sw).trans hDm;replace S4:=AI S4;replace M3:=AI M3;replace nB2:=AI nB2;replace hDm2:=AI hDm2;refine wpIn_wide.2 ?_;go_wp2;refine hA.out.mono ?_;rintro e u ⟨rfl,hu⟩;subst u;go_wp2;have hl0:=hlt.out;have hs0:=hstep.out;refine Handed.intro f (TP f) (hJ _ _ _ ⟨bS l m d,c,y.heap.size,dH (de E.M k z c) L',by unfold bS;split <;>omega,by unfold bS;split <;>omega,⟨rfl,rfl,rfl,rfl,rfl,rfl,rfl,rfl,rfl,rfl⟩,S4.out,by omega,nB2.out,⟨⟨w2.heap.size,rfl,by omega,hDm2.out,λd' hd' e=> ?_⟩,M3.out⟩,I.out,hcs.2,by rw[oZ];exact hL',hff.out⟩);rw[e]at hd';exact TG _ (M2.out.lt _ hd')
   case refine_8=>
    rintro ll c y hltW hk1 N ⟨A,h2,h3,h5⟩;rw[df]at A;have hcs:=hw.out c N;have H:Kq y.heap.size [] y y.drew:=(Kq.refl _).drew;have hDl:=h3.lt;have s:WS E g (.rep id k l m) q w y.drew L' z j/\a7 y.drew D 3 #[Sv Sz d]/\Marks w.heap.size ds y.drew:=⟨h2.own (X:=[]) (by omega) (λ_ h=>nomatch h) H,h3,h5.stay h5 (X:=[]) (λ_ h=>nomatch h) H⟩;replace A:=AI A;replace H:=AI H;have hL3:∀{K O3 Yx},¬ LetsOut (Exit.then K (Tc 3 (jY [E.r,g,w.heap.size+1+1] y O3 Yx))):=λ⟨_,_,h⟩=>h
    gi_wp2
    have hzd:y.drew.heap.size=y.heap.size:=rfl;have hBq6:=(s.1.wb.old hE hG q hSq).trans hB'.out;have htri:Hid (z<c)\/(Hid (¬ z<c)/\Hid ((d:Int)<l))\/Hid ¬ z<c/\Hid ¬ (d:Int)<l:=by
     rcases TJ (z<c)with h|h
     .exact .inl (AI h)
     .rcases TJ ((d:Int)<l)with h'|h'
      .exact .inr (.inl ⟨AI h,AI h'⟩)
      .exact .inr (.inr ⟨AI h,AI h'⟩)
    rcases htri with t1|⟨t1,t2⟩|⟨t1,t2⟩
    case' inl=>
     have e1:decide (z<c)=true:=decide_eq_true t1.out;refine gO (S:=λu=>WS E g (.rep id k l m) q w u L' z j/\a7 u D 3 #[Sv Sz d]/\Marks w.heap.size ds u) (by kernel_rfl) hL3 (by kernel_rfl) ?_;show wpAnyH _ _ _ _ _ 22 _ _ y.drew;generalize y.drew=W6 at s H hzd hBq6 ⊢;refine takeD 0 33 (Sv Sz c) rfl rfl (by kernel_rfl) (by kernel_rfl) (by kernel_rfl) (λ_ _ _ h=>h) (SG ⟨by rfl,λB r=> ?_⟩) s ?_
     .skip
      go_simp
     simp only[Sx,zq0];refine takeD 1 34 (Sv Sz z) rfl rfl (by kernel_rfl) (by kernel_rfl) (by kernel_rfl) (λ_ _ _ h=>h) (SG ⟨by rfl,λB r=> ?_⟩) s ?_
     .have A:=r.1.caps.b2.cell 0;go_simp
     simp only[Sx,zq0];refine takeD 2 35 (SK true) rfl rfl (by kernel_rfl) (by kernel_rfl) (by kernel_rfl) (λ_ _ _ h=>h) (SG ⟨by rfl,λB r=> ?_⟩) s ?_
     .have A:=e1;go_simp
     simp only[Sx,zq0];refine takeD 3 36 (SK true) rfl rfl (by kernel_rfl) (by kernel_rfl) (by kernel_rfl) (λ_ _ _ h=>h) (SG ⟨by rfl,λB r=> ?_⟩) s ?_
     .skip
      go_simp
     simp only[Sx,zq0];refine takeD 4 37 undef rfl rfl (by kernel_rfl) (by kernel_rfl) (by kernel_rfl) (λ_ _ _ h=>h) (Te ⟨by rfl,rfl⟩) s ?_;simp only[Sx,zq0];refine takeD 5 38 undef rfl rfl (by kernel_rfl) (by kernel_rfl) (by kernel_rfl) (λ_ _ _ h=>h) (Te ⟨by rfl,rfl⟩) s ?_;simp only[Sx,zq0];refine takeD 6 39 undef rfl rfl (by kernel_rfl) (by kernel_rfl) (by kernel_rfl) (λ_ _ _ h=>h) (Te ⟨by rfl,rfl⟩) s ?_;simp only[Sx,zq0];refine takeD 7 40 undef rfl rfl (by kernel_rfl) (by kernel_rfl) (by kernel_rfl) (λ_ _ _ h=>h) (Te ⟨by rfl,rfl⟩) s ?_;simp only[Sx,zq0];refine takeD 8 41 undef rfl rfl (by kernel_rfl) (by kernel_rfl) (by kernel_rfl) (λ_ _ _ h=>h) (Te ⟨by rfl,rfl⟩) s ?_;simp only[Sx,zq0];refine takeD 9 42 undef rfl rfl (by kernel_rfl) (by kernel_rfl) (by kernel_rfl) (λ_ _ _ h=>h) (Te ⟨by rfl,rfl⟩) s ?_;simp only[Sx,zq0]
    case' inr.inl=>
     have e1:decide (z<c)=false:=decide_eq_false t1.out;have e2:decide ((d:Int)<l)=true:=decide_eq_true t2.out;refine gO (S:=λu=>WS E g (.rep id k l m) q w u L' z j/\a7 u D 3 #[Sv Sz d]/\Marks w.heap.size ds u) (by kernel_rfl) hL3 (by kernel_rfl) ?_;show wpAnyH _ _ _ _ _ 22 _ _ y.drew;generalize y.drew=W6 at s H hzd hBq6 ⊢;refine takeD 0 33 (Sv Sz c) rfl rfl (by kernel_rfl) (by kernel_rfl) (by kernel_rfl) (λ_ _ _ h=>h) (SG ⟨by rfl,λB r=> ?_⟩) s ?_
     .skip
      go_simp
     simp only[Sx,zq0];refine takeD 1 34 (Sv Sz z) rfl rfl (by kernel_rfl) (by kernel_rfl) (by kernel_rfl) (λ_ _ _ h=>h) (SG ⟨by rfl,λB r=> ?_⟩) s ?_
     .have A:=r.1.caps.b2.cell 0;go_simp
     simp only[Sx,zq0];refine takeD 2 35 (SK false) rfl rfl (by kernel_rfl) (by kernel_rfl) (by kernel_rfl) (λ_ _ _ h=>h) (SG ⟨by rfl,λB r=> ?_⟩) s ?_
     .have A:=e1;go_simp
     simp only[Sx,zq0];refine takeD 3 36 (SK false) rfl rfl (by kernel_rfl) (by kernel_rfl) (by kernel_rfl) (λ_ _ _ h=>h) (SG ⟨by rfl,λB r=> ?_⟩) s ?_
     .skip
      go_simp
     simp only[Sx,zq0];refine takeD 4 37 (Sv Sz d) rfl rfl (by kernel_rfl) (by kernel_rfl) (by kernel_rfl) (λ_ _ _ h=>h) (SG ⟨by rfl,λB r=> ?_⟩) s ?_
     .have A:=r.2.1.cell 0;go_simp
     simp only[Sx,zq0];refine takeD 5 38 (AS (some ⟨q,0,none⟩)) rfl rfl (by kernel_rfl) (by kernel_rfl) (by kernel_rfl) (λ_ _ _ h=>h) (SG ⟨by rfl,λB r=> ?_⟩) s ?_
     .have A:=r.1.caps.b1.cell 0;go_simp
     simp only[Sx,zq0];refine takeD 6 39 (AS (some ⟨q,0,none⟩)) rfl rfl (by kernel_rfl) (by kernel_rfl) (by kernel_rfl) (λ_ _ _ h=>h) (SG ⟨by rfl,λB r=> ?_⟩) s ?_
     .skip
      go_simp
     simp only[Sx,zq0];refine takeD 7 40 (AS (some ⟨q,2,none⟩)) rfl rfl (by kernel_rfl) (by kernel_rfl) (by kernel_rfl) (λ_ _ _ h=>h) (SG ⟨by rfl,λB r=> ?_⟩) s ?_
     .skip
      go_simp
     simp only[Sx,zq0];refine takeD 8 41 (Sv Sz l) rfl rfl (by kernel_rfl) (by kernel_rfl) (by kernel_rfl) (λ_ _ _ h=>h) (SG ⟨by rfl,λB r=> ?_⟩) s ?_
     .have A:=a7.cell ((r.1.wb.old hE hG q hSq).trans hB'.out) 2;go_simp
     simp only[Sx,zq0];refine takeD 9 42 (SK true) rfl rfl (by kernel_rfl) (by kernel_rfl) (by kernel_rfl) (λ_ _ _ h=>h) (SG ⟨by rfl,λB r=> ?_⟩) s ?_
     .have A:=e2;go_simp
     simp only[Sx,zq0]
    case inr.inr=>
     have e1:decide (z<c)=false:=decide_eq_false t1.out;have e2:decide ((d:Int)<l)=false:=decide_eq_false t2.out;refine gO (S:=λu=>WS E g (.rep id k l m) q w u L' z j/\a7 u D 3 #[Sv Sz d]/\Marks w.heap.size ds u) (by kernel_rfl) hL3 (by kernel_rfl) ?_;show wpAnyH _ _ _ _ _ 22 _ _ y.drew;generalize y.drew=W6 at s H hzd hBq6 ⊢;refine takeD 0 33 (Sv Sz c) rfl rfl (by kernel_rfl) (by kernel_rfl) (by kernel_rfl) (λ_ _ _ h=>h) (SG ⟨by rfl,λB r=> ?_⟩) s ?_
     .skip
      go_simp
     simp only[Sx,zq0];refine takeD 1 34 (Sv Sz z) rfl rfl (by kernel_rfl) (by kernel_rfl) (by kernel_rfl) (λ_ _ _ h=>h) (SG ⟨by rfl,λB r=> ?_⟩) s ?_
     .have A:=r.1.caps.b2.cell 0;go_simp
     simp only[Sx,zq0];refine takeD 2 35 (SK false) rfl rfl (by kernel_rfl) (by kernel_rfl) (by kernel_rfl) (λ_ _ _ h=>h) (SG ⟨by rfl,λB r=> ?_⟩) s ?_
     .have A:=e1;go_simp
     simp only[Sx,zq0];refine takeD 3 36 (SK false) rfl rfl (by kernel_rfl) (by kernel_rfl) (by kernel_rfl) (λ_ _ _ h=>h) (SG ⟨by rfl,λB r=> ?_⟩) s ?_
     .skip
      go_simp
     simp only[Sx,zq0];refine takeD 4 37 (Sv Sz d) rfl rfl (by kernel_rfl) (by kernel_rfl) (by kernel_rfl) (λ_ _ _ h=>h) (SG ⟨by rfl,λB r=> ?_⟩) s ?_
     .have A:=r.2.1.cell 0;go_simp
     simp only[Sx,zq0];refine takeD 5 38 (AS (some ⟨q,0,none⟩)) rfl rfl (by kernel_rfl) (by kernel_rfl) (by kernel_rfl) (λ_ _ _ h=>h) (SG ⟨by rfl,λB r=> ?_⟩) s ?_
     .have A:=r.1.caps.b1.cell 0;go_simp
     simp only[Sx,zq0];refine takeD 6 39 (AS (some ⟨q,0,none⟩)) rfl rfl (by kernel_rfl) (by kernel_rfl) (by kernel_rfl) (λ_ _ _ h=>h) (SG ⟨by rfl,λB r=> ?_⟩) s ?_
     .skip
      go_simp
     simp only[Sx,zq0];refine takeD 7 40 (AS (some ⟨q,2,none⟩)) rfl rfl (by kernel_rfl) (by kernel_rfl) (by kernel_rfl) (λ_ _ _ h=>h) (SG ⟨by rfl,λB r=> ?_⟩) s ?_
     .skip
      go_simp
     simp only[Sx,zq0];refine takeD 8 41 (Sv Sz l) rfl rfl (by kernel_rfl) (by kernel_rfl) (by kernel_rfl) (λ_ _ _ h=>h) (SG ⟨by rfl,λB r=> ?_⟩) s ?_
     .have A:=a7.cell ((r.1.wb.old hE hG q hSq).trans hB'.out) 2;go_simp
     simp only[Sx,zq0];refine takeD 9 42 (SK false) rfl rfl (by kernel_rfl) (by kernel_rfl) (by kernel_rfl) (λ_ _ _ h=>h) (SG ⟨by rfl,λB r=> ?_⟩) s ?_
     .have A:=e2;go_simp
     simp only[Sx,zq0];refine takeD 10 43 (SK false) rfl rfl (by kernel_rfl) (by kernel_rfl) (by kernel_rfl) (λ_ _ _ h=>h) (SG ⟨by rfl,λB r=> ?_⟩) s ?_
     .skip
      go_simp
     simp only[Sx,zq0];refine takeD 11 44 (SK false) rfl rfl (by kernel_rfl) (by kernel_rfl) (by kernel_rfl) (λ_ _ _ h=>h) (SG ⟨by rfl,λB r=> ?_⟩) s ?_
     .skip
      go_simp
     simp only[Sx,zq0];refine takeD 12 45 undef rfl rfl (by kernel_rfl) (by kernel_rfl) (by kernel_rfl) (λ_ _ _ h=>h) (Te ⟨by rfl,rfl⟩) s ?_;simp only[Sx,zq0];refine takeD 13 46 undef rfl rfl (by kernel_rfl) (by kernel_rfl) (by kernel_rfl) (λ_ _ _ h=>h) (Te ⟨by rfl,rfl⟩) s ?_;simp only[Sx,zq0];refine takeD 14 47 undef rfl rfl (by kernel_rfl) (by kernel_rfl) (by kernel_rfl) (λ_ _ _ h=>h) (Te ⟨by rfl,rfl⟩) s ?_;simp only[Sx,zq0];refine takeD 15 48 undef rfl rfl (by kernel_rfl) (by kernel_rfl) (by kernel_rfl) (λ_ _ _ h=>h) (Te ⟨by rfl,rfl⟩) s ?_;simp only[Sx,zq0];refine takeD 16 49 undef rfl rfl (by kernel_rfl) (by kernel_rfl) (by kernel_rfl) (λ_ _ _ h=>h) (Te ⟨by rfl,rfl⟩) s ?_;simp only[Sx,zq0];refine takeD 17 50 undef rfl rfl (by kernel_rfl) (by kernel_rfl) (by kernel_rfl) (λ_ _ _ h=>h) (Te ⟨by rfl,rfl⟩) s ?_;simp only[Sx,zq0];refine takeD 18 51 undef rfl rfl (by kernel_rfl) (by kernel_rfl) (by kernel_rfl) (λ_ _ _ h=>h) (Te ⟨by rfl,rfl⟩) s ?_;simp only[Sx,zq0];refine takeD 19 52 undef rfl rfl (by kernel_rfl) (by kernel_rfl) (by kernel_rfl) (λ_ _ _ h=>h) (Te ⟨by rfl,rfl⟩) s ?_;simp only[Sx,zq0];refine takeD 20 53 undef rfl rfl (by kernel_rfl) (by kernel_rfl) (by kernel_rfl) (λ_ _ _ h=>h) (Te ⟨by rfl,rfl⟩) s ?_;simp only[Sx,zq0];refine takeD 21 54 (SK false) rfl rfl (by kernel_rfl) (by kernel_rfl) (by kernel_rfl) (λ_ _ _ h=>h) (SG ⟨by rfl,λB r=> ?_⟩) s ?_
     .skip
      go_simp
     simp only[Sx,zq0];refine wpAnyH_done (by kernel_rfl) ?_ _;replace s:=AI s;have Z:qf c=false:=by rw[<- congrFun hqf.out c,e1,e2];rfl
     replace Z:=AI Z;gi_wp2
     refine⟨H.out.mono (by omega) nofun,?_,s.out⟩;have:=A.out;rw[if_neg (by rw[Z.out];simp)]at this;exact this
    all_goals
     refine takeD 10 43 (SK true) rfl rfl (by kernel_rfl) (by kernel_rfl) (by kernel_rfl) (λ_ _ _ h=>h) (SG ⟨by rfl,λB r=> ?_⟩) s ?_
     .skip
      go_simp
     simp only[Sx,zq0];refine takeD 11 44 (SK true) rfl rfl (by kernel_rfl) (by kernel_rfl) (by kernel_rfl) (λ_ _ _ h=>h) (SG ⟨by rfl,λB r=> ?_⟩) s ?_
     .skip
      go_simp
     simp only[Sx,zq0];refine takeD 12 45 (AS (some ⟨q,0,none⟩)) rfl rfl (by kernel_rfl) (by kernel_rfl) (by kernel_rfl) (λ_ _ _ h=>h) (SG ⟨by rfl,λB r=> ?_⟩) s ?_
     .have A:=r.1.caps.b1.cell 0;go_simp
     simp only[Sx,zq0];refine takeD 13 46 (AS (some ⟨E.m,0,none⟩)) rfl rfl (by kernel_rfl) (by kernel_rfl) (by kernel_rfl) (λ_ _ _ h=>h) (SG ⟨by rfl,λB r=> ?_⟩) s ?_
     .have A:=r.1.caps.b3.cell 0;go_simp
     simp only[Sx,zq0];refine takeD 14 47 (AS (some ⟨q,0,none⟩)) rfl rfl (by kernel_rfl) (by kernel_rfl) (by kernel_rfl) (λ_ _ _ h=>h) (SG ⟨by rfl,λB r=> ?_⟩) s ?_
     .have A:=r.1.caps.b1.cell 0;go_simp
     simp only[Sx,zq0];refine takeD 15 48 (Sv Sz d) rfl rfl (by kernel_rfl) (by kernel_rfl) (by kernel_rfl) (λ_ _ _ h=>h) (SG ⟨by rfl,λB r=> ?_⟩) s ?_
     .have A:=r.2.1.cell 0;go_simp
     simp only[Sx,zq0];refine takeD 17 50 (Sv Sz c) rfl rfl (by kernel_rfl) (by kernel_rfl) (by kernel_rfl) (λ_ _ _ h=>h) (SG ⟨by rfl,λB r=> ?_⟩) s ?_
     .skip
      go_simp
     simp only[Sx,zq0];refine takeD 19 52 (Sv Sz j) rfl rfl (by kernel_rfl) (by kernel_rfl) (by kernel_rfl) (λ_ _ _ h=>h) (SG ⟨by rfl,λB r=> ?_⟩) s ?_
     .have A:=r.1.caps.b4.cell 0;go_simp
     simp only[Sx,zq0];have hAf:=o9 hBq6 (by omega:d<2000000);refine FK (R:=λu=>u=W6) 16 49 _ 244 #[AS (some ⟨q,0,none⟩),Sv Sz d] rfl rfl (by rfl) (by kernel_rfl) (by go_simp) hAf ?_;rintro u hu;subst u;refine⟨s,?_⟩;simp only[Sx,zq0];have hmA:bS l m d<=d+1:=by unfold bS;split <;>omega
     have hlt0:=hlt.out;have hH:=hrest.out (bS l m d) c (by omega) (by omega) W6 q s.1.wb.mem s.1.wb.rep hcs.2;refine FK (R:=λu=>cI E u/\Kq W6.heap.size [E.r] W6 u) 18 51 _ 243 #[AS (some ⟨q,0,none⟩),AS (some ⟨E.m,0,none⟩),Sv Sz (bS l m d:Nat),Sv Sz c] rfl rfl (by rfl) (by kernel_rfl) (by go_simp) hH ?_;rintro W7 ⟨hM7,k7⟩;have hr6:=s.1.wb.new.2.1;have S7:WS E g (.rep id k l m) q w W7 L' z j/\a7 W7 D 3 #[Sv Sz d]/\Marks w.heap.size ds W7:=⟨s.1.asked hE hG hM7 k7,s.2.1.kq k7 s.2.1.lt λC=>by have:=Su.1 C;omega,s.2.2.stay s.2.2 (λx C=>by rw[Su.1 C];exact s.1.wb.mem.fC) k7⟩;refine⟨S7,?_⟩;simp only[Sx,zq0];have hJ':=oV j (dI E.M k l m (bS l m d) c) W7 (by omega);refine FK (R:=λu=>Kq W7.heap.size [] W7 u) 20 53 _ 131 #[ep (dI E.M k l m (bS l m d) c),Sv Sz j] rfl rfl (by rfl) (by kernel_rfl) (by go_simp) hJ' ?_;rintro W8 k8;have z7:=S7.2.1.lt;have S8:WS E g (.rep id k l m) q w W8 L' z j/\a7 W8 D 3 #[Sv Sz d]/\Marks w.heap.size ds W8:=⟨S7.1.own (X:=[]) (by omega) (λ_ h=>nomatch h) k8,S7.2.1.kq k8 S7.2.1.lt Sw,S7.2.2.stay S7.2.2 (X:=[]) (λ_ h=>nomatch h) k8⟩;refine⟨S8,?_⟩;simp only[Sx,zq0];have hS2:=s;have s:=S8;refine takeD 21 54 (SK ((dI E.M k l m (bS l m d) c).testBit j)) rfl rfl (by kernel_rfl) (by kernel_rfl) (by kernel_rfl) (λ_ _ _ h=>h) (SG ⟨by rfl,λB r=> ?_⟩) s ?_
     .skip
      go_simp
     simp only[Sx,zq0];refine wpAnyH_done (by kernel_rfl) ?_ _;have Q:Hid (Kq y.heap.size [E.r] y W8):=AI (((H.out.mono (Sy _) nofun).trans (k7.mono H.out.kp.1 λ_ h _=>h)).trans (k8.mono (T7 H.out.kp.1 k7.kp.1) nofun));have Z:qf c=(dI E.M k l m (bS l m d) c).testBit j:=by
      rw[<- congrFun hqf.out c];first
       |(rw[e1];simp;done)
       |(rw[e1,e2];simp)
     replace s:=AI s;replace Z:=AI Z;replace e1:=AI e1;by_cases hq:(dI E.M k l m (bS l m d) c).testBit j=true
     .have hkc:c=cc:=by
       have:=A.out;rw[if_pos (by rw[N,Z.out,hq];rfl)]at this;exact Option.some.inj this
      subst hkc;rw[hq];replace hq:=AI hq;have z8:w.heap.size+1+1+1<W8.heap.size:=(s.out.1.boxes (w.heap.size+1+1+1) (by simp)).1;have hRk8:=hRk'.out.keep (w':=W8.drew) λb N _=>s.out.1.wb.old hE hG b N
      have k9d:Kq W8.heap.size [] W8 W8.drew:=(Kq.refl W8).drew;have S9:=s.out.1.own (X:=[]) z8 (λ_ h=>nomatch h) k9d;have M9:=s.out.2.2.stay s.out.2.2 (X:=[]) (λ_ h=>nomatch h) k9d;have B9:Hid (a7 W8.drew D 3 #[Sv Sz d]):=AI s.out.2.1;have hCw:=AI (hwk W8.drew p z c L' S9.wb.mem hRk8 hi' (by rw[hP.out];exact N) hL' S9.wb.sp);have hBq8:=(s.out.1.wb.old hE hG q hSq).trans hB'.out;have u1:=s.out.1.caps.b1.cell 0;have u2:=s.out.1.caps.b2.cell 0;have u3:=s.out.1.caps.b3.cell 0;have u5:W8.cell? ⟨q,1,none⟩=some (T4 (bn k) (AS (some ⟨p,0,none⟩))):=a7.cell hBq8 1;have hL7:∀{K O3 Yx},¬ LetsOut (Exit.then K (Tc 3 (jY [E.r,g,w.heap.size+1+1] y O3 Yx))):=λ⟨_,_,h⟩=>h
      replace S9:=AI S9;replace M9:=AI M9;gi_wp2
      refine qq 7 (by kernel_rfl) hL7 (by kernel_rfl) (by kernel_rfl) ?_;simp only[Tg,List.take_zero,Th,List.drop_zero];repeat still_step
      try refine wpStill_nil ?_
      change wpList _ _ _ _ _ W8.drew;go_wp2;refine hCw.out.mono ?_;rintro e W9 ⟨rfl,hM9,hs9,k9⟩;have S10:=S9.out.walked hE hG hM9 hs9 k9;have hnm:∀x∈[E.r,g],W8.drew.heap[x]?≠some (.deferred (some [])):=λx C=>by
       simp only[T5,Sw,or_false]at C;rcases C with rfl|rfl
       .exact S9.out.wb.mem.fC
       .exact fC S9.out.wb.sp
      have M10:=M9.out.stay M9.out hnm k9;have hg6:=S9.out.wb.new.2.2.1;have hr7:=S9.out.wb.new.2.1;have B10:=B9.out.kq k9 B9.out.lt λC=>by
       simp only[T5,Sw,or_false]at C;omega
      have u4:=S10.caps.b2.cell 0;have u6:=S10.caps.b2.frozen;have kB:Kq W9.heap.size [w.heap.size+1+1] W9 (W9.setCell ⟨w.heap.size+1+1,0,none⟩ (Sv Sz c)):=(Kq.refl W9).setCell (p:=⟨w.heap.size+1+1,0,none⟩) (λ_=>Su.2 rfl) _;have M11:=M10.stay M10 (λx C=>by rw[Su.1 C];exact fC S10.caps.b2) kB;have B11:=B10.kq kB B10.lt λC=>by have:=Su.1 C;omega
      have S11:=S10.moved c;have kfin:Kq y.heap.size [E.r,g,w.heap.size+1+1] y (W9.setCell ⟨w.heap.size+1+1,0,none⟩ (Sv Sz c)):=(((Q.out.mono (Sy _) λx C _=>by rw[Su.1 C];exact Tt).trans (k9d.mono Q.out.kp.1 nofun)).trans (k9.mono Q.out.kp.1 λx C _=>by
       simp only[T5,Sw,or_false]at C ⊢;exact C.imp (λh=>h) .inl)).trans (kB.mono (T7 Q.out.kp.1 k9.kp.1) λx C _=>by rw[Su.1 C];simp)
      replace M11:=AI M11;replace B11:=AI B11;replace S11:=AI S11;replace kfin:=AI kfin;dsimp only;first
       |go_step
       |(refine ‹∀(a:Act)(w_1:SQ),wpList PM _ _ [] a w_1->_› _ _ ?_)
      refine wpList_nil ?_;gi_wp2
      exact⟨kfin.out,rfl,S11.out,B11.out,M11.out⟩
     .have hqff:=Bool.eq_false_iff.2 hq;rw[hqff];replace hqff:=AI hqff;gi_wp2
      refine⟨Q.out.mono (Sy _) λx C _=>by rw[Su.1 C];exact Tt,?_,s.out⟩;have:=A.out;rw[if_neg (by rw[Z.out,hqff.out];simp)]at this;exact this
 .have hff:=hfin.out;rw[jJ,if_neg F]at hff;have e1:decide (z<j)=false:=decide_eq_false λh=>F (.inl h)
  have e2:decide ((d:Int)<l)=false:=decide_eq_false λh=>F (.inr h)
  have hfin2:Hid (L'=dH (jJ E.M k l m (de E.M k) j (l.toNat+400) 0 i) L):=AI hff;replace F:=AI F;go_wp2;go_quiet (fail)
  have H:Kq W.heap.size [] W (W.drewN nq):=(Kq.refl W).drewN nq;have M1:=AI (hMk0.out.stay hMk0.out (X:=[]) (λ_ h=>nomatch h) H);have S1:=AI (hWS0.out.own (X:=[]) (hWS0.out.boxes (w.heap.size+1+1+1) (by simp)).1 (λ_ h=>nomatch h) H);generalize W.drewN nq=W1 at *;go_wp2;refine ot rfl M1.out λy M=> ?_
  have hB:=S1.out.wb.own (X:=[]) (Sy _) (λ_ h=>nomatch h) M;rw[<- hfin2.out];exact⟨rfl,hB.mem,hB.sp,hB.kq⟩
end
section
open Go.RowKit
mutual
def walk_any{E}(q:fu E)(s:te E){g G}(r:lL E g G):∀y,(∀a∈subs y,a∈subs E.R)->WalkC E g G y
 | .set i a b c d,h=>CK
 | .edge i f,h=>BE
 | .seq i t,h=>
  have u:=λa v=>h a (by rw[subs];grind)
  CM q r (mp q s t u) (sg q s r t u) (h _ (sub_self _))
 | .alt i t,h=>
  have u:=λa v=>h a (by rw[subs];grind)
  Dn q r (mp q s t u) (sg q s r t u) (s.alt i t (h _ (sub_self _)))
 | .grp i k n,h=>Da q r (walk_any q s r k λa v=>h a (by rw[subs];grind)) (h _ (sub_self _))
 | .rep i k l m,h=>
  have u:=λa v=>h a (by rw[subs];grind)
  CU q r (ox q s k u) (walk_any q s r k u) (h _ (sub_self _))
def sg{E:ME}(q:fu E)(s:te E){g G:Nat}(r:lL E g G):∀t,(∀a∈gJ t,a∈subs E.R)->∀k∈t,WalkC E g G k
 |[],_,k,w=>by cases w
 |x::t,h,k,w=>by
  rcases T5.1 w with e|w<;>first |(have:=walk_any q s r x λa v=>h a (List.mem_append_left _ v);rw[e];omega)|exact sg q s r t (λa v=>h a (List.mem_append_right _ v)) k w
end
end
section
open Go.RowKit
attribute [local go_sem] TS
abbrev dM:Int×Int:=(-1,-1)
def G1(E:ME)(g G i:Nat)(w:SQ)(e:Ending)(a:SQ):Prop:=cI E a/\match df (λ_=>true) (bv E.M E.R i) 320 with|none=>e=SL (SE none 0 0)/\Kq w.heap.size [E.r] w a|some j=>e=SL E.sp/\a7 a g 54 (dw (dH (((0:Int),i,j)::de E.M E.R i j) (SC (G+1) dM)))/\Kq w.heap.size [E.r,g] w a
def CR{fn p t}(h:fn.results=#[.cell p t]){tmps a x w}(b:tmps.getD p undef=AS (some ⟨a,0,none⟩))(c:(loadVar t ⟨a,0,none⟩).run PM w=Ti x w):(results fn tmps).run PM w=Ti x w:=by
 simp_all[results,asAddr]
def JX{t b v w}(a:∀w,(isAgg t).run PM w=Ti false w)(c:w.cell? ⟨b,0,none⟩=some v):(loadVar t ⟨b,0,none⟩).run PM w=Ti v w:=by
 simp[loadVar,a,c]
def pV{fn p t q n B g tmps R v}(k:fn.results=#[.cell p t])(l:tmps.getD p undef=AS (some ⟨g,0,none⟩))(b:∀w,(isAgg t).run PM w=Ti false w):
 ∀{i W},a7 W g q #[v]->Marks B i W->(∀e,Kq B [] W e->R (SL v) e)->LeavesInM Fence.wide n PM fn tmps R i .returning W
 |[],W,c,_,f=>⟨_,CR k l (JX b (c.cell 0)),f W (.refl W)⟩
 |d::i,W,c,⟨⟨D,m,z,j,x⟩,h⟩,f=>by
  refine⟨by simp,.inl ⟨D,_,by rw[m],run_takeDeferred j,pV k l b (B:=B) ((Tw (by rintro rfl;exact fC c j)).trans c) (h.keep λu y A r=> ?_) λe s=>f e (((Kq.refl W).put (λh=>absurd h (by omega)) _).trans (s.mono (Sy _) λ_ h _=>h))⟩⟩;refine Tw ?_;grind
def OV(w v)(m i:Nat):
 ∃W,W=(((w.alloc (SY #[AS (some ⟨m,0,none⟩)] 174)).alloc (SY #[v] 86)).alloc (SY #[Sv Sz i] 3)).alloc (SY #[SE none 0 0] 48)/\a7 W w.heap.size 174 #[AS (some ⟨m,0,none⟩)]/\a7 W (w.heap.size+1) 86 #[v]/\a7 W (w.heap.size+1+1) 3 #[Sv Sz i]/\a7 W (w.heap.size+1+1+1) 48 #[SE none 0 0]/\Kq w.heap.size [] w W:=by
 have a:∀(W:SQ)(o:Obj){b:Nat}{t c},a7 W b t c->a7 (W.alloc o) b t c:=λW o{b t c} h=>h.alloc o
 have d:∀(W:SQ)(t c)(n:Nat),W.heap.size=n->a7 (W.alloc (SY c t)) n t c:=λW t c n h=>h▸a7.new W t c
 exact⟨_,rfl,a _ _ (a _ _ (a _ _ (a7.new w ..))),a _ _ (a _ _ (d _ _ _ _ (by simp))),a _ _ (d _ _ _ _ (by simp)),d _ _ _ _ (by simp),((((Kq.refl w).alloc (Sy _) _).alloc (by simp) _).alloc (by simp) _).alloc (by simp) _⟩
def xM:∀{L:Sp}{n},n<L.length->(SC n dM++L.drop n).set n dM=SC (n+1) dM++L.drop (n+1)
 |x::L,0,_=>rfl
 |x::L,n+1,h=>by
  have:=xM (L:=L) (n:=n) (by simpa using h);grind
def Oo{E}(hE:fu E)(hW:te E){g G}(B:lL E g G){w q i L}(hM:cI E w)(hR:Repr w E.S (T4 (bn E.R) (AS (some ⟨q,0,none⟩))) E.R)(hi:i<=E.M.s.size)(hL:L.length=G+1)(hg:a7 w g 54 (dw L)):
 Calls PM 81 #[AS (some ⟨E.m,0,none⟩),T4 (bn E.R) (AS (some ⟨q,0,none⟩)),Sv Sz i] w (G1 E g G i w):=by
 have hk:=ox hE hW E.R λa h=>h
 have hwk:=walk_any hE hW B E.R λa h=>h
 have hsz:=hE.size;have B0:=WB.start hE hM hR hg;have h1:=fN E.R ⟨q,0,none⟩;have f:=gu E.R ⟨q,0,none⟩;have A:=i9 E.R;have y:=jD E.R ⟨q,0,none⟩;have h5:=kC E.R ⟨q,0,none⟩;have h6:=walk_call E.R;obtain⟨W1,hW1,b1,b2,b3,b4,k1⟩:=OV w (T4 (bn E.R) (AS (some ⟨q,0,none⟩))) E.m i;have B1:=B0.own (X:=[]) (Sy _) (λ_ h=>nomatch h) k1;have hC:=hk W1 q i B1.mem B1.rep hi;have v1:=b1.cell 0;have v2:=b2.cell 0;have v3:=b3.cell 0;rw[hW1]at v1 v2 v3;replace hW1:=AI hW1;replace b1:=AI b1;replace b2:=AI b2;replace b3:=AI b3;replace b4:=AI b4;replace B1:=AI B1;replace hC:=AI hC;replace k1:=AI k1;refine callsIn_wide (n:=4).1 (callsIn_of_wp_marks (PM.func Tryz.func81 (by decide)) rfl trivial ?_ rfl);simp only[Tryz.ntmps81,SV,SH,SZ,T9,T8,SO,SN,SW,SR,SP,SF];refine wpIn_wide.2 ?_;go_wp2;rw[<- hW1.out];refine hC.out.mono ?_;rintro e w2 ⟨rfl,hM2,k2⟩;have B2:=AI (B1.out.asked hE B hM2 k2);have hr:=B1.out.new.2.1;have hgw:=B1.out.new.2.2.1;have st2:∀{b t c},a7 W1 b t c->w.heap.size<=b->a7 w2 b t c:=λhb hlo=>hb.kq k2 hb.lt λl=>by have:=Su.1 l;omega
 have c1:=AI (st2 b1.out (Sy _));have c2:=AI (st2 b2.out (by omega));have c3:=AI (st2 b3.out (by omega));have c4:=AI (st2 b4.out (by omega));have hlt2:=c4.out.lt;have k02:=AI ((k1.out.mono (Sy _) nofun:Kq w.heap.size [E.r] w W1).trans (k2.mono k1.out.kp.1 λ_ h _=>h));go_wp2;have hw:=AI (bZ E.M E.R i hi);have⟨P,hP⟩:∃P,bv E.M E.R i=P:=⟨_,rfl⟩;rw[hP]at hw;rw[hP];have hsay:∀(e:Ending)(w':SQ),(cI E w'/\match df (λ_=>true) P 320 with|none=>e=SL (SE none 0 0)/\Kq w.heap.size [E.r] w w'|some j=>e=SL E.sp/\a7 w' g 54 (dw (dH (((0:Int),i,j)::de E.M E.R i j) (SC (G+1) dM)))/\Kq w.heap.size [E.r,g] w w')->G1 E g G i w e w':=λe w' h=>by unfold G1;rw[hP];exact h
 replace hP:=AI hP;replace hsay:=AI hsay;refine wpIn_wide (n:=4).1 (qe (X:=[E.r,g,w.heap.size+1+1+1]) (t:=14) (p:=P) (by decide) rfl ?_
  (λk d=>df (λ_=>true) P k=df (λ_=>true) P 320/\WB E g E.R q w d L/\Kq w.heap.size [E.r] w d/\a7 d w.heap.size 174 #[AS (some ⟨E.m,0,none⟩)]/\a7 d (w.heap.size+1) 86 #[T4 (bn E.R) (AS (some ⟨q,0,none⟩))]/\a7 d (w.heap.size+1+1) 3 #[Sv Sz i]/\a7 d (w.heap.size+1+1+1) 48 #[SE none 0 0])
  (λc k d=>c= .ret/\df (λ_=>true) P 320=some k/\WB E g E.R q w d (dH (((0:Int),i,k)::de E.M E.R i k) (SC (G+1) dM))/\a7 d (w.heap.size+1+1+1) 48 #[E.sp]) ?_ ?_ ?_ ?_ ?_ ?_ ?_ ?_ ?_)
 case refine_7=>
  intro ll c d K hK;gi_wp2
  exact hK
 case refine_1=>
  intro x l;simp only[T5,Sw,or_false]at l;omega
 case refine_2=>
  rintro c d W'' ⟨h1,f,A,y,h5,h6,h7⟩ s;exact⟨h1,f.own (X:=[]) (by omega) (λ_ h=>nomatch h) s,A.trans (s.mono (by omega) nofun),y.kq s (by omega) Sw,h5.kq s (by omega) Sw,h6.kq s (by omega) Sw,h7.kq s (by omega) Sw⟩
 case refine_3=>
  rintro x c d W'' ⟨h1,f,A,y⟩ s;exact⟨h1,f,A.own (X:=[]) (by omega) (λ_ h=>nomatch h) s,y.kq s (by omega) Sw⟩
 case refine_4=>
  rintro c d ⟨h1,f⟩ hb;rw[df,if_neg (by rw[hb];simp)]at h1;exact⟨h1,f⟩
 case refine_5=>exact⟨rfl,B2.out,k02.out,c1.out,c2.out,c3.out,c4.out⟩
 case refine_9=>
  rintro d ⟨h1,f,A,y,h5,h6,h7⟩ hD;have hn:df (λ_=>true) P 320=none:=h1.symm;have fz:=h7.frozen;have f0:=h7.cell 0;have m:Kq d.heap.size [w.heap.size+1+1+1] d (d.setCell ⟨w.heap.size+1+1+1,0,none⟩ (SE none 0 0)):=(Kq.refl d).setCell (p:=⟨w.heap.size+1+1+1,0,none⟩) (λ_=>Su.2 rfl) _;have hDl:=(Td.1 hD).1;have C:Marks w.heap.size [{target:= .collected w2.heap.size,args:=#[]}] (d.setCell ⟨w.heap.size+1+1+1,0,none⟩ (SE none 0 0)):=⟨⟨w2.heap.size,rfl,by omega,(m.kp.2 _ hDl λl=>by have:=Su.1 l;omega).trans hD,by simp⟩,trivial⟩;have B3:=f.own (X:=[w.heap.size+1+1+1]) (by have:=f.kq.kp.1;exact this) λx l=>by rw[Su.1 l];omega m
  have b3:=h7.bI 0 (SE none 0 0);have k3:Kq w.heap.size [E.r] w (d.setCell ⟨w.heap.size+1+1+1,0,none⟩ (SE none 0 0)):=A.trans (m.mono A.kp.1 λx l hlt=>by have:=Su.1 l;omega);replace C:=AI C;replace B3:=AI B3;replace b3:=AI b3;replace k3:=AI k3;replace hn:=AI hn;go_wp2;refine pV rfl rfl λu=>by simp[go_sem] b3.out C.out λW'' hk''=>hsay.out _ _ ⟨(B3.out.own (X:=[]) (Sy _) (λ_ h=>nomatch h) hk'').mem,?_⟩
  rw[hn.out];exact⟨rfl,k3.out.trans (hk''.mono (Sy _) nofun)⟩
 case refine_10=>
  rintro _ k d hk1 hb ⟨rfl,f,A,y⟩ hD;have hDl:=(Td.1 hD).1;have C:Marks w.heap.size [{target:= .collected w2.heap.size,args:=#[]}] d:=⟨⟨w2.heap.size,rfl,by omega,hD,by simp⟩,trivial⟩;replace f:=AI f;replace A:=AI A;replace y:=AI y;replace C:=AI C;refine wpIn_wide.2 ?_;go_wp2;refine pV rfl rfl λu=>by simp[go_sem] y.out C.out λW'' hk''=>hsay.out _ _ ?_
  have B4:=A.out.own (X:=[]) (Sy _) (λ_ h=>nomatch h) hk'';rw[f.out];exact⟨B4.mem,rfl,B4.sp,B4.kq⟩
 case refine_8=>
  rintro ll k d hltW hk1 hb ⟨h1,f,A,y,h5,h6,h7⟩;have hmk:df (λ_=>true) P 320=some k:=by
   rw[<- h1,df,if_pos (by rw[hb];rfl)]
  have hks:=hw.out k hb;have cm:d.cell? ⟨E.m,4,none⟩=some (SE (some ⟨g,0,none⟩) (G+1) (G+1)):=by rw[<- B.sp];exact f.mem.blk.cell 4
  have v1:=y.cell 0;have hGs:=B.small;have A0:=AI (⟨f,y,h5,h6,h7⟩:WB E g E.R q w d L/\a7 d w.heap.size 174 #[AS (some ⟨E.m,0,none⟩)]/\a7 d (w.heap.size+1) 86 #[T4 (bn E.R) (AS (some ⟨q,0,none⟩))]/\a7 d (w.heap.size+1+1) 3 #[Sv Sz i]/\a7 d (w.heap.size+1+1+1) 48 #[SE none 0 0]);replace hmk:=AI hmk;gi_wp2
  gi_loopw [20] (λc wr=>∃n:Nat,n<=G+1/\c=Sv Sz n/\WB E g E.R q w wr (SC n dM++L.drop n)/\Kq d.heap.size [g] d wr/\a7 wr w.heap.size 174 #[AS (some ⟨E.m,0,none⟩)]/\a7 wr (w.heap.size+1) 86 #[T4 (bn E.R) (AS (some ⟨q,0,none⟩))]/\a7 wr (w.heap.size+1+1) 3 #[Sv Sz i]/\a7 wr (w.heap.size+1+1+1) 48 #[SE none 0 0]) λc _=>G+1- (intOf c).toNat
  case atStart=>exact⟨0,Ta _,rfl,A0.out.1,.refl _,A0.out.2⟩
  case round=>
   obtain⟨n,hnG,rfl,f,A,y,h5,h6,h7⟩:=hrel;have hlen:(SC n dM++L.drop n).length=G+1:=by simp;omega
   have cm:wr.cell? ⟨E.m,4,none⟩=some (SE (some ⟨g,0,none⟩) (G+1) (G+1)):=by rw[<- B.sp];exact f.mem.blk.cell 4
   have v1:=y.cell 0;have fz:∀x,wr.frozen? ⟨g,x,none⟩=false:=f.sp.frozen;have kR:=f.kq.kp.1;by_cases hlt:n<G+1
   .have⟨s0,s1⟩:=qm f.sp (by omega:n<(SC n dM++L.drop n).length);have z:=vK (n:=n) (u:=dM) f.sp;rw[xM (by omega:n<L.length)]at z;have m:Kq wr.heap.size [g] wr ((wr.setCell ⟨g,n*2,none⟩ (Sv Sz (-1))).setCell ⟨g,n*2+1,none⟩ (Sv Sz (-1))):=((Kq.refl wr).setCell (p:=⟨g,n*2,none⟩) (λ_=>Su.2 rfl) _).setCell (p:=⟨g,n*2+1,none⟩) (λ_=>Su.2 rfl) _;have hMn:=f.mem.hZ hE (X:=[g]) (λx l=>by rw[Su.1 l];exact⟨B.ne_m,B.ne_r,B.away⟩) m;have hBn:=f.walked hE B hMn z (m.mono (Sy _) λx l _=>Tr _ l);have kn:=A.trans (m.mono A.kp.1 λ_ h _=>h);have v:∀x,w.heap.size<=x->x∉[g]:=λx l h=>by have:=Su.1 h;omega
    have m4:=y.kq m y.lt (v _ (Sy _));have m5:=h5.kq m h5.lt (v _ (by omega));have m6:=h6.kq m h6.lt (v _ (by omega));have m7:=h7.kq m h7.lt (v _ (by omega));have A2:=AI (⟨hBn,kn,m4,m5,m6,m7⟩:WB E g E.R q w _ (SC (n+1) dM++L.drop (n+1))/\Kq d.heap.size [g] d _/\a7 _ w.heap.size 174 #[AS (some ⟨E.m,0,none⟩)]/\a7 _ (w.heap.size+1) 86 #[T4 (bn E.R) (AS (some ⟨q,0,none⟩))]/\a7 _ (w.heap.size+1+1) 3 #[Sv Sz i]/\a7 _ (w.heap.size+1+1+1) 48 #[SE none 0 0]);gi_wp2
    go_roundw
    case rel=>exact⟨n+1,by omega,by push_cast;rfl,A2.out⟩
    case measure=>simp[intOf];omega
   .obtain rfl:n=G+1:=by omega
    have hdr:SC (G+1) dM++L.drop (G+1)=SC (G+1) dM:=by rw[TC (by omega),TU]
    rw[hdr]at f hlen;have⟨s0,s1⟩:=qm f.sp (by omega:0<(SC (G+1) dM).length);have z:=vK (n:=0) (u:=((i:Int),(k:Int))) f.sp;rw[Nat.zero_mul,Nat.zero_add]at z s1;rw[Nat.zero_mul]at s0;have v3:=h6.cell 0;have v5:=h5.cell 0;have m:Kq wr.heap.size [g] wr ((wr.setCell ⟨g,0,none⟩ (Sv Sz i)).setCell ⟨g,1,none⟩ (Sv Sz k)):=((Kq.refl wr).setCell (p:=⟨g,0,none⟩) (λ_=>Su.2 rfl) _).setCell (p:=⟨g,1,none⟩) (λ_=>Su.2 rfl) _;have v:∀x,w.heap.size<=x->x∉[g]:=λx l h=>by have:=Su.1 h;omega
    have hMn:=f.mem.hZ hE (X:=[g]) (λx l=>by rw[Su.1 l];exact⟨B.ne_m,B.ne_r,B.away⟩) m;have hBn:=f.walked hE B hMn z (m.mono (Sy _) λx l _=>Tr _ l);have m4:=y.kq m y.lt (v _ (Sy _));have m5:=h5.kq m h5.lt (v _ (by omega));have m6:=h6.kq m h6.lt (v _ (by omega));have m7:=h7.kq m h7.lt (v _ (by omega));have kn:=A.trans (m.mono A.kp.1 λ_ h _=>h);have y1:=m4.cell 0;have y2:=m5.cell 0;have y3:=m6.cell 0;have A2:=AI (⟨hBn,kn,m4,m5,m6,m7⟩:WB E g E.R q w _ ((SC (G+1) dM).set 0 ((i:Int),(k:Int)))/\Kq d.heap.size [g] d _/\a7 _ w.heap.size 174 #[AS (some ⟨E.m,0,none⟩)]/\a7 _ (w.heap.size+1) 86 #[T4 (bn E.R) (AS (some ⟨q,0,none⟩))]/\a7 _ (w.heap.size+1+1) 3 #[Sv Sz i]/\a7 _ (w.heap.size+1+1+1) 48 #[SE none 0 0]);have hL7:∀{K O3 Yx},¬ LetsOut (Exit.then K (Tc 1 (jY [E.r,g,w.heap.size+1+1+1] d O3 Yx))):=λ⟨_,_,h⟩=>h
    gi_wp2
    refine qq 7 (by kernel_rfl) hL7 (by kernel_rfl) (by kernel_rfl) ?_;simp only[Tg,List.take_zero,Th,List.drop_zero];repeat still_step
    try refine wpStill_nil ?_
    change wpList _ _ _ _ _ wr.drew;go_wp2;have⟨a1,a2,a3,a4,a5,a6⟩:=A2.out;have kR:=a1.kq.kp.1;have kd:Kq ((wr.setCell ⟨g,0,none⟩ (Sv Sz i)).setCell ⟨g,1,none⟩ (Sv Sz k)).heap.size [] ((wr.setCell ⟨g,0,none⟩ (Sv Sz i)).setCell ⟨g,1,none⟩ (Sv Sz k)) ((wr.setCell ⟨g,0,none⟩ (Sv Sz i)).setCell ⟨g,1,none⟩ (Sv Sz k)).drew:=(Kq.refl _).drew;have e1:=a1.own (X:=[]) kR (λ_ h=>nomatch h) kd;have e2:=a2.trans (kd.mono a2.kp.1 nofun);have e3:=a3.kq kd a3.lt Sw;have e4:=a4.kq kd a4.lt Sw;have e5:=a5.kq kd a5.lt Sw;have e6:=a6.kq kd a6.lt Sw;generalize World.drew _=W8 at *;have y1:=e3.cell 0;have y2:=e4.cell 0;have y3:=e5.cell 0;have hCw:=AI (hwk W8 q i k _ e1.mem e1.rep hi (by rw[hP.out];exact hb) (by rw[List.length_set];simp) e1.sp);have A3:=AI (⟨e1,e2,e3,e4,e5,e6⟩:WB E g E.R q w W8 ((SC (G+1) dM).set 0 ((i:Int),(k:Int)))/\Kq d.heap.size [g] d W8/\a7 W8 w.heap.size 174 #[AS (some ⟨E.m,0,none⟩)]/\a7 W8 (w.heap.size+1) 86 #[T4 (bn E.R) (AS (some ⟨q,0,none⟩))]/\a7 W8 (w.heap.size+1+1) 3 #[Sv Sz i]/\a7 W8 (w.heap.size+1+1+1) 48 #[SE none 0 0]);gi_wp2
    refine⟨trivial,(CallsIn.inRound ll (callsIn_wide.2 hCw.out)).mono ?_⟩;rintro e W9 ⟨rfl,hM9,hs9,k9⟩;have⟨a1,a2,a3,a4,a5,a6⟩:=A3.out;have e1:=a1.walked hE B hM9 hs9 k9;have kR:=a1.kq.kp.1;have nin:∀x,w.heap.size<=x->x∉[E.r,g]:=λx l h=>by
     simp only[T5,Sw,or_false]at h;omega
    have e3:=a3.kq k9 a3.lt (nin _ (Sy _));have e6:=a6.kq k9 a6.lt (nin _ (by omega));have cm:W9.cell? ⟨E.m,4,none⟩=some (SE (some ⟨g,0,none⟩) (G+1) (G+1)):=by rw[<- B.sp];exact e1.mem.blk.cell 4
    have z1:=e3.cell 0;have z6:=e6.cell 0;have zf:=e6.frozen;have m:Kq W9.heap.size [w.heap.size+1+1+1] W9 (W9.setCell ⟨w.heap.size+1+1+1,0,none⟩ (SE (some ⟨g,0,none⟩) (G+1) (G+1))):=(Kq.refl W9).setCell (p:=⟨w.heap.size+1+1+1,0,none⟩) (λ_=>Su.2 rfl) _;have f1:=e1.own (X:=[w.heap.size+1+1+1]) e1.kq.kp.1 λx l=>by rw[Su.1 l];omega m
    have f6:a7 (W9.setCell ⟨w.heap.size+1+1+1,0,none⟩ (SE (some ⟨g,0,none⟩) (G+1) (G+1))) (w.heap.size+1+1+1) 48 #[E.sp]:=by
     rw[B.sp];exact e6.bI 0 (SE (some ⟨g,0,none⟩) (G+1) (G+1))
    have kfin:Kq d.heap.size [E.r,g,w.heap.size+1+1+1] d (W9.setCell ⟨w.heap.size+1+1+1,0,none⟩ (SE (some ⟨g,0,none⟩) (G+1) (G+1))):=((a2.mono (Sy _) λx l _=>by rw[Su.1 l];simp).trans (k9.mono a2.kp.1 λx l _=>by
     simp only[T5,Sw,or_false]at l ⊢;exact l.imp (λh=>h) .inl)).trans (m.mono (T7 a2.kp.1 k9.kp.1) λx l _=>by rw[Su.1 l];simp)
    replace f1:=AI f1;replace f6:=AI f6;replace kfin:=AI kfin;gi_wp2
    exact⟨kfin.out,rfl,hmk.out,f1.out,f6.out⟩
end
section
open Go.RowKit
def Ei:words co=#[Sv SS 0,Sv SS 0,Sv SS 0,Sv SS 0]:=by simp[words,qd]
def Ay{fn p q}(h:fn.results=#[.cell p 101,.tmp q]){tmps b a w v}(g:tmps.getD p undef=AS (some ⟨b,0,none⟩))(f:a7 w b 101 a)(hs:a.size=4)(i:tmps.getD q undef=v):
 (results fn tmps).run PM w=Ti (T0 #[.agg a,v]) w:=by
 have c:∃n e,PM.underlying 101=some (.array n e):=⟨_,_,(congrFun (aK ..) _).trans Tryz.underlying101⟩;have d:(PM.info? 101).map (·.size)=some 4:=by kernel_rfl
 have⟨n,e,c⟩:=c;have:=run_loadVar_row (P:=PM) w b 101 101 a _ _ f c rfl (by rw[d,hs]);simp_all[results,asAddr]
def J3{w g t T V}(h:a7 w g t (words T)):
 a7 ((((w.setCell ⟨g,0,none⟩ (Sv SS (wz V 0))).setCell ⟨g,1,none⟩ (Sv SS (wz V 1))).setCell ⟨g,2,none⟩ (Sv SS (wz V 2))).setCell ⟨g,3,none⟩ (Sv SS (wz V 3))) g t (words V):=by
 have:=(((h.bI 0 (Sv SS (wz V 0))).bI 1 (Sv SS (wz V 1))).bI 2 (Sv SS (wz V 2))).bI 3 (Sv SS (wz V 3));simp_all[words]
def IR{S c}(u:fh S c){w q}(B:Repr w S (T4 (bn c) (AS (some ⟨q,0,none⟩))) c)(A:∀b,S b->b<w.heap.size):
 Calls PM 78 #[T4 (bn c) (AS (some ⟨q,0,none⟩))] w λe w'=>e=SL (T0 #[kL (du co (bj c).1),SK (bj c).2])/\Kq w.heap.size [] w w':=by
 have Q:=ja c ⟨q,0,none⟩;have I:=jL c ⟨q,0,none⟩;have L:=kX c;have⟨t,f,n,g,k⟩:∃W,W=(w.alloc (.cells #[.int .u64 0,.int .u64 0,.int .u64 0,.int .u64 0] 101)).alloc (.cells #[.int .u64 0,.int .u64 0,.int .u64 0,.int .u64 0] 101)/\a7 W w.heap.size 101 (words co)/\a7 W (w.heap.size+1) 101 (words co)/\Kq w.heap.size [] w W:=by
  rw[Ei];refine⟨_,rfl,(a7.new w ..).alloc _,?_,((Kq.refl w).alloc (Sy _) _).alloc (by simp) _⟩;have:=a7.new (w.alloc (SY #[Sv SS 0,Sv SS 0,Sv SS 0,Sv SS 0] 101)) 101 #[Sv SS 0,Sv SS 0,Sv SS 0,Sv SS 0];simpa using this
 have r:=AI (u t q (w.heap.size+1) co (B.keep λb F j=>k.kp.2 b j Sw) λh=>by have:=A _ h;omega g);replace n:=AI n;replace k:=AI k;replace f:=AI f;go_enter PM.func Tryz.func78 (by decide),Tryz.ntmps78
 go_wp2;rw[<- f.out];refine r.out.mono ?_;rintro e y ⟨rfl,g,s⟩;have j:=k.out.kp.1;have z:=AI ((k.out.mono (Sy _) nofun:Kq w.heap.size [] w t).trans (s.mono j λx d h=>by have:=Su.1 d;omega));have a:=n.out.kq s n.out.lt λd=>by have:=Su.1 d;omega
 have⟨V,l⟩:∃V,du co (bj c).1=V:=⟨_,rfl⟩;have⟨x,d⟩:∃x,(bj c).2=x:=⟨_,rfl⟩;rw[l]at g;simp only[d];replace l:=AI l;replace d:=AI d;replace a:=AI a;have M:∀i,y.frozen? ⟨w.heap.size,i,none⟩=false:=a.out.frozen;have N:=eu g (i:=0) (by decide);have H:=eu g (i:=1) (by decide);have G:=eu g (i:=2) (by decide);have K:=eu g (i:=3) (by decide);have D:=eu a.out (i:=0) (by decide);have E:=eu a.out (i:=1) (by decide);have C:=eu a.out (i:=2) (by decide);have P:=eu a.out (i:=3) (by decide);go_wp2;refine bodyPost_ret (Ay (p:=2) (q:=3) (v:=SK x) rfl rfl (J3 (V:=V) a.out) rfl rfl) rfl ⟨by rw[l.out,d.out];rfl,?_⟩;have m:∀i,(⟨w.heap.size,i,none⟩:Addr).block<w.heap.size->(⟨w.heap.size,i,none⟩:Addr).block∈[]:=λi h=>absurd h (TG _)
 exact(((z.out.setCell (m 0) _).setCell (m 1) _).setCell (m 2) _).setCell (m 3) _
def uJ:(PM.info? 54).map (λi=>(i.size,i.zero,i.bytes))=some (2,some (.agg #[Sv Sz 0,Sv Sz 0]),16):=by kernel_rfl
def DO(n):madeCells #[Sv Sz 0,Sv Sz 0] (n*2)=dw (SC n (0,0)):=by
 unfold madeCells dw;induction n with
 |zero=>simp[eY]
 |succ n a=>
  rw[show(n+1)*2=n*2+1+1 from by omega,Array.range_succ,Array.range_succ,TQ,TQ,a,List.replicate_succ'];simp[eY]
def MX(s)(f e G:Nat)(m:G<1000)(w):
 Calls PM 79 #[SU s,Sv Tq f,Sv Tq e,Sv Sz G] w λx b=>x=SL (AS (some ⟨w.heap.size+2,0,none⟩))/\
  a7 b (w.heap.size+2) 218 #[SU s,Sv Tq f,Sv Tq e,.map (some w.heap.size),SE (some ⟨w.heap.size+1,0,none⟩) (G+1) (G+1)]/\b.heap[w.heap.size]?=some (.map #[] 0)/\
  a7 b (w.heap.size+1) 54 (dw (SC (G+1) (0,0)))/\Kq w.heap.size [] w b:=by
 have⟨i,l,c,d,j⟩:∃i,PM.info? 54=some i/\i.size=2/\i.zero=some (.agg #[.int .i64 0,.int .i64 0])/\i.bytes=16:=by
  have:=uJ;rw[Tj]at this;have⟨i,h,a⟩:=this;simp only[Prod.mk.injEq]at a;exact⟨i,h,a.1,a.2.1,a.2.2⟩
 have g:=run_make (P:=PM) (w.alloc (.map #[] 0)) 48 54 i _ ((congrFun (aK ..) _).trans Tryz.underlying48) l d Sz Sz ((G:Int)+1) ((G:Int)+1) (by omega) (by omega) (by rw[j];omega) (by omega);rw[show((G:Int)+1).toNat=G+1 from by omega,c,show(Value.agg #[Sv Sz 0,Sv Sz 0]).cells=#[Sv Sz 0,Sv Sz 0]from rfl,DO,show(w.alloc (.map #[] 0)).heap.size=w.heap.size+1 from by simp]at g;have k:(Instr.makeMap 216 none).run PM w=Ti (.map (some w.heap.size)) (w.alloc (.map #[] 0)):=run_makeMap (P:=PM) _ w;go_enter PM.func Tryz.func79 (by decide),Tryz.ntmps79
 go_wp2;go_ret;refine⟨rfl,?_,?_,?_,(((Kq.refl w).alloc (Sy _) _).alloc (by simp) _).alloc (by simp) _⟩
 .have:=a7.new ((w.alloc (.map #[] 0)).alloc (SY (dw (SC (G+1) (0,0))) 54)) 218 #[SU s,Sv Tq f,Sv Tq e,.map (some w.heap.size),SE (some ⟨w.heap.size+1,0,none⟩) (G+1) (G+1)];simpa using this
 .exact((((Kq.refl (w.alloc (.map #[] 0))).alloc (Sy _) _).alloc (by simp) _).kp.2 w.heap.size (by simp) Sw).trans (by show(w.heap.push _)[w.heap.size]?=_;simp)
 .have:=(a7.new (w.alloc (.map #[] 0)) 54 (dw (SC (G+1) (0,0)))).alloc (SY #[SU s,Sv Tq f,Sv Tq e,.map (some w.heap.size),SE (some ⟨w.heap.size+1,0,none⟩) (G+1) (G+1)] 218);simpa using this
def uT(s:ByteArray)(f e G:Nat)(a:Nd)(S:Nat->Prop)(B:Nat):ME:=⟨⟨s,f,e⟩,a,B+2,B,SE (some ⟨B+1,0,none⟩) (G+1) (G+1),S⟩
def Mm{s}{f e G:Nat}{c S B}(hs:s.size<=300)(t:f<256)(r:e<256)(u:je c G)(p:∀b,S b->b<B):fu (uT s f e G c S B):=by
 have⟨z,x,d⟩:=u.w;refine⟨hs,t,r,be.one c d,λa j=> ?_,λi k l m h=> ?_,λi v h=> ?_,λh=>absurd (p _ h) (TG _),λb h=>T6 (p b h) (Nat.le_add_right ..)⟩<;>first |(have:=λa j=>by have:=be.ids c d a j;omega a j;have q:=p9 (n:=a.id.toNat) (by omega);rwa [show a.id.toNat=a.id from by omega]at q)|(have⟨_,_,_,_,g⟩:=be.sub c d _ h;grind [be])|(have⟨w,y,_,_,g⟩:=be.sub c d _ h;simp[be]at g;have:=bV.le v g.2;omega)
def yI{s}{f e G:Nat}{g S B}(m:je g G):te (uT s f e G g S B):=by
 have⟨n,q,k⟩:=m.w;refine⟨λi a b c d h=> ?_,λi l h=> ?_⟩;have⟨_,_,_,_,j⟩:=be.sub g k _ h;simp_all[be]
 have⟨p,r,_,_,j⟩:=be.sub g k _ h;simp[be]at j;have:=bV.le l j.2;omega
def Ml{s}{f e G:Nat}{a S B}(c:je a G)(d:∀b,S b->b<B):lL (uT s f e G a S B) (B+1) G:=by
 have⟨l,m,g⟩:=c.w;have p:=c.g9;refine⟨rfl,by omega,by show B+1≠B;omega,by show B+1≠B+2;omega,λh=>by have:=d _ h;omega,λi k n h=> ?_⟩;have⟨_,_,_,_,j⟩:=be.sub a g _ h;simp[be]at j;omega
def JQ{s}{f e G:Nat}{c S w w' v}(g:Repr w S v c)(l:∀b,S b->b<w.heap.size)
 (d:a7 w' (w.heap.size+2) 218 #[SU s,Sv Tq f,Sv Tq e,.map (some w.heap.size),SE (some ⟨w.heap.size+1,0,none⟩) (G+1) (G+1)]) (j:w'.heap[w.heap.size]?=some (.map #[] 0)) (i:Kq w.heap.size [] w w'):cI (uT s f e G c S w.heap.size) w':=
 ⟨d,⟨_,_,j,λe h=>by simp at h⟩,v,g.keep λb k a=>i.kp.2 b a Sw⟩
def ci{P g e Q S f b a w}(i d v){j}(hi:e[i]?=some j)(k:j.dst=some d)
 (hs:Region.noSelect e=true) (l:Region.free g e b i=true) (m:(TI g e b).contains i=true) (q:∀c a w,Q (.panic c) (a.put (some d) v) w->Q (.panic c) a w) (n:YieldsIf P e S j v a) (p:S w)
 (h:wpAnyH P g e Q S f (b.setIfInBounds i true) (a.put (some d) v) w):wpAnyH P g e Q S (f+1) b a w:=
 wpAnyH_take hi hs l m (by rw[k];omega) n p (by rw[k];omega)
def jz{P f c Q S d b a w}(i){e}(hi:c[i]?=some e)(m:e.guard=none)(l:TI f c b=[i])
 (h:e.wp P a w (λk g=>S g/\wpAnyH P f c Q S d (b.setIfInBounds i true) k g) Q):wpAnyH P f c Q S (d+1) b a w:=
 wpAnyH_all l (by simp) λj n=>by
  simp_all[U2,wpOp]
def zJ{P o a w K Q}(d)(j:o.dst=some d)(f args)(b:(execOp a.eval o).run P w=Ti (.enter f args) w)(v)(R:SQ->Prop)
 (i:Calls P f args w λe c=>e=SL v/\R c) (h:∀c,R c->K (a.put (some d) v) c):o.wp P a w K Q:=by
 simp[TW,b];refine i.mono λe g k=> ?_
 grind
def LB{P o a w K Q}(d)(e:o.dst=some d)(v b)(c:(execOp a.eval o).run P w=Ti (.value v) b)(h:K (a.put (some d) v) b):o.wp P a w K Q:=by
 simp_all[Oper.upon_value,TW]
def zI{P o a w K Q}(d:o.dst=none)(c)(b:(execOp a.eval o).run P w=Ti .skip c)(h:K a c):o.wp P a w K Q:=by
 simp[TW,b,Oper.upon_skip,d];exact h
def mU(b:Tb)(g:Int)(c:Nat)(d a:Int)(T:cS)(e:Bool):Array Tb:=#[b,Sv Sz g,Sv Tq c,Sv Tn d,Sv .i32 a,Sv Tn 0,Sv SS (wz T 0),Sv SS (wz T 1),Sv SS (wz T 2),Sv SS (wz T 3),SK e]
def Ia{S f}(hC:fh S f){w p x q F tp g d G T e}(C:a7 w p tp #[AS (some ⟨x,0,none⟩)])
 (D:a7 w x 103 (mU (T4 (bn f) (AS (some ⟨q,0,none⟩))) g F d G T e)) (K:Repr w S (T4 (bn f) (AS (some ⟨q,0,none⟩))) f) (hS:∀b,S b->b<w.heap.size) (t:p≠x):
 Calls PM 77 #[AS (some ⟨p,0,none⟩)] w λW c=>W=SL (T0 #[])/\a7 c x 103 (mU (T4 (bn f) (AS (some ⟨q,0,none⟩))) g F d G (du co (bj f).1) (bj f).2)/\Kq w.heap.size [x] w c:=by
 have X:w.cell? ⟨p,0,none⟩=some (AS (some ⟨x,0,none⟩)):=C.cell 0;have c1:w.cell? ⟨x,0,none⟩=some (T4 (bn f) (AS (some ⟨q,0,none⟩))):=D.cell 0;have hF:=AI λR(k:Kq w.heap.size [] w R)=>IR hC (K.keep (w':=R) λb N L=>k.kp.2 b L Sw) λb N=>T6 (hS b N) k.kp.1
 replace C:=AI C;replace D:=AI D;replace K:=AI K;go_enter PM.func Tryz.func77 (by decide),Tryz.ntmps77
 go_wp2;refine wp_region_noPanic ?_;refine wp_region_held_drew (S:=λc=>c.cell? ⟨p,0,none⟩=some (AS (some ⟨x,0,none⟩))/\c.cell? ⟨x,0,none⟩=some (T4 (bn f) (AS (some ⟨q,0,none⟩)))) (by rfl) ⟨X,c1⟩ ?_;intro m;refine ci 0 2 (AS (some ⟨x,0,none⟩)) rfl rfl (by kernel_rfl) (by kernel_rfl) (by kernel_rfl) (λ_ _ _ h=>h) (SG ⟨by rfl,λc a=> ?_⟩) m ?_
 .have⟨r,n⟩:=a;go_simp
 simp only[Sx,zq0];refine ci 1 3 (AS (some ⟨x,0,none⟩)) rfl rfl (by kernel_rfl) (by kernel_rfl) (by kernel_rfl) (λ_ _ _ h=>h) (SG ⟨by rfl,λc a=> ?_⟩) m ?_
 .have⟨r,n⟩:=a;go_simp
 simp only[Sx,zq0];refine ci 2 4 (AS (some ⟨x,0,none⟩)) rfl rfl (by kernel_rfl) (by kernel_rfl) (by kernel_rfl) (λ_ _ _ h=>h) (SG ⟨by rfl,λc a=> ?_⟩) m ?_
 .have⟨r,n⟩:=a;go_simp
 simp only[Sx,zq0];refine ci 3 5 (AS (some ⟨x,0,none⟩)) rfl rfl (by kernel_rfl) (by kernel_rfl) (by kernel_rfl) (λ_ _ _ h=>h) (SG ⟨by rfl,λc a=> ?_⟩) m ?_
 .have⟨r,n⟩:=a;go_simp
 simp only[Sx,zq0];refine ci 4 6 (AS (some ⟨x,0,none⟩)) rfl rfl (by kernel_rfl) (by kernel_rfl) (by kernel_rfl) (λ_ _ _ h=>h) (SG ⟨by rfl,λc a=> ?_⟩) m ?_
 .have⟨r,n⟩:=a;go_simp
 simp only[Sx,zq0];refine ci 5 7 (T4 (bn f) (AS (some ⟨q,0,none⟩))) rfl rfl (by kernel_rfl) (by kernel_rfl) (by kernel_rfl) (λ_ _ _ h=>h) (SG ⟨by rfl,λc a=> ?_⟩) m ?_
 .have⟨r,n⟩:=a;go_simp
 simp only[Sx,zq0];refine jz 6 rfl rfl (by kernel_rfl) ?_;refine zJ 8 rfl 78 #[T4 (bn f) (AS (some ⟨q,0,none⟩))] (by go_simp) _ (λc=>Kq w.heap.size [] w c) ((hF.out w.drew (Kq.refl w).drew).mono λW c h=>⟨h.1,(((Kq.refl w).drew).trans h.2:Kq w.heap.size [] w c)⟩) ?_;intro u H;have B:=C.out.kq H C.out.lt Sw;have i:=D.out.kq H D.out.lt Sw;have l:u.cell? ⟨p,0,none⟩=some (AS (some ⟨x,0,none⟩))/\u.cell? ⟨x,0,none⟩=some (T4 (bn f) (AS (some ⟨q,0,none⟩))):=⟨B.cell 0,i.cell 0⟩;refine⟨l,?_⟩;have⟨V,P⟩:∃V,du co (bj f).1=V:=⟨_,rfl⟩;have⟨z,M⟩:∃z,(bj f).2=z:=⟨_,rfl⟩;simp only[P,M];unfold kL;simp only[Sx,zq0];refine ci 7 1 (T0 #[.agg #[Sv SS (wz V 0),Sv SS (wz V 1),Sv SS (wz V 2),Sv SS (wz V 3)],SK z]) rfl rfl (by kernel_rfl) (by kernel_rfl) (by kernel_rfl) (λ_ _ _ h=>h) (SG ⟨by rfl,λc a=> ?_⟩) l ?_
 .have⟨r,n⟩:=a;go_simp
 simp only[Sx,zq0];refine ci 8 9 (.agg #[Sv SS (wz V 0),Sv SS (wz V 1),Sv SS (wz V 2),Sv SS (wz V 3)]) rfl rfl (by kernel_rfl) (by kernel_rfl) (by kernel_rfl) (λ_ _ _ h=>h) (SG ⟨by rfl,λc a=> ?_⟩) l ?_
 .have⟨r,n⟩:=a;go_simp
 simp only[Sx,zq0];refine ci 9 10 (SK z) rfl rfl (by kernel_rfl) (by kernel_rfl) (by kernel_rfl) (λ_ _ _ h=>h) (SG ⟨by rfl,λc a=> ?_⟩) l ?_
 .have⟨r,n⟩:=a;go_simp
 simp only[Sx,zq0];refine ci 10 11 (AS (some ⟨x,0,none⟩)) rfl rfl (by kernel_rfl) (by kernel_rfl) (by kernel_rfl) (λ_ _ _ h=>h) (SG ⟨by rfl,λc a=> ?_⟩) l ?_
 .have⟨r,n⟩:=a;go_simp
 simp only[Sx,zq0];refine ci 11 12 (AS (some ⟨x,6,none⟩)) rfl rfl (by kernel_rfl) (by kernel_rfl) (by kernel_rfl) (λ_ _ _ h=>h) (SG ⟨by rfl,λc a=> ?_⟩) l ?_
 .have⟨r,n⟩:=a;go_simp
 simp only[Sx,zq0];have fz:∀j,u.frozen? ⟨x,j,none⟩=false:=i.frozen;have x6:=i.cell 6;have x7:=i.cell 7;have Z:=i.cell 8;have x9:=i.cell 9;simp only[mU,TF,Ty,Tx]at x6 x7 Z x9;refine jz 12 rfl rfl (by kernel_rfl) ?_;refine zI rfl ((((u.setCell ⟨x,6,none⟩ (Sv SS (wz V 0))).setCell ⟨x,7,none⟩ (Sv SS (wz V 1))).setCell ⟨x,8,none⟩ (Sv SS (wz V 2))).setCell ⟨x,9,none⟩ (Sv SS (wz V 3))) ?_ ?_
 .go_simp
 have s:a7 ((((u.setCell ⟨x,6,none⟩ (Sv SS (wz V 0))).setCell ⟨x,7,none⟩ (Sv SS (wz V 1))).setCell ⟨x,8,none⟩ (Sv SS (wz V 2))).setCell ⟨x,9,none⟩ (Sv SS (wz V 3))) x 103 (mU (T4 (bn f) (AS (some ⟨q,0,none⟩))) g F d G V e):=(((i.bI 6 (Sv SS (wz V 0))).bI 7 (Sv SS (wz V 1))).bI 8 (Sv SS (wz V 2))).bI 9 (Sv SS (wz V 3));have y:=(((B.far (p:=⟨x,6,none⟩) (by exact t) (Sv SS (wz V 0))).far (p:=⟨x,7,none⟩) (by exact t) (Sv SS (wz V 1))).far (p:=⟨x,8,none⟩) (by exact t) (Sv SS (wz V 2))).far (p:=⟨x,9,none⟩) (by exact t) (Sv SS (wz V 3));have Q:Kq w.heap.size [x] w ((((u.setCell ⟨x,6,none⟩ (Sv SS (wz V 0))).setCell ⟨x,7,none⟩ (Sv SS (wz V 1))).setCell ⟨x,8,none⟩ (Sv SS (wz V 2))).setCell ⟨x,9,none⟩ (Sv SS (wz V 3))):=
  ((((H.mono (Sy _) nofun:Kq w.heap.size [x] w u).setCell (p:=⟨x,6,none⟩) (λ_=>Su.2 rfl) _).setCell (p:=⟨x,7,none⟩) (λ_=>Su.2 rfl) _).setCell (p:=⟨x,8,none⟩) (λ_=>Su.2 rfl) _).setCell (p:=⟨x,9,none⟩) (λ_=>Su.2 rfl) _
 generalize (((u.setCell ⟨x,6,none⟩ (Sv SS (wz V 0))).setCell ⟨x,7,none⟩ (Sv SS (wz V 1))).setCell ⟨x,8,none⟩ (Sv SS (wz V 2))).setCell ⟨x,9,none⟩ (Sv SS (wz V 3))=E at s y Q ⊢;have v:E.cell? ⟨p,0,none⟩=some (AS (some ⟨x,0,none⟩))/\E.cell? ⟨x,0,none⟩=some (T4 (bn f) (AS (some ⟨q,0,none⟩))):=⟨y.cell 0,s.cell 0⟩;refine⟨v,?_⟩;refine ci 13 13 (AS (some ⟨x,0,none⟩)) rfl rfl (by kernel_rfl) (by kernel_rfl) (by kernel_rfl) (λ_ _ _ h=>h) (SG ⟨by rfl,λc a=> ?_⟩) v ?_
 .have⟨r,n⟩:=a;go_simp
 simp only[Sx,zq0];refine ci 14 14 (AS (some ⟨x,10,none⟩)) rfl rfl (by kernel_rfl) (by kernel_rfl) (by kernel_rfl) (λ_ _ _ h=>h) (SG ⟨by rfl,λc a=> ?_⟩) v ?_
 .have⟨r,n⟩:=a;go_simp
 simp only[Sx,zq0];have I:=s.cell 10;have fz4:∀j,E.frozen? ⟨x,j,none⟩=false:=s.frozen;simp only[mU,TF,Ty,Tx]at I;refine jz 15 rfl rfl (by kernel_rfl) ?_;refine zI rfl (E.setCell ⟨x,10,none⟩ (SK z)) ?_ ?_
 .go_simp
 have A:a7 (E.setCell ⟨x,10,none⟩ (SK z)) x 103 (mU (T4 (bn f) (AS (some ⟨q,0,none⟩))) g F d G V z):=s.bI 10 (SK z);refine⟨⟨(y.far (p:=⟨x,10,none⟩) (by exact t) (SK z)).cell 0,A.cell 0⟩,?_⟩;refine wpAnyH_done (by kernel_rfl) ?_ _;refine TX ?_;exact bodyPost_end (results_none rfl ..) rfl ⟨rfl,by rw[P,M];exact A,Q.setCell (p:=⟨x,10,none⟩) (λ_=>Su.2 rfl) _⟩
end
section
open Go.RowKit Go.Conc
attribute [local instance] fI
def GP{a n w}(b:w.cell? a=some (Sv Tn n)):(callFunc 127 #[AS (some a)]).run PH w=Ti (.value (Sv Tn n)) w:=
 run_call_load (PH.func Tryz.func127 (by decide)) (by kernel_rfl) (by kernel_rfl) (by kernel_rfl) Tn wU b
def GO{a n u w}(c:w.cell? a=some u)(b:w.frozen? a=false):(callFunc 156 #[AS (some a),Sv Tn n]).run PH w=Ti (.value (T0 #[])) (w.setCell a (Sv Tn n)):=
 run_call_store (PH.func Tryz.func156 (by decide)) (by kernel_rfl) (by kernel_rfl) (by kernel_rfl) wT c b
def yE{x j b w}(c:w.cell? ⟨x,j,none⟩=some (Sv Tn (if b then 1 else 0))):Calls PH 108 #[AS (some ⟨x,j,none⟩)] w λe a=>e=SL (SK b)/\a=w:=by
 have d:=GP c;cases b;all_goals
  go_enter PH.func Tryz.func108 (by decide),Tryz.ntmps108
  go_wp2;go_ret;simp
def MO(w):Calls PH 157 #[SK true] w λe a=>e=SL (Sv Tn 1)/\a=w:=by
 go_enter PH.func Tryz.func157 (by decide),Tryz.ntmps157
 go_wp2;go_ret;simp
section
variable{h0:Array Obj}{w:SQ}{x j:Nat}
def JO{u}(l:w.cell? ⟨x,j,none⟩=some u)(f:w.frozen? ⟨x,j,none⟩=false):
 tR (br ek h0) 130 #[AS (some ⟨x,j,none⟩),SK true] w λb=>jw b (w.setCell ⟨x,j,none⟩ (Sv Tn 1)):=by
 refine rV (bP (by decide)) (PH.func Tryz.func130 (by decide)) rfl rfl ?_;simp only[Tryz.ntmps130,SV,SH,SZ,T9,T8,SO,SN,SW,SR,SP,SF];refine bm λe d=> ?_
 have k:=(d.cell _).trans l;have i:=(d.frozen _).trans f;refine wp_region_noPanic ?_;refine wp_region_held_drew (S:=λ_=>True) (by rfl) trivial ?_;intro a;refine ci 0 4 (AS (some ⟨x,j,none⟩)) rfl rfl (by kernel_rfl) (by kernel_rfl) (by kernel_rfl) (λ_ _ _ h=>h) (SG ⟨by rfl,λb c=> ?_⟩) a ?_
 .go_simp
 simp only[Sx,zq0];refine ci 1 5 (AS (some ⟨x,j,none⟩)) rfl rfl (by kernel_rfl) (by kernel_rfl) (by kernel_rfl) (λ_ _ _ h=>h) (SG ⟨by rfl,λb c=> ?_⟩) a ?_
 .go_simp
 simp only[Sx,zq0];refine ci 2 6 (AS (some ⟨x,j,none⟩)) rfl rfl (by kernel_rfl) (by kernel_rfl) (by kernel_rfl) (λ_ _ _ h=>h) (SG ⟨by rfl,λb c=> ?_⟩) a ?_
 .go_simp
 simp only[Sx,zq0];refine ci 3 7 (SK true) rfl rfl (by kernel_rfl) (by kernel_rfl) (by kernel_rfl) (λ_ _ _ h=>h) (SG ⟨by rfl,λb c=> ?_⟩) a ?_
 .go_simp
 simp only[Sx,zq0];refine jz 4 rfl rfl (by kernel_rfl) ?_;refine zJ 8 rfl 157 #[SK true] (by go_simp) _ (λb=>b=e.drew) (MO _) ?_;rintro _ rfl;refine⟨trivial,?_⟩;simp only[Sx,zq0];refine jz 5 rfl rfl (by kernel_rfl) ?_;have g:=GO (n:=1) (w:=e.drew) k i;refine LB 9 rfl (T0 #[]) (e.drew.setCell ⟨x,j,none⟩ (Sv Tn 1)) ?_ ?_
 .go_simp
 refine⟨trivial,?_⟩;refine wpAnyH_done (by kernel_rfl) ?_ _;refine TX ?_;exact⟨.inl rfl,rfl,(⟨d.heap,d.os,d.out⟩:jw e.drew w).set ⟨x,j,none⟩ (Sv Tn 1)⟩
end
def jw.kq{w w' B X}(h:jw w' w):Kq B X w w':=⟨⟨by simp[h.heap],λb _ _=>by rw[h.heap]⟩,h.os,h.out⟩
def La{w x c b g d f T e}(h:a7 w x 103 (mU b g c d f T e))(a):a7 (w.setCell ⟨x,4,none⟩ (Sv .i32 a)) x 103 (mU b g c d a T e):=h.bI 4 (Sv .i32 a)
def OI{w x c b g d f T e}(h:a7 w x 103 (mU b g c d f T e))(a):a7 (w.setCell ⟨x,3,none⟩ (Sv Tn a)) x 103 (mU b g c a f T e):=h.bI 3 (Sv Tn a)
def Kt{h0 S k}(hC:fh S k){w p x q fl tp g T e}(D:a7 w p tp #[AS (some ⟨x,0,none⟩)])
 (l:a7 w x 103 (mU (T4 (bn k) (AS (some ⟨q,0,none⟩))) g fl 0 0 T e)) (hR:Repr w S (T4 (bn k) (AS (some ⟨q,0,none⟩))) k) (hS:∀b,S b->b<w.heap.size/\b≠x) (s:p≠x):
 cb (br ek h0) 109 #[AS (some ⟨x,3,none⟩),.func (.func 77) #[] #[AS (some ⟨p,0,none⟩)]] w λE w'=>E=SL (T0 #[])/\a7 w' x 103 (mU (T4 (bn k) (AS (some ⟨q,0,none⟩))) g fl 1 0 (du co (bj k).1) (bj k).2)/\Kq w.heap.size [x] w w':=by
 refine vl (bP (by decide)) (PH.func Tryz.func109 (by decide)) rfl rfl ?_;simp only[Tryz.ntmps109,SV,SH,SZ,T9,T8,SO,SN,SW,SR,SP,SF];refine ac λK m=> ?_
 refine ao ?_;show aV _ _ _ (SD 0 (3+1)) ..;refine bq 0 3 1 (λN hN I e1=> ?_) (by decide);simp only[zq1];have k1:Kq w.heap.size [x] w I:=e1.kq;have z:=l.kq (e1.kq (B:=w.heap.size) (X:=[])) l.lt Sw;have t:=AI (⟨k1,z⟩:_/\_);have z3:I.cell? ⟨x,3,none⟩=some (Sv Tn 0):=z.cell 3;replace l:=AI l;replace D:=AI D;replace hR:=AI hR;go_wp2;refine hN.out _ _ ?_;refine f9 (f:=128) (i:=3) (rest:=SD 4 0) rfl rfl λu=>by simp[go_sem] (bP (by decide)) (Mo (t.out.2.cell 4) (t.out.2.frozen 4)) (λv M H=> ?_) λch M H=>nomatch H.1
 have⟨hv,e2⟩:=H;cases hv;have hx2:=(La t.out.2 1).kq (e2.kq (B:=I.heap.size) (X:=[])) t.out.2.lt Sw;have k2:Kq w.heap.size [x] w M:=(t.out.1.setCell (p:=⟨x,4,none⟩) (λ_=>Su.2 rfl) (Sv .i32 1)).trans e2.kq;have G:=AI (⟨k2,hx2⟩:_/\_);simp only[Sx,zq0];refine az (m.out _ _ ?_);refine bm λA e3=> ?_
 have C:Kq w.heap.size [x] w A:=G.out.1.trans e3.kq;have n:=G.out.2.kq (e3.kq (B:=M.heap.size) (X:=[])) G.out.2.lt Sw;have y:∀b,b≠x->b∉[x]:=λb h l=>h (Su.1 l)
 have P:=D.out.kq C D.out.lt (y _ s);have L:=hR.out.keep (w':=A) λb hb R=>C.kp.2 b R (y _ (hS b hb).2)
 have r:w.heap.size<=A.heap.size:=C.kp.1;have hL:=yE (b:=false) (x:=x) (j:=3) (w:=A) (n.cell 3);have hF:=AI (Ia hC P n L (λb hb=>T6 (hS b hb).1 r) s);have A3:=AI C;go_wp2;refine hL.mono ?_;rintro E w4 ⟨rfl,rfl⟩;go_wp2;refine hF.out.mono ?_;rintro E w5 ⟨rfl,a,k5⟩;have F:Kq w.heap.size [x] w w5:=A3.out.trans (k5.mono A3.out.kp.1 λ_ h _=>h);replace a:=AI a;go_wp2;refine⟨_,_,_,_,rfl,λu=>by simp[go_sem],bP (by decide),λc Z K W hm m=>JO (a.out.cell 3) (a.out.frozen 3) c Z K W hm λQ e6=>m Q ?_⟩;have d:=(OI a.out 1).kq (e6.kq (B:=w5.heap.size) (X:=[])) a.out.lt Sw;have k6:Kq w.heap.size [x] w Q:=(F.setCell (p:=⟨x,3,none⟩) (λ_=>Su.2 rfl) (Sv Tn 1)).trans e6.kq;refine⟨_,_,_,_,rfl,λu=>by simp[go_sem],bP (by decide),λc Z K W hm m=>Hm (d.cell 4) (d.frozen 4) c Z K W hm λw7 e7=>m w7 ?_⟩;exact⟨(La d 0).kq (e7.kq (B:=Q.heap.size) (X:=[])) d.lt Sw,(k6.setCell (p:=⟨x,4,none⟩) (λ_=>Su.2 rfl) (Sv .i32 0)).trans e7.kq⟩
structure kh(w:SQ)(x q fl:Nat)(g:Int)(nd:Nd)(S:Nat->Prop)(dn:Bool)(T:cS)(e:Bool):Prop where
 blk:a7 w x 103 (mU (T4 (bn nd) (AS (some ⟨q,0,none⟩))) g fl (if dn then 1 else 0) 0 T e)
 rep:Repr w S (T4 (bn nd) (AS (some ⟨q,0,none⟩))) nd
 low:∀b,S b->b<w.heap.size/\b≠x
 had:dn=true->T=du co (bj nd).1/\e=(bj nd).2
def kh.kq{w w' x q i g d S f T e}(h:kh w x q i g d S f T e)(k:Kq w.heap.size [] w w'):kh w' x q i g d S f T e:=
 ⟨h.blk.kq k h.blk.lt Sw,h.rep.keep λb a c=>k.kp.2 b c Sw,λb a=>⟨T6 (h.low b a).1 k.kp.1,(h.low b a).2⟩,h.had⟩
def PX{h0 S k}(R:fh S k){w p x q G W g D T e}(m:a7 w p W #[AS (some ⟨x,0,none⟩)])
 (d:kh w x q G g k S D T e) (r:p≠x):
 cb (br ek h0) 76 #[AS (some ⟨x,3,none⟩),.func (.func 77) #[] #[AS (some ⟨p,0,none⟩)]] w λy z=>y=SL (T0 #[])/\kh z x q G g k S true (du co (bj k).1) (bj k).2/\Kq w.heap.size [x] w z:=by
 refine bu (bP (by decide)) (λz h=>nomatch h.1) (PH.func Tryz.func76 (by decide)) rfl ?_;simp only[Tryz.ntmps76,SV,SH,SZ,T9,T8,SO,SN,SW,SR,SP,SF];refine ac λK H=> ?_
 refine bm λP c=> ?_
 have I:=yE (b:=D) (x:=x) (j:=3) (w:=P) ((c.cell _).trans (d.blk.cell 3));replace c:=AI c;replace d:=AI d;replace m:=AI m;cases D
 .go_wp2;refine I.mono ?_;rintro y M ⟨rfl,rfl⟩;go_wp2;refine H.out _ _ ?_;refine bG rfl ?_;refine ao ?_;show aV _ _ _ (SD 0 (2+1)) ..;refine bq 0 2 1 (λN Q w2 l=> ?_) (by decide);simp only[zq1];replace l:=AI (l.trans c.out);go_wp2;refine Q.out _ _ ?_;have C:=l.out.kq (B:=w.heap.size) (X:=[]);have a:=d.out.kq C;refine f9 (f:=109) (i:=2) (rest:=SD 3 0) rfl rfl λu=>by simp[go_sem] (bP (by decide)) (Kt R (m.out.kq C m.out.lt Sw) a.blk a.rep a.low r) (λv L A=> ?_) λch L A=>nomatch A.1
  have⟨Z,h3,t⟩:=A;cases Z;have s:=C.kp.1;have F:Kq w.heap.size [x] w L:=(l.out.kq).trans (t.mono s λ_ h _=>h);refine az ⟨rfl,_,results_none rfl ..,rfl,⟨h3,a.rep.keep λb n E=>t.kp.2 b E λh=>(a.low b n).2 (Su.1 h),λb n=>⟨T6 (a.low b n).1 t.kp.1,(a.low b n).2⟩,λ_=>⟨rfl,rfl⟩⟩,F⟩
 .go_wp2;refine I.mono ?_;rintro y M ⟨rfl,rfl⟩;go_wp2;refine H.out _ _ ?_;refine bK rfl ?_;refine fS ?_;have⟨rfl,rfl⟩:=d.out.had rfl;exact⟨rfl,_,results_none rfl ..,rfl,d.out.kq c.out.kq,c.out.kq⟩
end
def or_bit{a b j:Nat}:(a|||b).testBit j=true↔a.testBit j=true\/b.testBit j=true:=by rw[TD,Ts]
def LS{M k a i j}:(dL M (k::a) i).testBit j=true↔∃c,c<320/\(bv M k i).testBit c=true/\(dL M a c).testBit j=true:=by rw[dL,pd]
def Qa{M k a i j}:(iK M (k::a) i).testBit j=true↔(bv M k i).testBit j=true\/(iK M a i).testBit j=true:=by rw[iK,or_bit]
def Q0{g l m f a i j}:(pU g l m (f+1) a i).testBit j=true↔l<=a/\i=j\/(a:Int)≠m/\∃c,c<320/\(g i).testBit c=true/\(i<c\/(a:Int)<l)/\(pU g l m f (bS l m a) c).testBit j=true:=by
 rw[pU,or_bit];refine or_congr ?_ ?_;grind [tN]
 split;next h=>simp[h]
 next h=>
 rw[pd];grind
section
section
variable{M:MT}
def gU(G:Int)(i j:Nat)(a:Notes):Prop:=∀x∈a,0<x.1/\x.1<=G/\i<=x.2.1/\x.2.1<=x.2.2/\x.2.2<=j
def gU.nil{G i j}:gU G i j []:=λ_ h=>nomatch h
def gU.app{G i c j a b}(f:gU G i c a)(e:gU G c j b)(k:i<=c)(g:c<=j):gU G i j (a++b):=λx d=>by
 rcases List.mem_append.1 d with h|h
 have:=f x h;omega;have:=e x h;omega
def uE{G k l m h j}(d:∀i c,i<=M.s.size->(bv M k i).testBit c=true->gU G i c (h i c)):
 ∀f b i,i<=M.s.size->gU G i j (jJ M k l m h j f b i)
 |0,_,_,_=>.nil
 |f+1,b,i,e=>by
  rw[jJ];split;split
  .next c n=>
   rw[j4]at n;have⟨r,q,p,_⟩:=n;rw[Tp]at p;have g:=bZ M k i e c q;exact(d i c e q).app (uE d f _ c g.2) g.1 (vz (l:=l) (m:=m) (λi e=>bZ M k i e) _ _ c g.2 j p.2).1
  .exact uE d f _ i e
  exact .nil
mutual
def walk_in{G lo hi}:∀r,be G lo hi r->∀i j,i<=M.s.size->(bv M r i).testBit j=true->gU G i j (de M r i j)
 | .set ..,_,_,_,_,_=>by rw[de];exact .nil
 | .edge ..,_,_,_,_,_=>.nil
 | .seq _ e,f,i,j,hi,h=>zS e f.2 i j hi h
 | .alt _ e,f,i,j,hi,h=>zT e f.2 i j hi
 | .grp _ k z,f,i,j,hi,h=>by
  intro x s;rcases T5.1 s with rfl|s
  exact⟨f.2.1,f.2.2.1,Sy _,(bZ M k i hi j h).1,Sy _⟩;exact walk_in k f.2.2.2 i j hi h x s
 | .rep _ k l m,f,i,j,hi,h=>uE (λi c hi w=>walk_in k f.2.2.2.2 i c hi w) _ 0 i hi
def zS{G lo hi:Int}:∀(e:List Nd),bV G lo hi e->∀i j,i<=M.s.size->(dL M e i).testBit j=true->gU G i j (jI M e i j)
 |[],_,_,_,_,_=>.nil
 |k::e,f,i,j,hi,h=>by
  have⟨v,g,n⟩:=f;rw[jI];split
  .next c p=>
   rw[j4]at p;have⟨y,t,u,_⟩:=p;have q:=bZ M k i hi c t;exact(walk_in k g i c hi t).app (zS e n c j q.2 u) q.1 (qH M e c q.2 j u).1
  .next p=>
   rw[oX]at p;have⟨c,y,t,u⟩:=LS.1 h<;>grind
def zT{G lo hi:Int}:∀(e:List Nd),bV G lo hi e->∀i j,i<=M.s.size->gU G i j (oq M e i j)
 |[],_,_,_,_=>.nil
 |k::e,f,i,j,hi=>by
  have⟨v,g,n⟩:=f;rw[oq];split;next h=>exact walk_in k g i j hi h
  exact zT e n i j hi
end
def Du(g:Nat)(a):(∀x∈a,x.1≠(g:Int))/\nn a g=(-1,-1)\/∃x∈a,x.1=(g:Int)/\nn a g=((x.2.1:Int),(x.2.2:Int)):=by
 unfold nn;generalize (-1,-1)=u;induction a generalizing u<;>grind
def Je{c}{G:Nat}{lo d}(k:be G lo d c)(i:0<=lo){b j}(l:b<=M.s.size)(h:(bv M c b).testBit j=true):
 nn (((0:Int),b,j)::de M c b j) 0=((b:Int),(j:Int))/\∀g,0<g->nn (((0:Int),b,j)::de M c b j) g=(-1,-1)\/∃x y,b<=x/\x<=y/\y<=j/\nn (((0:Int),b,j)::de M c b j) g=((x:Int),(y:Int)):=by
 have f:=walk_in c k b j l h;constructor;rcases Du 0 ((0,b,j)::de M c b j)with⟨a,_⟩|⟨x,a,m,e⟩<;>first |exact absurd rfl (a _ Tt)|(rw[e];rcases T5.1 a with rfl|a<;>first |rfl|(have:=f x a;omega))
 intro g n;rcases Du g ((0,b,j)::de M c b j)with⟨_,a⟩|⟨x,a,m,e⟩<;>first |exact .inl a|(refine .inr ⟨x.2.1,x.2.2,?_⟩;rcases T5.1 a with rfl|a<;>first |omega |(have:=f x a;grind))
end
end
section
open Go.RowKit Go.Conc
attribute [local instance] fI
theorem yF(g:Nat):∀b L c,(∀n∈b,0<=n.1)->(dH b L)[g]?=some (b.foldl (λx n=>if n.1=(g:Int)then((n.2.1:Int),(n.2.2:Int))else x) L[g])
 |[],L,c,_=>by simp[dH]
 |n::b,L,c,h=>by
  have:=yF g b (L.set n.1.toNat (n.2.1,n.2.2)) (by simpa using c) λm d=>h m (Tr _ d)
  refine(show _=_ from this).trans ?_;grind
def Fa{a G}(h:∀n∈a,0<=n.1):dH a (SC (G+1) dM)=(Tv (G+1)).map (nn a):=by
 apply List.ext_getElem?;grind [yF,nn,oZ]
def J1{w x c b g d a T e}(h:a7 w x 103 (mU b g c d a T e)):w.cell? ⟨x,6,none⟩=some (Sv SS (wz T 0))/\w.cell? ⟨x,7,none⟩=some (Sv SS (wz T 1))/\w.cell? ⟨x,8,none⟩=some (Sv SS (wz T 2))/\w.cell? ⟨x,9,none⟩=some (Sv SS (wz T 3)):=⟨h.cell 6,h.cell 7,h.cell 8,h.cell 9⟩
def P0(b:SQ)(a:Nat)(G:Nat)(v:Tb):Option (List (Int×Int))->Prop
 |none=>v=SE none 0 0
 |some L=>∃g,a<=g/\v=SE (some ⟨g,0,none⟩) (G+1) (G+1)/\a7 b g 54 (dw L)
structure za(E:ME)(w:SQ)(x q fl:Nat)(g:Int)(nd:Nd)(S:Nat->Prop)(B G p:Nat)(wr:SQ):Prop where
 mem:cI E wr
 rx:kh wr x q fl g nd S true (du co (bj nd).1) (bj nd).2
 sp:∃L:Sp,L.length=G+1/\a7 wr (B+1) 54 (dw L)
 box:a7 wr p 22 #[AS (some ⟨x,0,none⟩)]
 kq:Kq w.heap.size [x] w wr
def za.NE{E w d u x q i B G p g j S}(h:za E w x q i g j S B G p d){X}(k:Kq d.heap.size X d u)(hX:∀b∈X,B<=b)(e:x<B)(l:p<B)(n:∀b,S b->b<B)(m:w.heap.size<=B)
 (r:cI E u) (hs:∃L,L.length=G+1/\a7 u (B+1) 54 (dw L)):za E w x q i g j S B G p u:=by
 have f:∀b,b<B->b∉X:=λb a e=>by have:=hX b e;omega
 exact⟨r,⟨h.rx.blk.kq k h.rx.blk.lt (f _ e),h.rx.rep.keep λb a c=>k.kp.2 b c (f _ (n b a)),λb a=>⟨T6 (h.rx.low b a).1 k.kp.1,(h.rx.low b a).2⟩,h.rx.had⟩,hs,h.box.kq k h.box.lt (f _ l),
  h.kq.trans (k.mono h.kq.kp.1 λb a c=>by have:=hX b a;omega)⟩
def za.Hv{E w c u x q d B G p g e S}(h:za E w x q d g e S B G p c)(k:Kq c.heap.size [] c u)(n:x<B)(i:p<B)(m:∀b,S b->b<B)(a:w.heap.size<=B):za E w x q d g e S B G p u:=by
 have⟨L,j,f⟩:=h.sp;exact h.NE k (λb l=>nomatch l) n i m a (h.mem.kq k) ⟨L,j,f.kq k f.lt Sw⟩
def HZ{h0 S d w}{x q A ev G:Nat}{dn T e}{s:ByteArray}{i}(hx:kh w x q A G d S dn T e)(hT:je d G)(hs:s.size<=300)(hfl:A<256)(hev:ev<256)(hi:i<=s.size):
 cb (br ek h0) 50 #[AS (some ⟨x,0,none⟩),SU s,Sv Tq ev,Sv Sz i] w λe' w'=>∃v,e'=SL v/\P0 w' w.heap.size G v (fj ⟨s,A,ev⟩ d G (s.size+1-i) i)/\kh w' x q A G d S true (du co (bj d).1) (bj d).2/\Kq w.heap.size [x] w w':=by
 have hC:fh S d:=first_any (E:=uT s A ev G d S 0) (yI hT) (λi k l m h=>by
  obtain⟨hi,hh,hw⟩:=hT.w;obtain⟨_,_,_,_,hn⟩:=be.sub d hw _ h;simp only[be]at hn;have:=p9 (n:=l.toNat) (by omega);rwa [show((l.toNat:Nat):Int)=l from by omega]at this) (λi ks h=>by
  obtain⟨hi,hh,hw⟩:=hT.w;obtain⟨lo,h',_,_,hn⟩:=be.sub d hw _ h;simp only[be]at hn;have:=bV.le ks hn.2;have:=be.ids d hw _ h;simp only[Nd.id]at this;omega) d λa h=>h
 refine bu (bP (by decide)) (λw' ⟨v,h,_⟩=>nomatch h) (PH.func Tryz.func50 (by decide)) rfl ?_;simp only[Tryz.ntmps50,SV,SH,SZ,T9,T8,SO,SN,SW,SR,SP,SF];refine ac λK hK=> ?_
 refine bm λw1 e1=> ?_
 replace e1:=AI e1;replace hx:=AI hx;go_wp2;refine hK.out _ _ ?_;obtain⟨p,hp⟩:∃p,p=w1.heap.size:=⟨_,rfl⟩;have hpw:p=w.heap.size:=by rw[hp,e1.out.heap]
 have hkW:Kq w1.heap.size [] w1 (w1.alloc (SY #[AS (some ⟨x,0,none⟩)] 22)):=(Kq.refl w1).alloc (Sy _) _;have hx1:=(hx.out.kq e1.out.kq).kq hkW;have hb1:a7 (w1.alloc (SY #[AS (some ⟨x,0,none⟩)] 22)) p 22 #[AS (some ⟨x,0,none⟩)]:=hp▸a7.new w1 ..;have hk1:Kq w.heap.size [x] w (w1.alloc (SY #[AS (some ⟨x,0,none⟩)] 22)):=(e1.out.kq).alloc (by rw[hpw.symm.trans hp];exact Sy _) _;rw[<- hp];generalize w1.alloc (SY #[AS (some ⟨x,0,none⟩)] 22)=W at *;have hpx:p≠x:=by have:=hx.out.blk.lt;omega
 replace hpw:=AI hpw;clear hkW hx e1 hp;refine ac λK hK=> ?_
 refine ao ?_;show aV _ _ _ (SD 0 (4+1)) ..;refine bq 0 4 1 (λN hN w2 e2=> ?_) (by decide);simp only[zq1];have hx2:=hx1.kq e2.kq;have hb2:=hb1.kq (e2.kq (B:=W.heap.size) (X:=[])) hb1.lt Sw;have hk2:Kq w.heap.size [x] w w2:=hk1.trans e2.kq;have v0:w2.cell? ⟨p,0,none⟩=some (AS (some ⟨x,0,none⟩)):=hb2.cell 0;have A2:=AI (⟨hx2,hb2,hk2⟩:_/\_/\_);go_wp2;refine hN.out _ _ ?_;refine f9 (f:=76) (i:=4) (rest:=SD 5 0) rfl rfl λu=>by simp[go_sem] (bP (by decide)) (PX hC A2.out.2.1 A2.out.1 hpx) (λv w3 hr=> ?_) λch w3 hr=>nomatch hr.1
 obtain⟨R,hx3,k3⟩:=hr;cases R;have hb3:=A2.out.2.1.kq k3 A2.out.2.1.lt λh=>hpx (Su.1 h)
 have hk3:Kq w.heap.size [x] w w3:=A2.out.2.2.trans (k3.mono A2.out.2.2.kp.1 λ_ h _=>h);have A3:=AI (⟨hx3,hb3,hk3⟩:_/\_/\_);simp only[SM,SJ,SI];simp only[Sx,zq0];refine az (hK.out _ _ ?_);refine bm λF e4=> ?_
 have hx4:=A3.out.1.kq e4.kq;have hb4:=A3.out.2.1.kq (e4.kq (B:=w3.heap.size) (X:=[])) A3.out.2.1.lt Sw;have hk4:Kq w.heap.size [x] w F:=A3.out.2.2.trans e4.kq;have v0:F.cell? ⟨p,0,none⟩=some (AS (some ⟨x,0,none⟩)):=hb4.cell 0;have v1:F.cell? ⟨x,1,none⟩=some (Sv Sz G):=hx4.blk.cell 1;have v2:F.cell? ⟨x,2,none⟩=some (Sv Tq A):=hx4.blk.cell 2;have A4:=AI (⟨hx4,hb4,hk4⟩:_/\_/\_);have hN:=AI (MX s A ev G (by have:=hT.g9;omega) F.drew);go_wp2;go_still_tail 10,by kernel_rfl
 change wpList _ _ _ _ _ F.drew;go_wp2;refine hN.out.mono ?_;rintro e' w5 ⟨rfl,hm5,hr5,hs5,k5⟩;have hz4:F.drew.heap.size=F.heap.size:=rfl;rw[hz4]at hm5 hr5 hs5 k5;rw[hz4];obtain⟨B,hB⟩:∃B,F.heap.size=B:=⟨_,rfl⟩;have k45:Kq F.heap.size [] F w5:=((Kq.refl F).drew).trans k5;have C:w.heap.size<=B:=hB▸A4.out.2.2.kp.1;have hSB:∀b,S b->b<F.heap.size:=λb hb=>(A4.out.1.low b hb).1
 have hE:=Mm (s:=s) (f:=A) (e:=ev) (G:=G) hs hfl hev hT hSB;have hW:=yI (s:=s) (f:=A) (e:=ev) (G:=G) (S:=S) (B:=F.heap.size) hT;have hG:=Ml (s:=s) (f:=A) (e:=ev) (G:=G) hT hSB;have hM5:=JQ (s:=s) (f:=A) (e:=ev) (G:=G) (w':=w5) A4.out.1.rep hSB hm5 hr5 k45;have P:x<B:=hB▸A4.out.1.blk.lt;have H:p<B:=hB▸A4.out.2.1.lt;have I5:za (uT s A ev G d S F.heap.size) w x q A G d S F.heap.size G p w5:=⟨hM5,A4.out.1.kq k45,⟨_,by simp,hs5⟩,A4.out.2.1.kq k45 A4.out.2.1.lt Sw,A4.out.2.2.trans (k45.mono A4.out.2.2.kp.1 nofun)⟩;rw[hB]at hE hW hG I5;rw[hB];have h9:=hT.g9;have y:=AI (hB▸hSB:∀b,S b->b<B);replace I5:=AI I5;replace hB:=AI hB;replace C:=AI C;replace h9:=AI h9;go_wp2;go_loopw [10] (λc wr=>∃n:Nat,i<=n/\n<=s.size+1/\c=Sv Sz n/\za (uT s A ev G d S B) w x q A G d S B G p wr/\fj ⟨s,A,ev⟩ d G (s.size+1-n) n=fj ⟨s,A,ev⟩ d G (s.size+1-i) i) λc _=>s.size+1- (intOf c).toNat
 case atStart=>exact⟨i,Sy _,by omega,rfl,I5.out,rfl⟩
 case round=>
  obtain⟨n,hin,hns,rfl,I,g⟩:=hrel;by_cases hle:n<=s.size
  .have v0:wr.cell? ⟨p,0,none⟩=some (AS (some ⟨x,0,none⟩)):=I.box.cell 0;have vE:wr.cell? ⟨x,10,none⟩=some (SK (bj d).2):=I.rx.blk.cell 10;have v6:=J1 I.rx.blk;have hd1:decide (n<=s.size)=true:=by simpa using hle
   have hd2:(n:Int)<=(s.size:Int):=by omega
   have hfm:∃f,s.size+1-n=f+1/\s.size+1- (n+1)=f:=⟨s.size-n,by omega,by omega⟩;obtain⟨f,hf1,hf2⟩:=hfm;rw[hf1,fj]at g;have hmay:JU ⟨s,A,ev⟩ d n=((bj d).2||decide (n<s.size)&&du co (bj d).1 (s.get! n).toNat):=by simp[JU,du,co]
   rw[hmay]at g;obtain⟨V,hV⟩:∃V,du co (bj d).1=V:=⟨_,rfl⟩;obtain⟨z,hz⟩:∃z,(bj d).2=z:=⟨_,rfl⟩;rw[hV]at v6 g;rw[hz]at vE g;replace I:=AI I;replace g:=AI g;replace hV:=AI hV;replace hz:=AI hz;replace hf1:=AI hf1;replace hf2:=AI hf2;have hc:=(s.get! n).toNat_lt;obtain⟨c,Z⟩:∃c,(s.get! n).toNat=c:=⟨_,rfl⟩;rw[Z]at g hc;have hH:=BU V c hc;unfold kL at hH;have vN:wr.cell? ⟨x,0,none⟩=some (T4 (bn d) (AS (some ⟨q,0,none⟩))):=I.out.rx.blk.cell 0;have hcase:Hid (z=true)\/Hid (z=false/\n<s.size/\V c=true)\/Hid (z=false/\n<s.size/\V c=false)\/Hid (z=false/\n=s.size):=by
    cases z
    .by_cases h:n=s.size
     .exact .inr (.inr (.inr (AI ⟨rfl,h⟩)))
     .cases R:V c
      .exact .inr (.inr (.inl (AI ⟨rfl,by omega,rfl⟩)))
      .exact .inr (.inl (AI ⟨rfl,by omega,rfl⟩))
    .exact .inl (AI rfl)
   replace Z:=AI Z;obtain⟨v60,v61,v62,v63⟩:=v6;rcases hcase with h|h|h|h
   case inr.inr.inr=>
    obtain⟨rfl,rfl⟩:=h.out;go_wp2;go_quiet (fail)
    go_wp2;go_roundw
    case rel=>exact⟨s.size+1,by omega,by omega,by push_cast;rfl,I.out.Hv ((Kq.refl wr).drewN nq) P H y.out C.out,by rw[hf2.out];simpa using g.out⟩
    case measure=>first |(simp[intOf];done)|(simp[intOf];omega)
   case inr.inr.inl=>
    obtain⟨rfl,hlt,R⟩:=h.out;have hd3:decide ((n:Int)=(s.size:Int))=false:=by simp;omega
    have hd4:((n:Int)==(s.size:Int))=false:=by simp;omega
    replace R:=AI R;go_wp2;go_still_tail 18,by kernel_rfl
    change wpList _ _ _ _ _ wr.drew;have hcs:s[n].toNat=c:=by
     rw[<- Z.out,show s.get! n=s[n]from by show s.data[n]! =_;rw[getElem!_pos s.data n hlt];rfl]
    rw[hcs]at *;go_wp2_with (first |(go_at_call 80;refine(hH _).mono ?_;rintro e' u ⟨rfl,Q⟩;replace Q:=AI (show Kq wr.heap.size [] wr u from⟨Q.kp,Q.os,Q.out⟩);rw[R.out])|fail)
    go_roundw
    case rel=>exact⟨n+1,by omega,by omega,by push_cast;rfl,I.out.Hv Q.out P H y.out C.out,by rw[hf2.out];have:=g.out;rw[R.out]at this;simpa using this⟩
    case measure=>first |(simp[intOf];done)|(simp[intOf];omega)
   case' inl=>
    obtain rfl:=h.out;have t:=g.out;rw[Bool.true_or,if_pos rfl]at t;replace t:=AI t;go_wp2;go_quiet (fail)
    have Q:=AI ((Kq.refl wr).drewN nq:Kq wr.heap.size [] wr (wr.drewN nq));replace v0:=show(wr.drewN nq).cell? ⟨p,0,none⟩=_ from v0;replace vN:=show(wr.drewN nq).cell? ⟨x,0,none⟩=_ from vN;generalize wr.drewN nq=u at *;go_wp2
   case' inr.inl=>
    obtain⟨rfl,hlt,R⟩:=h.out;have hd3:decide ((n:Int)=(s.size:Int))=false:=by simp;omega
    have hd4:((n:Int)==(s.size:Int))=false:=by simp;omega
    have t:=g.out;rw[R,decide_eq_true hlt,Bool.false_or,Bool.true_and,if_pos rfl]at t;replace t:=AI t;replace R:=AI R;go_wp2;go_still_tail 18,by kernel_rfl
    change wpList _ _ _ _ _ wr.drew;have hcs:s[n].toNat=c:=by
     rw[<- Z.out,show s.get! n=s[n]from by show s.data[n]! =_;rw[getElem!_pos s.data n hlt];rfl]
    rw[hcs]at *;go_wp2_with (first |(go_at_call 80;refine(hH _).mono ?_;rintro e' u ⟨rfl,Q⟩;replace Q:=AI (show Kq wr.heap.size [] wr u from⟨Q.kp,Q.os,Q.out⟩);rw[R.out];replace v0:u.cell? ⟨p,0,none⟩=some (AS (some ⟨x,0,none⟩)):=(I.out.Hv Q.out P H y.out C.out).box.cell 0;replace vN:u.cell? ⟨x,0,none⟩=some (T4 (bn d) (AS (some ⟨q,0,none⟩))):=(I.out.Hv Q.out P H y.out C.out).rx.blk.cell 0)|fail)
   all_goals
    have IU:=AI (I.out.Hv Q.out P H y.out C.out);have⟨L,hL,hLb⟩:=IU.out.sp;have hA:=Oo hE hW hG (w:=u) (q:=q) (i:=n) (L:=L) IU.out.mem IU.out.rx.rep hle hL hLb;refine hA.mono ?_;rintro e' w7 ⟨hM7,h7⟩;replace h7:match df (λ_=>true) (bv ⟨s,A,ev⟩ d n) 320 with|none=>e'=SL (SE none 0 0)/\Kq u.heap.size [B] u w7|some j=>e'=SL (SE (some ⟨B+1,0,none⟩) (G+1) (G+1))/\a7 w7 (B+1) 54 (dw (dH (((0:Int),n,j)::de ⟨s,A,ev⟩ d n j) (SC (G+1) dM)))/\Kq u.heap.size [B,B+1] u w7:=h7
    have r:=t.out;rw[DR]at r;cases hpk:df (λ_=>true) (bv ⟨s,A,ev⟩ d n) 320
    .rw[hpk]at h7 r;have⟨rfl,k7⟩:=h7;have I7:=AI (IU.out.NE k7 (λb hb=>by rw[Su.1 hb];exact Sy _) P H y.out C.out hM7 ⟨L,hL,hLb.kq k7 hLb.lt λh=>by have:=Su.1 h;omega⟩);replace r:=AI r;go_wp2;go_roundw
     case rel=>exact⟨n+1,by omega,by omega,by push_cast;rfl,I7.out,by rw[hf2.out];exact r.out⟩
     case measure=>first |(simp[intOf];done)|(simp[intOf];omega)
    .rename_i j;rw[hpk]at h7 r;have⟨rfl,hb7,k7⟩:=h7;have I7:=AI (IU.out.NE k7 λb hb=>by simp only[T5,Sw,or_false]at hb;omega P H y.out C.out hM7 ⟨_,by rw[oZ];simp,hb7⟩);have hbit:=(j4.1 hpk).2.1;have hwn:∀m∈((0:Int),n,j)::de ⟨s,A,ev⟩ d n j,0<=m.1:=λm hm=>by
      rcases T5.1 hm with rfl|hm
      .exact SX _
      .have⟨hi9,hh9,hw9⟩:=hT.w;have:=(walk_in (M:=⟨s,A,ev⟩) d hw9 n j hle hbit m hm).1;omega
     rw[Fa hwn]at hb7;replace hb7:=AI hb7;replace r:=AI r;go_wp2;go_ret;refine⟨_,rfl,?_,I7.out.rx,I7.out.kq⟩;rw[<- r.out];exact⟨B+1,by have:=C.out;omega,rfl,hb7.out⟩
  .obtain rfl:n=s.size+1:=by omega
   have hd1:decide (s.size+1<=s.size)=false:=by simp
   have hd2:¬ ((s.size+1:Nat):Int)<=(s.size:Int):=by omega
   rw[show s.size+1- (s.size+1)=0 from by omega,fj]at g;replace I:=AI I;replace g:=AI g;go_wp2;go_ret;refine⟨_,rfl,?_,I.out.rx,I.out.kq⟩;rw[<- g.out];rfl
def iM(w b:SQ)(x q c:Nat)(G:Nat)(a:Nd)(S:Nat->Prop):Prop:=kh b x q c G a S true (du co (bj a).1) (bj a).2/\Kq w.heap.size [x] w b
section
variable{h0:Array Obj}{S:Nat->Prop}{nd:Nd}{w:SQ}{x q fl ev G:Nat}{dn:Bool}{T:cS}{e:Bool}{s:ByteArray}
def GM(D:kh w x q fl G nd S dn T e)(X:je nd G)(hs:s.size<=300)(C:fl<256)(z:ev<256):
 cb (br ek h0) 35 #[AS (some ⟨x,0,none⟩),SU s,Sv Tq ev] w λe' F=>e'=SL (T0 #[SK (fj ⟨s,fl,ev⟩ nd G (s.size+1) 0).isSome,.nilIface])/\iM w F x q fl G nd S:=by
 refine bu (bP (by decide)) (λF h=>nomatch h.1) (PH.func Tryz.func35 (by decide)) rfl ?_;simp only[Tryz.ntmps35,SV,SH,SZ,T9,T8,SO,SN,SW,SR,SP,SF];have Q:decide (300<s.size)=false:=by simpa using hs
 have hd2:¬ (300:Int)<(s.size:Int):=by omega
 refine ac λK k=> ?_
 refine bm λw1 A=> ?_
 replace A:=AI A;replace D:=AI D;go_wp2;refine k.out _ _ ?_;refine ac λK k=> ?_
 refine bm λw2 y=> ?_
 replace y:=AI (y.trans A.out);go_wp2;refine k.out _ _ ?_;refine ac λK k=> ?_
 refine ao ?_;show aV _ _ _ (SD 0 (3+4)) ..;refine bq 0 3 4 (λN r w3 d=> ?_) (by decide);simp only[zq1];replace d:=AI (d.trans y.out);go_wp2;refine r.out _ _ ?_;have B:=D.out.kq d.out.kq;refine f9 (f:=50) (i:=3) (rest:=SD 4 (3+0)) rfl rfl λu=>by simp[go_sem] (bP (by decide)) (HZ (i:=0) (ev:=ev) (s:=s) B X hs C z (Ta _)) (λv H n=> ?_) λch H n=>by have⟨_,h,_⟩:=n;cases h
 have⟨v',j,l,p,W⟩:=n;cases j;have m:iM w H x q fl G nd S:=⟨p,d.out.kq.trans (W.mono (by rw[d.out.heap];exact Sy _) λ_ h _=>h)⟩;replace m:=AI m;rw[Nat.sub_zero]at l;simp only[SM,SJ,SI];simp only[Sx,zq0];refine bq 4 3 0 (λN r P M=> ?_) (by decide);simp only[zq1];have a:iM w P x q fl G nd S:=⟨m.out.1.kq M.kq,m.out.2.trans M.kq⟩;replace a:=AI a;have j:∃b,(fj ⟨s,fl,ev⟩ nd G (s.size+1) 0).isSome=b/\(b=false/\v=SE none 0 0\/b=true/\∃g,v=SE (some ⟨g,0,none⟩) (G+1) (G+1)):=by
  cases E:fj ⟨s,fl,ev⟩ nd G (s.size+1) 0 with
  |none=>rw[E]at l;exact⟨false,rfl,.inl ⟨rfl,l⟩⟩
  |some L=>rw[E]at l;have⟨g,_,Z,_⟩:=l;exact⟨true,rfl,.inr ⟨rfl,g,Z⟩⟩
 have⟨b,t,j⟩:=j;replace t:=AI t;rcases j with⟨rfl,rfl⟩|⟨rfl,g,rfl⟩
 all_goals
  go_wp2;refine r.out _ _ (az (k.out _ _ ?_));refine bm λR I=> ?_
  have c:iM w R x q fl G nd S:=⟨a.out.1.kq I.kq,a.out.2.trans I.kq⟩;replace c:=AI c;go_wp2;go_ret2
  exact⟨by rw[t.out];rfl,c.out⟩
end
end
section
open Go.RowKit
def CO{P}(w n q u c g b m a d l p e t f)
 (A:P.underlying n=some (.slice c)) (hs:(P.info? c).map (·.size)=some p) (r:w.heap[g]?=some (SY e t (0,0))) (B:f.length=TE d b*p)
 (h:∀j v,f[j]?=some v->w.cell? (a.add j)=some v) (k:f.length<=e.size) (y:∀v∈f,v.oneCell'=true):
 (TH #[n,q] u #[SE (some ⟨g,0,none⟩) b m,SE (some a) d l]).run P w=Ti (goInt (TE d b)) (w.setRow g (f++e.toList.drop f.length).toArray):=by
 have z:=run_loadCells_list (P:=P) w a f h;have s:=run_storeCells_at P g 0 t f 0 e w r (by simpa using k) y;cases x:P.info? c with
 |none=>simp[x]at hs
 |some i=>
  simp_all[TH,run_underlying,Builtin.lenOf,Builtin.firstCells,sizeOf,typeInfo]
def LJ(a b):eY (a++b)=eY a++eY b:=by simp[eY]
def Aa:∀L n,eY (L.take n)=(eY L).take (n*2)
 |[],n=>by simp[eY]
 |p::L,0=>by simp[eY]
 |p::L,n+1=>by
  have:=Aa L n;rw[show(n+1)*2=n*2+1+1 from by omega];show Sv Sz p.1::Sv Sz p.2::eY (L.take n)=List.take (n*2+1+1) (Sv Sz p.1::Sv Sz p.2::eY L);rw[Tg,Tg,this]
def Ab:∀L n,eY (L.drop n)=(eY L).drop (n*2)
 |[],n=>by simp[eY]
 |p::L,0=>by simp[eY]
 |p::L,n+1=>by
  have:=Ab L n;rw[show(n+1)*2=n*2+1+1 from by omega];show eY (L.drop n)=List.drop (n*2+1+1) (Sv Sz p.1::Sv Sz p.2::eY L);rw[Th,Th,this]
def jV(n:Nat)(L:Sp):Sp:=L.take n++SC (n-L.length) dM
def FG{w g b G n L}(d:L.length=G+1)(k:a7 w g 54 (dw (SC n dM)))(hs:a7 w b 54 (dw L))(f):
 (TH #[48,48] f #[SE (some ⟨g,0,none⟩) n n,SE (some ⟨b,0,none⟩) (G+1) (G+1)]).run PM w=Ti (goInt (TE (G+1) n)) (w.setRow g (dw (jV n L))):=by
 have l:(PM.info? 54).map (·.size)=some 2:=by
  have:=uJ;rw[Tj]at this;grind
 have a:(eY (L.take n)).length=TE (G+1) n*2:=by
  rw[Dw,List.length_take,d,Nat.mul_comm,Nat.min_comm]
 have h:=CO (P:=PM) w 48 48 f 54 g n n ⟨b,0,none⟩ (G+1) (G+1) 2 (dw (SC n dM)) 54 (eY (L.take n)) ((congrFun (aK ..) _).trans Tryz.underlying48) l k a
  (λj v c=>by
   rw[Aa]at c;have m:(eY L)[j]?=some v:=by
    grind
   have e:(⟨b,0,none⟩:Addr).add j=⟨b,j,none⟩:=by simp_all[Addr.add]
   rw[e,hs.cell j];simp_all[dw])
  (by grind [Dw,dw])
  (λv c=>by
   simp only[eY,List.mem_flatMap]at c;have⟨p,_,i⟩:=c;simp[T5]at i;rcases i with rfl|rfl<;>rfl)
 have e:(eY (L.take n)++(dw (SC n dM)).toList.drop (eY (L.take n)).length).toArray=dw (jV n L):=by
  simp[a,dw,jV,<- Ab,<- LJ,d];have:n-TE (G+1) n=n- (G+1):=by
   have:TE (G+1) n=min (G+1) n:=rfl;omega
  rw[this]
 rw[h,e]
def sO{M c G}:∀f i{L},fj M c G f i=some L->L.length=G+1
 |0,_,_,h=>by cases h
 |f+1,i,L,h=>by
  rw[fj]at h;split at h;cases b:DR M c G i with
  |none=>rw[b]at h;exact sO f _ h
  |some l=>
   rw[b]at h;unfold DR at b;grind
  exact sO f _ h
end
section
open Go.RowKit Go.Conc
attribute [local instance] fI
def iM.eqv{w a b x q e G d S}(h:iM w a x q e G d S)(k:Kq a.heap.size [] a b)(c:w.heap.size<=a.heap.size):iM w b x q e G d S:=⟨h.1.kq k,h.2.trans (k.mono c nofun)⟩
def iM.far{w a b x q i G g f S}(h:iM w a x q i G f S)(k:Kq a.heap.size [g] a b)(j:w.heap.size<=g)(l:x<g)(n:∀b,S b->b<g):iM w b x q i G f S:=by
 have e:∀b,b<g->b∉[g]:=λb c m=>by have:=Su.1 m;omega
 exact⟨⟨h.1.blk.kq k h.1.blk.lt (e _ l),h.1.rep.keep λb c d=>k.kp.2 b d (e _ (n b c)),λb c=>⟨T6 (h.1.low b c).1 k.kp.1,(h.1.low b c).2⟩,h.1.had⟩,
  h.2.trans (k.mono h.2.kp.1 λb c d=>by have:=Su.1 c;omega)⟩
def xl(b:SQ)(a:Nat)(n:Nat)(v:Tb):Option (List (Int×Int))->Prop
 |none=>v=SE none 0 0
 |some L=>∃g,a<=g/\v=SE (some ⟨g,0,none⟩) n n/\a7 b g 54 (dw (jV n L))
def Ht(w g a):Kq w.heap.size [g] w (w.setRow g a):=⟨⟨by simp,λb c d=>by
 unfold World.setRow;grind⟩,rfl,rfl⟩
def tJ(a l c u):(binOp .eql 48 (SE a l c) (SE none 0 0)).run PH u=Ti (SK a.isNone) u:=by
 have h:=run_equal_slice_nil (P:=PH) u 48 54 a l c ((congrFun (aK ..) _).trans Tryz.underlying48);rw[binOp.eq_def];simp_all
section
variable{h0:Array Obj}{S:Nat->Prop}{nd:Nd}{w:SQ}{x q fl ev G n:Nat}{dn:Bool}{T:cS}{e:Bool}{s:ByteArray}
def Js(hx:kh w x q fl G nd S dn T e)(hT:je nd G)(hs:s.size<=300)(hfl:fl<256)(hev:ev<256)(hn1:1<=n)(hn2:n<=20):
 cb (br ek h0) 34 #[AS (some ⟨x,0,none⟩),SU s,Sv Tq ev,Sv Sz n] w λe' w'=>∃v,e'=SL (T0 #[v,.nilIface])/\xl w' w.heap.size n v (fj ⟨s,fl,ev⟩ nd G (s.size+1) 0)/\iM w w' x q fl G nd S:=by
 refine bu (bP (by decide)) (λw' ⟨v,h,_⟩=>nomatch h) (PH.func Tryz.func34 (by decide)) rfl ?_;simp only[Tryz.ntmps34,SV,SH,SZ,T9,T8,SO,SN,SW,SR,SP,SF];have hd1:decide (300<s.size)=false:=by simpa using hs
 have hd2:¬ (300:Int)<(s.size:Int):=by omega
 have hd3:decide ((n:Int)<1)=false:=by simp;omega
 have hd4:decide ((20:Int)<(n:Int))=false:=by simp;omega
 have hd5:¬ (n:Int)<1:=by omega
 have hd6:¬ (20:Int)<(n:Int):=by omega
 refine ac λK W=> ?_
 refine bm λw1 e1=> ?_
 replace e1:=AI e1;replace hx:=AI hx;go_wp2;refine W.out _ _ ?_;refine ac λK W=> ?_
 refine bm λw2 e2=> ?_
 replace e2:=AI (e2.trans e1.out);go_wp2;refine W.out _ _ ?_;refine ac λK W=> ?_
 refine ao ?_;show aV _ _ _ (SD 0 (3+2)) ..;refine bq 0 3 2 (λN hN w3 e3=> ?_) (by decide);simp only[zq1];replace e3:=AI (e3.trans e2.out);go_wp2;refine hN.out _ _ ?_;have hx3:=hx.out.kq e3.out.kq;have hz3:w3.heap.size=w.heap.size:=by rw[e3.out.heap]
 refine f9 (f:=50) (i:=3) (rest:=SD 4 (1+0)) rfl rfl λu=>by simp[go_sem] (bP (by decide)) (HZ (i:=0) (ev:=ev) (s:=s) hx3 hT hs hfl hev (Ta _)) (λv w4 hr=> ?_) λch w4 hr=>by obtain⟨_,h,_⟩:=hr;cases h
 obtain⟨v',hv,hf,hx4,k4⟩:=hr;cases hv;have F:iM w w4 x q fl G nd S:=⟨hx4,e3.out.kq.trans (k4.mono (by rw[hz3];exact Sy _) λ_ h _=>h)⟩;rw[hz3,Nat.sub_zero]at hf;have y:=F.2.kp.1;replace F:=AI F;replace y:=AI y;simp only[SM,SJ,SI];simp only[Sx,zq0];refine bq 4 1 0 (λN hN w5 e5=> ?_) (by decide);simp only[zq1];have l:=F.out.eqv e5.kq y.out;have a:w.heap.size<=w5.heap.size:=l.2.kp.1;have h45:∀{b:Nat}{t cs},a7 w4 b t cs->a7 w5 b t cs:=λh=>h.kq (e5.kq (B:=w4.heap.size) (X:=[])) h.lt Sw
 replace l:=AI l;replace a:=AI a;cases D:fj ⟨s,fl,ev⟩ nd G (s.size+1) 0 with
 |none=>
  rw[D]at hf;obtain rfl:=hf;replace D:=AI D;go_wp2;refine hN.out _ _ (az (W.out _ _ ?_));refine bm λr e6=> ?_
  have m:=AI (l.out.eqv e6.kq a.out);have hq:=tJ none 0 0;go_wp2;go_ret2
  exact⟨_,rfl,by rw[D.out];rfl,m.out⟩
 |some L=>
  rw[D]at hf;obtain⟨gs,hgs,rfl,hb4⟩:=hf;have hL:=sO _ _ D;have hb5:=AI (h45 hb4);replace D:=AI D;replace hgs:=AI hgs;replace hL:=AI hL;go_wp2;refine hN.out _ _ (az (W.out _ _ ?_));refine bm λr e6=> ?_
  have m:=AI (l.out.eqv e6.kq a.out);have R:=AI (hb5.out.kq (e6.kq (B:=w5.heap.size) (X:=[])) hb5.out.lt Sw);have d:=AI (T7 a.out (by rw[e6.heap];exact Sy _:w5.heap.size<=r.heap.size));obtain⟨i,hi,hsz,hz,hb⟩:∃i,PM.info? 54=some i/\i.size=2/\i.zero=some (.agg #[Sv Sz 0,Sv Sz 0])/\i.bytes=16:=by
   have:=uJ;rw[Tj]at this;have⟨i,h1,h2⟩:=this;simp only[Prod.mk.injEq]at h2;exact⟨i,h1,h2.1,h2.2.1,h2.2.2⟩
  have hmk:=run_make (P:=PH) r 48 54 i _ ((congrFun (aK ..) _).trans Tryz.underlying48) hi hz Sz Sz (n:Int) (n:Int) (by omega) (by omega) (by rw[hb];omega) (by omega);rw[Int.toNat_natCast,hsz,show(Value.agg #[Sv Sz 0,Sv Sz 0]).cells=#[Sv Sz 0,Sv Sz 0]from rfl,DO]at hmk;have A:=a7.new r 54 (dw (SC n (0,0)));have kg:Kq r.heap.size [] r (r.alloc (SY (dw (SC n (0,0))) 54)):=(Kq.refl r).alloc (Sy _) _;have hS7:=AI (m.out.eqv kg d.out);have hb7:=AI (R.out.kq kg R.out.lt Sw);have C:gs<r.heap.size:=R.out.lt;replace A:=AI A;replace kg:=AI kg;replace C:=AI C;have I:=AI λb(hb:S b)=>(m.out.1.low b hb).1
  have M:=AI m.out.1.blk.lt;have hq:=tJ (some ⟨gs,0,none⟩) (G+1) (G+1);go_wp2;have⟨g,hgN⟩:∃g,r.heap.size=g:=⟨_,rfl⟩;rw[hgN]at A C I M d ⊢;generalize r.alloc (SY (dw (SC n (0,0))) 54)=w7 at *;go_loopw [36] (λc wr=>∃k:Nat,k<=n/\c=Sv Sz k/\a7 wr g 54 (dw (SC k dM++(SC n (0,0)).drop k))/\iM w wr x q fl G nd S/\a7 wr gs 54 (dw L)) λc _=>n- (intOf c).toNat
  case atStart=>exact⟨0,Ta _,rfl,by simpa using A.out,hS7.out,hb7.out⟩
  case round=>
   obtain⟨k,hkn,rfl,Z,F,H⟩:=hrel;by_cases hlt:k<n
   .have hlen:k<(SC k dM++(SC n (0,0)).drop k).length:=by simp;omega
    have⟨s0,s1⟩:=qm Z hlen;have E:=vK (n:=k) (u:=dM) Z;rw[xM (by simpa using hlt)]at E;have fz:∀j,wr.frozen? ⟨g,j,none⟩=false:=Z.frozen;have kB:Kq wr.heap.size [g] wr ((wr.setCell ⟨g,k*2,none⟩ (Sv Sz (-1))).setCell ⟨g,k*2+1,none⟩ (Sv Sz (-1))):=((Kq.refl wr).setCell (p:=⟨g,k*2,none⟩) (λ_=>Su.2 rfl) _).setCell (p:=⟨g,k*2+1,none⟩) (λ_=>Su.2 rfl) _;have Q:=F.far kB (T7 d.out (Sy _)) M.out I.out;have hbn:=H.kq kB H.lt λh=>by have:=Su.1 h;have:=C.out;omega
    have A2:=AI (⟨E,Q,hbn⟩:a7 _ g 54 _/\iM w _ x q fl G nd S/\a7 _ gs 54 _);go_wp2;go_roundw
    case rel=>exact⟨k+1,by omega,by push_cast;rfl,A2.out⟩
    case measure=>first |(simp[intOf];done)|(simp[intOf];omega)
   .obtain rfl:k=n:=by omega
    rw[TC (by simp),TU]at Z;have hcp:=FG hL.out Z H 3;have kc:=Ht wr g (dw (jV k L));have hc:a7 (wr.setRow g (dw (jV k L))) g 54 (dw (jV k L)):=setRow_heap wr g _ _ 54 (0,0) Z;have Q:=AI (F.far kc d.out M.out I.out);replace hc:=AI hc;go_wp2;go_ret2
    exact⟨_,rfl,by rw[D.out];exact⟨g,d.out,rfl,hc.out⟩,Q.out⟩
end
def xl.kq{a b c n v m}(h:xl a c n v m)(k:Kq a.heap.size [] a b):xl b c n v m:=by
 cases m with
 |none=>exact h
 |some L=>have⟨g,e,f,d⟩:=h;exact⟨g,e,f,d.kq k d.lt Sw⟩
def LV{c i x d e}{g:Int}{G:Nat}{k}{l:FV}(m:g=G)(a:c.heap[x]?=some (.cells (#[k,.int .i64 g,.int .u8 d]++l.1) 103 (0,0)))(j:Repr c (λb=>i<=b/\b≠x) k e):
 ∃q,kh c x q d G e (λb=>i<=b/\b≠x/\b<c.heap.size) false co false:=by
 obtain⟨q,rfl⟩:=ed j;refine⟨q,?_,j.mono (S':=λb=>i<=b/\b≠x/\b<c.heap.size) λb a f=>⟨a.1,a.2,f⟩,λb a=>⟨a.2.2,a.2.1⟩,λh=>nomatch h⟩;obtain⟨t,rfl⟩:=l;subst m;have:mU (.iface (bn e) (.pointer (some ⟨q,0,none⟩))) G d (if false then 1 else 0) 0 co false=#[.iface (bn e) (.pointer (some ⟨q,0,none⟩)),.int .i64 G,.int .u8 d]++ #[.int .u32 0,.int .i32 0,.int .u32 0,.int .u64 0,.int .u64 0,.int .u64 0,.int .u64 0,.bool false]:=by
  simp[mU,qd]
 rw[this];exact a
section
variable{h0:Array Obj}{S:Nat->Prop}{nd:Nd}{w:SQ}{x q fl ev G n:Nat}{dn:Bool}{T:cS}{e:Bool}{s:ByteArray}
def GY(M:kh w x q fl G nd S dn T e)(hT:je nd G)(hs:s.size<=300)(I:fl<256)(F:ev<256):
 cb (br ek h0) 24 #[AS (some ⟨x,0,none⟩),SU s,Sv Tq ev] w λX Q=>X=SL (T0 #[SK (fj ⟨s,fl,ev⟩ nd G (s.size+1) 0).isSome,Sv Sz 0])/\iM w Q x q fl G nd S:=by
 refine bu (bP (by decide)) (λQ h=>nomatch h.1) (PH.func Tryz.func24 (by decide)) rfl ?_;simp only[Tryz.ntmps24,SV,SH,SZ,T9,T8,SO,SN,SW,SR,SP,SF];refine ac λK L=> ?_
 refine bm λw1 B=> ?_
 replace B:=AI B;replace M:=AI M;go_wp2;refine L.out _ _ ?_;refine ac λK L=> ?_
 refine ao ?_;show aV _ _ _ (SD 0 (3+6)) ..;refine bq 0 3 6 (λN E w3 d=> ?_) (by decide);simp only[zq1];replace d:=AI (d.trans B.out);go_wp2;refine E.out _ _ ?_;have C:=M.out.kq d.out.kq;have H:w3.heap.size=w.heap.size:=by rw[d.out.heap]
 refine f9 (f:=35) (i:=3) (rest:=SD 4 (5+0)) rfl rfl λu=>by simp[go_sem] (bP (by decide)) (GM (ev:=ev) (s:=s) C hT hs I F) (λv c A=> ?_) λch c A=>nomatch A.1
 have⟨hv,m⟩:=A;cases hv;generalize l:(fj ⟨s,fl,ev⟩ nd G (s.size+1) 0).isSome=b;replace l:=AI l;have t:iM w c x q fl G nd S:=⟨m.1,d.out.kq.trans (m.2.mono (by rw[H];exact Sy _) λ_ h _=>h)⟩;have a:=t.2.kp.1;replace t:=AI t;replace a:=AI a;simp only[SM,SJ,SI];simp only[Sx,zq0];refine bq 4 5 0 (λN E w5 W=> ?_) (by decide);simp only[zq1];have g:=AI (t.out.eqv W.kq a.out);have r:=AI g.out.2.kp.1;have D:=AI (W.kq:Kq c.heap.size [] c w5);go_wp2;refine E.out _ _ (az (L.out _ _ ?_));refine bm λz e6=> ?_
 have j:=AI (g.out.eqv e6.kq r.out);have k:=AI (D.out.trans e6.kq:Kq c.heap.size [] c z);have p:=AI j.out.2.kp.1;have hL:=uF z;go_wp2;refine hL.mono ?_;rintro X Z ⟨rfl,y⟩;have R:Kq z.heap.size [] z Z:=⟨⟨y.size,λb l _=>y.block b l⟩,y.os,y.output⟩;have P:=AI (j.out.eqv R p.out);have hk7:=AI (k.out.trans (R.mono k.out.kp.1 nofun):Kq c.heap.size [] c Z);go_wp2;go_ret2
 exact⟨by rw[l.out];rfl,P.out⟩
def JA(M:kh w x q fl G nd S dn T e)(hT:je nd G)(hs:s.size<=300)(H:fl<256)(F:ev<256)(I:1<=n)(D:n<=20):
 cb (br ek h0) 23 #[AS (some ⟨x,0,none⟩),SU s,Sv Tq ev,Sv Sz n] w λZ E=>∃v,Z=SL (T0 #[v,Sv Sz 0])/\xl E w.heap.size n v (fj ⟨s,fl,ev⟩ nd G (s.size+1) 0)/\iM w E x q fl G nd S:=by
 refine bu (bP (by decide)) (λE h=>by have⟨_,h,_⟩:=h;cases h) (PH.func Tryz.func23 (by decide)) rfl ?_;simp only[Tryz.ntmps23,SV,SH,SZ,T9,T8,SO,SN,SW,SR,SP,SF];refine ac λK W=> ?_
 refine bm λw1 X=> ?_
 replace X:=AI X;replace M:=AI M;go_wp2;refine W.out _ _ ?_;refine ac λK W=> ?_
 refine ao ?_;show aV _ _ _ (SD 0 (4+6)) ..;refine bq 0 4 6 (λN Q w3 k=> ?_) (by decide);simp only[zq1];replace k:=AI (k.trans X.out);go_wp2;refine Q.out _ _ ?_;have P:=M.out.kq k.out.kq;have m:w3.heap.size=w.heap.size:=by rw[k.out.heap]
 refine f9 (f:=34) (i:=4) (rest:=SD 5 (5+0)) rfl rfl λu=>by simp[go_sem] (bP (by decide)) (Js (ev:=ev) (s:=s) (n:=n) P hT hs H F I D) (λv c L=> ?_) λch c L=>by have⟨_,h,_⟩:=L;cases h
 have⟨v',hv,y,p⟩:=L;cases hv;rw[m]at y;replace y:=AI y;have t:iM w c x q fl G nd S:=⟨p.1,k.out.kq.trans (p.2.mono (by rw[m];exact Sy _) λ_ h _=>h)⟩;have a:=t.2.kp.1;replace t:=AI t;replace a:=AI a;simp only[SM,SJ,SI];simp only[Sx,zq0];refine bq 5 5 0 (λN Q w5 e5=> ?_) (by decide);simp only[zq1];have j:=AI (t.out.eqv e5.kq a.out);have r:=AI j.out.2.kp.1;have B:=AI (e5.kq:Kq c.heap.size [] c w5);go_wp2;refine Q.out _ _ (az (W.out _ _ ?_));refine bm λz e6=> ?_
 have l:=AI (j.out.eqv e6.kq r.out);have d:=AI (B.out.trans e6.kq:Kq c.heap.size [] c z);have g:=AI l.out.2.kp.1;have hL:=uF z;go_wp2;refine hL.mono ?_;rintro Z w7 ⟨rfl,A⟩;have k7:Kq z.heap.size [] z w7:=⟨⟨A.size,λb hb _=>A.block b hb⟩,A.os,A.output⟩;have R:=AI (l.out.eqv k7 g.out);have C:=AI (d.out.trans (k7.mono d.out.kp.1 nofun):Kq c.heap.size [] c w7);go_wp2;go_ret2
 exact⟨_,rfl,y.out.kq C.out,R.out⟩
end
end
section
def Ob(x:mP):Prop:=∀w,x.wr=some w->0<w.1
def tz(g b l e c):∀f first S p x,jk g b l e c f first S p=some x->Ob x
 |0,_,_,_,_,h=>by cases h
 |f+1,first,S,p,x,h=>by
  unfold jk at h;split at h;cases h;intro w d;cases d;simp;split at h;cases h;intro w d;cases d;split at h;split at h<;>first |(cases h;intro w d;cases d;simp)|exact tz g b l e c f _ _ _ _ h
  split at h;split at h<;>first |(cases h;intro w d;cases d;simp)|exact tz g b l e c f _ _ _ _ h
  exact tz g b l e c f _ _ _ _ h
def G6(c p rest):Ob (dS c p rest):=by
 intro w a;unfold dS at a;grind
def Dq{d c l p x}(a:eB d c l p=some x):Ob x:=by
 unfold eB at a;split at a;cases a;intro w b;cases b;split at a;cases a;intro w b;cases b;split at a;cases a;exact G6 _ _ _;split at a;exact tz _ _ _ _ _ _ _ _ _ _ a;split at a;cases a;intro w b;cases b;split at a;split at a;cases a;intro w b;cases b;simp;split at a;cases a;intro w b;cases b;simp;split at a;cases a;intro w b;cases b;simp;cases a;intro w b;cases b;cases a;intro w b;cases b
def KE:Option (g8 Nd)->Prop
 |some (.err k _)=>0<k
 |_=>True
def tH{x f}(b:KE x)(c:∀a s,KE (f a s)):KE (mb x f):=by
 cases x with
 |none=>trivial
 |some r=>cases r with|ok a s=>exact c a s|err k a=>exact b
section
variable{ln fold:Bool}{l:List UInt8}
def NH(f):(∀d s,KE (qY ln fold l f d s))/\(∀d a b s,KE (lV ln fold l f d a b s))/\(∀d s,KE (sL ln fold l f d s))/\(∀d a b s,KE (lU ln fold l f d a b s))/\(∀d s,KE (oe ln fold l f d s))/\(∀k s,KE (iC ln fold l f k s))/\(∀d s,KE (oU ln fold l f d s))/\∀d s,KE (og ln fold l f d s):=by
 induction f with
 |zero=>exact⟨λ_ _=>trivial,λ_ _ _ _=>trivial,λ_ _=>trivial,λ_ _ _ _=>trivial,λ_ _=>trivial,λ_ _=>trivial,λ_ _=>trivial,λ_ _=>trivial⟩
 |succ f j=>
  have⟨r,h,i,g,n,m,p,q⟩:=j;refine⟨λd s=>h ..,λd a b s=>tH (i d s) λk s=> ?_,λd s=>g ..,λd a b s=> ?_,λd s=>tH (p d s) λk s=>m k s,λk s=> ?_,λd s=> ?_,λd s=> ?_⟩
  .split <;>first |trivial|split <;>first |exact h .. |trivial
  .unfold lU;split;trivial;split;split;exact(by decide:(0:Int)<11);split <;>first |exact(by decide:(0:Int)<9)|trivial
   split <;>first |exact(by decide:(0:Int)<8)|exact tH (n d s) λk s=>g ..
  .unfold iC;split;trivial;next x c=>
   split;split;next w e=>exact Dq c _ e
   grind
   trivial
  .unfold oU;split;trivial;next x c=>
   split;next w e=>exact Dq c _ e
   split;exact q d s;split;trivial;split <;>trivial
  .unfold og;split <;>first |trivial|split <;>first |exact(by decide:(0:Int)<12)|(refine tH (r ..) λk s=> ?_;split <;>first |trivial|split <;>first |trivial|exact(by decide:(0:Int)<10))
end
def Kn{ln fold l k a}(h:xP ln fold l=some (.err k a)):0<k:=by
 have:=(NH (ln:=ln) (fold:=fold) (l:=l) (deep+8)).1 0 ⟨0,0,0⟩;unfold xP at h;rw[h]at this;exact this
end
section
open Go.RowKit Go.Conc
attribute [local instance] fI
def FU:ByteArray:=⟨#[97]⟩
def PU:∃b a,gK FU 0=some (.ok b a):=by
 have h:(match gK FU 0 with |some (.ok ..)=>true|_=>false)=true:=by rfl
 grind
def HS{s b k a}(h:gK s b=some (.err k a)):0<k:=by
 unfold gK at h;split at h;grind
 exact Kn h
def KT(e:Nat)(d:SQ)(g:Nat)(r:Option (g8 Nd))(v:Tb):Prop:=match r with|some (.ok i f)=>∃x c,∃h:FV,v=T0 #[vp x,SK true]/\e<=x/\d.heap[x]?=some (SY (#[c,Sv Sz f.g,Sv Tq g]++h.1) 103 (0,0))/\Repr d (λb=>e<=b/\b≠x) c i|some (.err k a)=>v=T0 #[AS none,SK true]|none=>False
def Nl{h0 w s}{fl:Nat}(C:fl<256)(t:Under h0 w)(M:fx w)(R:gI w):
 cb (br ek h0) 19 #[SU s,Sv Tq fl] w λe E=>∃v,e=SL v/\Old w E/\KT w.heap.size E fl (gK s fl) v:=by
 refine bu (bP (by decide)) (λE ⟨v,h,_⟩=>nomatch h) (PH.func Tryz.func19 (by decide)) rfl ?_;simp only[Tryz.ntmps19,SV,SH,SZ,T9,T8,SO,SN,SW,SR,SP,SF];refine ac λK A=> ?_
 refine bm λw1 T=> ?_
 go_wp2;refine A.out _ _ ?_;refine ac λK A=> ?_
 refine ao ?_;show aV _ _ _ (SD 0 (2+8)) ..;refine bq 0 2 8 (λN n w2 e2=> ?_) (by decide);simp only[zq1];have B:=AI ((AI T.old).out.eqv e2);go_wp2;refine n.out _ _ ?_;refine bF (f:=26) (i:=2) (rest:=SD 3 (7+0)) rfl rfl λu=>by simp[go_sem] (bP (by decide)) (wl (s:=s) C (t.ea B.out) (M.ea B.out) (R.ea B.out)) (λv S a=> ?_) λZ S a=>by have⟨_,h,_⟩:=a;cases h
 obtain⟨v,e,F,j⟩:=a;cases e;have y:=AI (B.out.trans F);have z:=AI B.out.size;cases a:gK s fl with
 |none=>rw[a]at j;exact j.elim
 |some r=>
 rw[a]at j;cases r with
 |ok nd O=>
  obtain⟨x,Q,P,rfl,hx,m,c⟩:=j;replace c:=AI c;replace m:=AI m;replace a:=AI a;simp only[Sx,zq0];refine bq 3 7 0 (λN n w4 g=> ?_) (by decide);simp only[zq1];replace g:=AI g;go_wp2;refine n.out _ _ (az (A.out _ _ ?_));refine bm λL d=> ?_
  replace d:=AI d;go_wp2;go_ret2
  have q:L.heap=S.heap:=d.out.heap.trans g.out.heap;refine⟨_,rfl,(AI ((AI (y.out.eqv g)).out.eqv d)).out,?_⟩;rw[a.out];exact⟨x,Q,P,rfl,T7 z.out hx,by rw[q];exact m.out,(c.out.mono (S':=λb=>w.heap.size<=b/\b≠x) λb G D=>⟨T7 z.out G.1,G.2⟩).keep λb G D=>by rw[q]⟩
 |err k W=>
  obtain rfl:=j;have hk:=HS a;have H:(k !=0)=true:=by simpa using by omega
  replace a:=AI a;simp only[Sx,zq0];refine bq 3 7 0 (λN n w4 g=> ?_) (by decide);simp only[zq1];go_wp2;refine n.out _ _ (az (A.out _ _ ?_));refine ac λK A=> ?_
  refine ac λK2 l=> ?_
  refine bm λL d=> ?_
  go_wp2;refine l.out _ _ ?_;refine bG rfl ?_;refine ac λK2 l=> ?_
  refine ao ?_;show aV _ _ _ (SD 0 (1+7)) ..;refine bF (f:=26) (i:=0) (rest:=SD 1 (7+0)) rfl rfl λu=>by simp[go_sem];try rfl (bP (by decide)) (wl (s:=FU) (fl:=0) (by decide) (AI ((AI ((AI (t.ea y.out)).out.ea g.old)).out.ea d.old)).out (AI ((AI ((AI (M.ea y.out)).out.ea g.old)).out.ea d.old)).out (AI ((AI ((AI (R.ea y.out)).out.ea g.old)).out.ea d.old)).out) (λv w6 p=> ?_) λZ w6 p=>by have⟨_,h,_⟩:=p;cases h
  have⟨v,e,I,j⟩:=p;cases e;have⟨nd,O,X⟩:=PU;rw[X]at j;obtain⟨x,Q,P,rfl,_,_,_⟩:=j;simp only[SM,SJ,SI];simp only[Sx,zq0];refine bq 1 7 0 (λN n w7 e7=> ?_) (by decide);simp only[zq1];go_wp2;refine n.out _ _ (az (l.out _ _ ?_));refine bm λw8 e8=> ?_
  go_wp2;go_ret2
  exact⟨_,rfl,(AI ((AI ((AI ((AI ((AI (y.out.eqv g)).out.eqv d)).out.trans I)).out.eqv e7)).out.eqv e8)).out,by
   rw[a.out];first |rfl|(show Value.tuple #[Value.pointer none,SK (k !=0)]=_;rw[(AI H).out])⟩
class oA(I:SQ->Prop):Prop where
 old:∀{a b:SQ},Old a b->I a->I b
instance{I O4}[hI:oA I][a:oA O4]:oA λw=>I w/\O4 w:=⟨λh k=>⟨hI.old h k.1,a.old h k.2⟩⟩
instance{A}:oA λ_=>A:=⟨λ_ k=>k⟩
instance{a}:oA (Old a):=⟨λh k=>k.trans h⟩
instance:oA fx:=⟨λh k=>k.ea h⟩
instance:oA gI:=⟨λh k=>k.ea h⟩
instance{h0}:oA (Under h0):=⟨λh k=>k.ea h⟩
def Old.kq{a b}(h:Old a b){X}:Kq a.heap.size X a b:=⟨⟨h.size,λi c _=>h.old i c⟩,h.os,h.out⟩
instance{g t a}:oA λw=>a7 w g t a:=⟨λh k=>k.kq (h.kq (X:=[])) k.lt Sw⟩
structure da(w:SQ)(lo hi x fl G:Nat)(nd:Nd):Prop where
 lw:lo<=x
 up:x<hi
 sz:hi<=w.heap.size
 tree:je nd G
 rx:∃q dn T e,kh w x q fl G nd (λb=>lo<=b/\b≠x/\b<hi) dn T e
instance{g f x d G b}:oA λw=>da w g f x d G b:=⟨λh k=>by
 have⟨q,c,T,e,a⟩:=k.rx;exact⟨k.lw,k.up,T7 k.sz h.size,k.tree,q,c,T,e,a.kq h.kq⟩⟩
def da.far{w j d g x y i G l}(k:da w d g x i G l)(h:Kq w.heap.size [y] w j)(n:y<d\/g<=y):da j d g x i G l:=by
 have⟨q,m,T,e,a⟩:=k.rx;refine⟨k.lw,k.up,T7 k.sz h.kp.1,k.tree,q,m,T,e,a.blk.kq h a.blk.lt λe=>by have:=Su.1 e;have:=k.lw;have:=k.up;omega,a.rep.keep λb c f=>h.kp.2 b f λe=> ?_,λb c=>⟨T6 (a.low b c).1 h.kp.1,(a.low b c).2⟩,a.had⟩;have:=Su.1 e;omega
def da.R5{w f a e x d G q c}(k:da w a e x d G c)(h:iM w f x q d G c λb=>a<=b/\b≠x/\b<e):da f a e x d G c:=
 ⟨k.lw,k.up,T7 k.sz h.2.kp.1,k.tree,_,_,_,_,h.1⟩
def Old.far{a b c}(h:Old a b){x}(k:Kq b.heap.size [x] b c)(f:a.heap.size<=x):Old a c:=
 ⟨λi d=>(k.kp.2 i (T6 d h.size) λe=>by have:=Su.1 e;omega).trans (h.old i d),T7 h.size k.kp.1,k.os.trans h.os,k.out.trans h.out⟩
def mx(I:SQ->Prop)(w:SQ):Prop:=I w
def mx.mk{I w}(h:I w):mx I w:=h
def mx.out{I w}(h:mx I w):I w:=h
def mx.old{I a b}(H:mx I a)[hI:oA I](h:Old a b):mx I b:=hI.old h H
def mx.also{I w}(O4:SQ->Prop)(H:mx I w)(h:O4 w):mx (λu=>I u/\O4 u) w:=⟨H,h⟩
section
variable{P:Program}{D:dZ P}{c:Code}{Q:Exit->Act->SQ->Prop}{a:Act}{w:SQ}{I:SQ->Prop}
def ey[hI:oA I](h:∀b,mx I b->c.wp P Q a b)(H:mx I w):cL D c Q a w:=bm λb e=>h b (H.old e.old)
def cx[hI:oA I]{l:List Oper}(s n m)(h:∀N,Hid (∀f d,aV D l.toArray Q (SD (s+n) m) f d->N f d)->∀b,mx I b->wpList P l.toArray (Exit.then N Q) ((l.drop s).take n) a b)(i:s+n<=l.length)(H:mx I w):
 aV D l.toArray Q (SD s (n+m)) a w:=bq s n m (λN g b e=>h N g b (H.old e.old)) i
end
def Qf{s c b a}(h:gK s c=some (.ok b a)):je b a.g:=by
 unfold gK at h;split at h;cases h;exact N9 (by rw[show s.data.toList.length=s.size from by simp];omega) h
def Qy{a c x f d}{g:Int}{G:Nat}{i}{m:FV}(j:g=G)(n:je d g)(l:c<=x)(e:a.heap[x]?=some (.cells (#[i,.int .i64 g,.int .u8 f]++m.1) 103 (0,0)))(k:Repr a (λb=>c<=b/\b≠x) i d):
 da a c a.heap.size x f G d:=by
 have⟨q,h⟩:=LV j e k;exact⟨l,(Td.1 e).1,Sy _,j▸n,q,_,_,_,h⟩
theorem KT.at{f w' b s v}(h:KT f w' b (gK s b) v):
 (v=T0 #[AS none,SK true]/\∃k a,gK s b=some (.err k a))\/∃x c O G,v=T0 #[vp x,SK true]/\gK s b=some (.ok c O)/\O.g=((G:Nat):Int)/\da w' f w'.heap.size x b G c:=by
 cases d:gK s b with
 |none=>rw[d]at h;exact h.elim
 |some r=>
  rw[d]at h;cases r with
  |err k a=>exact .inl ⟨h,k,a,rfl⟩
  |ok c O=>
   obtain⟨x,m,n,rfl,j,l,i⟩:=h;have g:=Qf d;have e:O.g=O.g.toNat:=by have:=g.g0;omega
   exact .inr ⟨x,c,O,O.g.toNat,rfl,rfl,e,Qy e g j l i⟩
end
structure Sq(n G:Nat)(L:List (Int×Int)):Prop where
 len:L.length=G+1
 all:∃b j:Nat,b<=j/\j<=n/\L[0]?=some ((b:Int),(j:Int))/\∀k,1<=k->k<=G->L[k]?=some (-1,-1)\/∃x y:Nat,b<=x/\x<=y/\y<=j/\L[k]?=some ((x:Int),(y:Int))
section
open Go.RowKit Go.Conc
attribute [local instance] fI
def tK(s:ByteArray)(n:Nat):ByteArray:=if n<s.size then s.extract 0 n else s
def FJ(s n):(tK s n).size<=n:=by
 grind [ByteArray.size_extract,tK]
def KI(s)(n:Nat)(w):Calls PH 17 #[SU s,Sv Sz n] w λe b=>e=SL (SU (tK s n))/\b=w:=by
 by_cases h:n<s.size<;>first |(have a:tK s n=s.extract 0 n:=if_pos h;replace a:=AI a;go_enter PH.func Tryz.func17 (by decide),Tryz.ntmps17;go_wp2;go_ret;exact⟨by simp[a.out],rfl⟩)|(have a:tK s n=s:=if_neg h;replace a:=AI a;go_enter PH.func Tryz.func17 (by decide),Tryz.ntmps17;go_wp2;go_ret;exact⟨by simp[a.out],rfl⟩)
def HP{w}{x q a G:Nat}{b S c T e}(h:kh w x q a G b S c T e):Calls PH 20 #[vp x] w λd f=>d=SL (Sv Sz G)/\f=w:=by
 have g:w.cell? ⟨x,1,none⟩=some (Sv Sz G):=h.blk.cell 1;go_enter PH.func Tryz.func20 (by decide),Tryz.ntmps20
 go_wp2;go_ret;simp
theorem IL.at{f:Nat}{w':SQ}{b:Nat}{s:ByteArray}{v:Tb}(h:IL f w' b (gK s b) v):
 (∃k a,v=T0 #[AS none,Sv Sz k,Sv Sz a]/\gK s b=some (.err k a)/\(k !=0)=true)\/∃x c O G,v=T0 #[vp x,Sv Sz 0,Sv Sz 0]/\gK s b=some (.ok c O)/\O.g=((G:Nat):Int)/\da w' f w'.heap.size x b G c:=by
 cases d:gK s b with
 |none=>rw[d]at h;exact h.elim
 |some r=>
  rw[d]at h;cases r with
  |err k a=>
   have p:=HS d;exact .inl ⟨k,a,h,rfl,by simp;omega⟩
  |ok c O=>
   obtain⟨x,m,n,rfl,l,j,i⟩:=h;have g:=Qf d;have e:O.g=(O.g.toNat:Int):=by have:=g.g0;omega
   exact .inr ⟨x,c,O,O.g.toNat,rfl,rfl,e,Qy e g l j i⟩
def Qg{s:ByteArray}{c:Nat}{b:Nd}{a:pD}(h:gK s c=some (.ok b a)):s.size<=120:=by
 unfold gK at h;split at h;cases h;omega
def da.groups{w:SQ}{a g x d G:Nat}{c:Nd}(h:da w a g x d G c):Calls PH 20 #[vp x] w λb f=>b=SL (Sv Sz G)/\f=w:=by
 have⟨q,i,T,e,h⟩:=h.rx;exact HP h
instance{a n:Nat}{v:Tb}{m:Option (List (Int×Int))}:oA λw=>xl w a n v m:=⟨λh k=>k.kq h.kq⟩
def xl.far{a b:SQ}{c n x:Nat}{v:Tb}{m:Option (List (Int×Int))}(h:xl a c n v m)(k:Kq a.heap.size [x] a b)(j:x<c):xl b c n v m:=by
 cases m with
 |none=>exact h
 |some L=>
  have⟨g,i,f,d⟩:=h;exact⟨g,i,f,d.kq k d.lt λe=>by have:=Su.1 e;omega⟩
def da.find{h0:Array Obj}{w:SQ}{m l x b G ev n:Nat}{f:Nd}{s:ByteArray}(h:da w m l x b G f)(hs:s.size<=300)(g:b<256)(c:ev<256)(d:1<=n)(i:n<=20):
 cb (br ek h0) 23 #[AS (some ⟨x,0,none⟩),SU s,Sv Tq ev,Sv Sz n] w λk a=>∃v,k=SL (T0 #[v,Sv Sz 0])/\xl a w.heap.size n v (fj ⟨s,b,ev⟩ f G (s.size+1) 0)/\da a m l x b G f/\Kq w.heap.size [x] w a:=by
 have⟨q,u,T,e,p⟩:=h.rx;refine(JA p h.tree hs g c d i).mono ?_;rintro k a ⟨v,t,r,j⟩;exact⟨v,t,r,h.R5 j,j.2⟩
def da.match_{h0:Array Obj}{w:SQ}{lo hi x fl G ev:Nat}{nd:Nd}{s:ByteArray}(h:da w lo hi x fl G nd)(hs:s.size<=300)(hfl:fl<256)(hev:ev<256):
 cb (br ek h0) 24 #[AS (some ⟨x,0,none⟩),SU s,Sv Tq ev] w λe' w'=>e'=SL (T0 #[SK (fj ⟨s,fl,ev⟩ nd G (s.size+1) 0).isSome,Sv Sz 0])/\da w' lo hi x fl G nd/\Kq w.heap.size [x] w w':=by
 obtain⟨q,dn,T,e,h1⟩:=h.rx;refine(GY h1 h.tree hs hfl hev).mono ?_;rintro e' w' ⟨h2,h4⟩;exact⟨h2,h.R5 h4,h4.2⟩
end
def kindOf(c:Nat):Int:=if 0<=fG c then fG c else if c=42\/c=43\/c=63\/c=123 then 7 else 1
def vx(e b l d c):∀f first S p x,jk e b l d c f first S p=some x->x.t.kind=8\/x.t.kind=1
 |0,_,_,_,_,h=>by cases h
 |f+1,first,S,p,x,h=>by
  unfold jk at h;split at h;cases h;exact .inl rfl;split at h;cases h;exact .inr rfl;split at h;split at h<;>first |(cases h;exact .inl rfl)|exact vx e b l d c f _ _ _ _ h
  split at h;split at h<;>first |(cases h;exact .inl rfl)|exact vx e b l d c f _ _ _ _ h
  exact vx e b l d c f _ _ _ _ h
def Qr(c p rest):(dS c p rest).t.kind=7:=by
 unfold dS;split;rfl;split;rfl;split <;>rfl
def Qp{c}{n:Nat}(a:n<256):c=UInt8.ofNat n↔c.toNat=n:=by
 constructor;simp_all
 intro h;simp[<- h]
theorem QZ{c:UInt8}:c=42\/c=43\/c=63\/c=123↔c.toNat=42\/c.toNat=43\/c.toNat=63\/c.toNat=123:=
 or_congr (Qp (n:=42) (by decide)) (or_congr (Qp (n:=43) (by decide)) (or_congr (Qp (n:=63) (by decide)) (Qp (n:=123) (by decide))))
def jB{ln fold l p}(h:l.drop p=[]):eB ln fold l p=some ⟨ly 0 p,none,false,p⟩:=by
 simp[eB,h]
def MM{i b l p c r x}(h:l.drop p=c::r)(a:eB i b l p=some x):x.t.kind=kindOf c.toNat\/kindOf c.toNat=1/\x.t.kind=8:=by
 simp[eB,h]at a;unfold kindOf;split at a
 .next e=>
  cases a;rw[if_pos e];exact .inl rfl
 .next e=>
  rw[if_neg e];have g:= @QZ c;split at a
  .next d=>
   rw[if_pos (g.1 d)];cases a;exact .inl (Qr ..)
  .next d=>
   rw[if_neg λh=>d (g.2 h)];have f:x.t.kind=1\/x.t.kind=8->x.t.kind=1\/(1:Int)=1/\x.t.kind=8:=λh=>h.elim .inl λh=>.inr ⟨rfl,h⟩
   apply f;split at a;rcases vx _ _ _ _ _ _ _ _ _ _ a with h|h<;>omega
   split at a;cases a;exact .inl rfl;split at a;split at a;cases a;exact .inr rfl;split at a;cases a;exact .inr rfl;split at a<;>first |(cases a;exact .inr rfl)|(cases a;exact .inl rfl)
   cases a;exact .inl rfl
structure Rg(c:Nat)(x:mP):Prop where
 k0:x.t.kind≠0
 k6:x.t.kind=6↔c=124
 k5:x.t.kind=5↔c=41
 k4:x.t.kind=4↔c=40
 k7:x.t.kind=7↔(c=42\/c=43\/c=63\/c=123)
section
mutual
def core:Nd->Nd
 | .set _ a b c d=>.set 0 a b c d
 | .edge _ f=>.edge 0 f
 | .seq _ ks=>.seq 0 (ef ks)
 | .alt _ ks=>.alt 0 (ef ks)
 | .grp _ k _=>.grp 0 (core k) 0
 | .rep _ k l m=>.rep 0 (core k) l m
def ef:List Nd->List Nd
 |[]=>[]
 |k::ks=>core k::ef ks
end
def nu(a):ef a=a.map core:=by
 induction a with
 |nil=>rfl
 |cons k a b=>simp[ef,b]
def GA{b a k k'}(h:ef a=ef b)(c:core k'=core k):ef (a++[k'])=ef (b++[k]):=by
 simp_all[nu]
def QN{b a}(h:ef a=ef b):a.length=b.length:=by
 have:=congrArg List.length h;simpa[nu]using this
mutual
def j0(M):∀e i,bv M (core e) i=bv M e i
 | .set ..,i=>by simp[core,bv]
 | .edge ..,i=>by simp[core,bv]
 | .seq _ d,i=>Qd M d i
 | .alt _ d,i=>Qe M d i
 | .grp _ k _,i=>j0 M k i
 | .rep _ k l m,i=>by simp[core,bv,show bv M (core k)=bv M k from funext (j0 M k)]
def Qd(M:MT):∀(d:List Nd)(i:Nat),dL M (ef d) i=dL M d i
 |[],i=>rfl
 |k::d,i=>by simp[ef,dL,j0 M k i,show dL M (ef d)=dL M d from funext (Qd M d)]
def Qe(M:MT):∀(d:List Nd)(i:Nat),iK M (ef d) i=iK M d i
 |[],i=>rfl
 |k::d,i=>by simp[ef,iK,j0 M k i,Qe M d i]
end
def QL{x a s}(h:0<=Tz x a):Tz (x++s) a=Tz x a:=by
 induction x with
 |nil=>
  unfold Tz at h ⊢;grind
 |cons b x f=>
  rw[SF];rw[Lib.index.eq_2]at h ⊢;rw[Lib.index.eq_2];by_cases c:a.isPrefixOf (b::x)=true;have:a.isPrefixOf (b::(x++s))=true:=by
   grind
  rw[if_pos c,if_pos this];rw[if_neg c]at h ⊢;split at h;omega;next g=>
  have d:0<=Tz x a:=by grind
  have i:=Lib.index_room x a d;have:¬ a.isPrefixOf (b::(x++s))=true:=λe=>c (by
   rw[List.isPrefixOf_iff_prefix]at e ⊢;exact List.prefix_of_prefix_length_le e ⟨s,by simp⟩ (by grind))
  rw[if_neg this,f d]
def R2{x a s}(h:(TK x a).2.2=true):TK (x++s) a=((TK x a).1,(TK x a).2.1++s,true):=by
 unfold TK at h ⊢;split at h
 .next b=>
  have:=Lib.index_room x a b;rw[QL b];grind
 .cases h
def Qn{x s c}(h:0<=Tf x c):Tf (x++s) c=Tf x c:=by
 induction x with
 |nil=>exact absurd h (by simp[Tf])
 |cons b x a=>
  unfold Tf at h ⊢;grind
def QB{S c b r s x}(h:jE S (c::b::r)=some x):jE S (c::b::(r++s))=some x:=by
 simp_all[R2,jE]
section
variable{ln fold:Bool}{l l' a s:List UInt8}
def wk{p}(b:p<=l.length):(a++l++s).drop (a.length+p)=l.drop p++s:=by
 rw[TL,List.drop_length_add_append,List.drop_append_of_le_length b]
def sx{u q q'}:∀f first S p x,jk ln fold l u q f first S p=some x->x.wr=none->p<=l.length->∀i,f<=i->
 ∃w D,x=⟨iI q w,none,true,D⟩/\jk ln fold (a++l++s) u q' i first S (a.length+p)=some ⟨iI q' w,none,true,a.length+D⟩
 |0,_,_,_,_,h,_,_,_,_=>by cases h
 |f+1,first,S,p,x,h,j,E,i,m=>by
  obtain⟨i,rfl⟩:∃g,i=g+1:=⟨i-1,by omega⟩;have m:f<=i:=by omega
  unfold jk at h ⊢;rw[wk E];have n:∀(g:Nat)(C:Bool)(T:cS)(t:Nat),l.drop t=[]->jk ln fold l u q g C T t=some x->False:=λg C T t k h=>by
   cases g with
   |zero=>cases h
   |succ g=>simp[jk,k]at h;cases h;cases j
  cases k:l.drop p with
  |nil=>rw[k]at h;cases h;cases j
  |cons c r=>
   have z:=rl k;have G:l.drop (p+1)=r:=by simp[<- List.drop_drop,k]
   rw[k]at h;simp only[SF]at h ⊢;by_cases I:c=93/\first=false
   grind
   rw[if_neg I]at h ⊢;cases r with
   |nil=>
    grind
   |cons b r=>
    simp only[SF,SH]at h ⊢;by_cases v:c=91/\0<=Tf [58,46,61] b
    .rw[if_pos ⟨by omega,v⟩]at h ⊢;split at h;cases h;cases j;next y B=>
     rw[QB B];simp[SH]at z;have:=(yq B (by simp)).1;simp[SH]at this;have:=sx (q':=q') f false y.1 (p+y.2) x h j (by omega) i m;grind
    .rw[if_neg λh=>v h.2]at h ⊢;cases r with
     |nil=>
      have F:b≠45:=by
       rintro rfl;cases f with
       |zero=>cases h
       |succ f=>
        simp_all[jk]
      rw[if_neg λh=>F h.2.1];have:=sx (q':=q') f false _ (p+1) x h j (by omega) i m;omega
     |cons e r=>
      simp only[SF,List.getD_cons_zero,List.getD_cons_succ,SH]at h ⊢;simp[SH]at z;by_cases A:b=45/\e≠93
      .rw[if_pos ⟨by omega,A⟩]at h ⊢;split at h;cases h;cases j;next H=>
       rw[if_neg H];have:=sx (q':=q') f false _ (p+3) x h j (by omega) i m;omega
      .rw[if_neg λh=>A h.2]at h ⊢;have:=sx (q':=q') f false _ (p+1) x h j (by omega) i m;omega
def Qx{r}(h:(dU r).2.2.1=true):dU (r++s)=dU r:=by
 unfold dU at h ⊢;split at h;cases h;next b=>
 have c:=HE b;rw[Qn (by omega),if_neg b,if_neg b,List.take_append_of_le_length (by omega)]
def QI{p x}(C:p<=l.length)(h:eB ln fold l p=some x)(g:x.wr=none)(h0:x.t.kind≠0):
 ∃z,eB ln fold (a++l++s) (a.length+p)=some ⟨{x.t with at_:=z},none,x.more,a.length+x.p⟩:=by
 unfold eB at h ⊢;rw[wk C];cases m:l.drop p with
 |nil=>rw[m]at h;cases h;exact absurd rfl h0
 |cons c r=>
  have F:=rl m;have f:l.drop (p+1)=r:=by simp[<- List.drop_drop,m]
  rw[m]at h;simp only[SF]at h ⊢;split at h;next n=>rw[if_pos n];cases h;exact⟨_,rfl⟩
  next n=>
  rw[if_neg n];split at h
  .next i=>
   rw[if_pos i];cases h;unfold dS at g ⊢;split;exact⟨_,rfl⟩;split;exact⟨_,rfl⟩;split;exact⟨_,rfl⟩;next t k j=>
   dsimp only at g ⊢;have w:(dU r).2.2.1=true:=by
    grind
   rw[Qx w,w];exact⟨_,by simp[od];exact⟨rfl,by omega⟩⟩
  next i=>
  rw[if_neg i];split at h
  .next t=>
   unfold ET at h ⊢;have u:a.length+p+1=a.length+(p+1):=by omega
   rw[u,wk (by omega)];rw[f]at h ⊢;have v:Tm (r++s) [94]=Tm r [94]:=by
    cases r with
    |nil=>
     simp[jk]at h;have e:Tm [] [94]=false:=rfl;rw[e]at h;rw[if_neg (by simp),f]at h;cases h;cases g
    |cons b r=>rfl
   dsimp only at h ⊢;have A:∀q,q<=l.length->jk ln fold l (Tm r [94]) p (l.length+1) true co q=some x->∃z,jk ln fold (a++l++s) (Tm r [94]) (a.length+p) ((a++l++s).length+1) true co (a.length+q)=some ⟨{x.t with at_:=z},none,x.more,a.length+x.p⟩:=λq u h=>by
    obtain⟨E,G,rfl,i⟩:=sx (a:=a) (s:=s) (q':=a.length+p) _ _ _ _ _ h g u ((a++l++s).length+1) (by grind);exact⟨_,i⟩
   split at h
   .next D=>
    have:=qw (l:=l) (p:=p+1) (c:=94) (by rw[f];omega);grind
   grind
  next t=>
  rw[if_neg t];split at h;next k=>rw[if_pos k];cases h;exact⟨_,rfl⟩
  next k=>
  rw[if_neg k];split at h
  .next j=>
   rw[if_pos j];cases r with
   |nil=>cases h;cases g
   |cons d r=>
    simp[SF]at h ⊢;split at h;cases h;cases g;next y=>
    rw[if_neg y];split at h;cases h;cases g;next B=>
    rw[if_neg B];cases h;exact⟨_,rfl⟩
  .next j=>rw[if_neg j];cases h;exact⟨_,rfl⟩
structure Sh(ln fold:Bool)(l l':List UInt8)(k:Nat)(K:Int):Prop where
 tok:∀p x,p<=l.length->eB ln fold l p=some x->x.wr=none->x.t.kind≠0->∃z,eB ln fold l' (k+p)=some ⟨{x.t with at_:=z},none,x.more,k+x.p⟩
 fin:∃y,eB ln fold l' (k+l.length)=some y/\y.t.kind=K
 kind:K=0\/K=5\/K=6
def QK(c):kindOf c≠0:=by
 unfold kindOf;split;next h=>have:=CJ h;omega
 omega
def QM{p x}(f:p<=l.length)(d:eB ln fold l p=some x)(h0:x.t.kind=0):p=l.length:=by
 cases b:l.drop p with
 |nil=>have:=congrArg List.length b;grind
 |cons c r=>rcases MM b d with h|⟨h,e⟩<;>have:=QK c.toNat<;>omega
def Sh.at_{k K}(h:Sh ln fold l l' k K){p x}(b:p<=l.length)(c:eB ln fold l p=some x)(e:x.wr=none):
 ∃y,eB ln fold l' (k+p)=some y/\((x.t.kind≠0/\p<x.p/\x.p<=l.length/\∃z,y=⟨{x.t with at_:=z},none,x.more,k+x.p⟩)\/x.t.kind=0/\p=l.length/\y.t.kind=K):=by
 by_cases d:x.t.kind=0;have g:=QM b c d;have⟨y,f,i⟩:=h.fin<;>grind;have⟨z,j⟩:=h.tok p x b c e d;have⟨f,i⟩:=qi b c d (.inl e)<;>grind
def Qb(x:Option (g8 Nd)):Prop:=∃b s,x=some (.ok b s)
def ShR(l:List UInt8)(k:Nat)(C:Nat->Prop)(s d:pD)(x e:Option (g8 Nd)):Prop:=
 ∀f b,x=some (.ok f b)->s.p<=b.p/\b.p<=l.length/\s.g<=b.g/\(d.g+(b.g-s.g)<=9\/Qb e->C b.p->∃c,e=some (.ok c ⟨k+b.p,d.n+(b.n-s.n),d.g+(b.g-s.g)⟩)/\core c=core f)
def ShR.none_{k C s c b}:ShR l k C s c none b:=λ_ _ h=>by cases h
def ShR.err{k C s d c e b}:ShR l k C s d (some (.err e b)) c:=λ_ _ h=>by cases h
def ShR.tx{k C C' s j x n f z}(H:ShR l k C s j x n)
 (q:∀c b g,s.p<=b.p->b.p<=l.length->s.g<=b.g->core g=core c->ShR l k C' b ⟨k+b.p,j.n+(b.n-s.n),j.g+(b.g-s.g)⟩ (f c b) (z g ⟨k+b.p,j.n+(b.n-s.n),j.g+(b.g-s.g)⟩))
 (F:∀c b d i,x=some (.ok c b)->f c b=some (.ok d i)->C' i.p->C b.p):ShR l k C' s j (mb x f) (mb n z):=by
 cases x with
 |none=>exact .none_
 |some r=>
  cases r with
  |err=>exact .err
  |ok c b=>
   intro d i h;have⟨p,D,y,G⟩:=H c b rfl;have w:=q c b c p D y rfl d i h;refine⟨T7 p w.1,w.2.1,by omega,λA B=> ?_⟩;obtain⟨g,rfl,K⟩:=G (A.imp (by omega) λ⟨u,v,e⟩=>by
    cases n with
    |none=>cases e
    |some r=>cases r with|err=>cases e|ok a t=>exact⟨a,t,rfl⟩) (F c b d i rfl h B)
   have⟨m,I,E⟩:=(q c b g p D y K d i h).2.2.2 (A.imp (by grind) id) B;refine⟨m,I.trans ?_,E⟩;grind
def ShR.from_{k C d s b t t' x c}(h:ShR l k C t t' x c)(j:s.p<=t.p)(r:s.g<=t.g)(n:t'.n-t.n=b.n-s.n)(g:t'.g-t.g=b.g-s.g)(u:∀p,p<=l.length->d p->C p):ShR l k d s b x c:=λi f e=>by
 have⟨w,v,m,q⟩:=h i f e<;>grind
def ShR.here{k C s n' g' c b}(d:s.p<=l.length)(h:core b=core c):ShR l k C s ⟨k+s.p,n',g'⟩ (some (.ok c s)) (some (.ok b ⟨k+s.p,n',g'⟩)):=λ_ _ e=>by
 grind
def R6(ln fold:Bool)(l:List UInt8)(K:Int)(p:Nat):Prop:=(p<l.length\/K≠6)/\∃x,eB ln fold l p=some x/\x.wr=none
def QE(ln fold:Bool)(l:List UInt8)(p:Nat):Prop:=∃x,eB ln fold l p=some x/\x.wr=none
def Qc{f d id ks s s1 nd}(i:s.p<=l.length)(h:lU ln fold l f d id ks s=some (.ok nd s1)):QE ln fold l s.p:=by
 cases f with
 |zero=>cases h
 |succ f=>
  unfold lU at h;have⟨x,b,_,_,_,e⟩:=ib ln fold l s.p i;simp[b]at h;refine⟨x,b,?_⟩;have c:=e.bad;cases g:x.wr with
  |none=>rfl
  |some w=>
   rw[g]at c;have j:=e.bk c;rw[if_neg (by omega)]at h;split at h;cases h;cases f with
   |zero=>cases h
   |succ f=>
    unfold oe at h;cases f with
    |zero=>cases h
    |succ f=>
     simp[oU,b,g]at h;cases h
def Qs{k K}(S:Sh ln fold l l' k K)(f):
 (∀d g s c b,s.p<=l.length->0<=d->0<=g->(d≠0\/K=5->g≠0)->ShR l k (R6 ln fold l K) s ⟨k+s.p,c,b⟩ (qY ln fold l f d s) (qY ln fold l' f g ⟨k+s.p,c,b⟩))/\
 (∀d g id id' X t s c b,s.p<=l.length->0<=d->0<=g->(d≠0\/K=5->g≠0)->ef t=ef X->ShR l k (R6 ln fold l K) s ⟨k+s.p,c,b⟩ (lV ln fold l f d id X s) (lV ln fold l' f g id' t ⟨k+s.p,c,b⟩))/\
 (∀d g s c b,s.p<=l.length->0<=d->0<=g->(d≠0\/K=5->g≠0)->ShR l k (λ_=>True) s ⟨k+s.p,c,b⟩ (sL ln fold l f d s) (sL ln fold l' f g ⟨k+s.p,c,b⟩))/\
 (∀d g id id' X t s c b,s.p<=l.length->0<=d->0<=g->(d≠0\/K=5->g≠0)->ef t=ef X->ShR l k (λ_=>True) s ⟨k+s.p,c,b⟩ (lU ln fold l f d id X s) (lU ln fold l' f g id' t ⟨k+s.p,c,b⟩))/\
 (∀d g s c b,s.p<=l.length->0<=d->0<=g->(d≠0\/K=5->g≠0)->(∀x,eB ln fold l s.p=some x->x.t.kind≠0)->ShR l k (QE ln fold l) s ⟨k+s.p,c,b⟩ (oe ln fold l f d s) (oe ln fold l' f g ⟨k+s.p,c,b⟩))/\
 (∀nd Q s c b,s.p<=l.length->core Q=core nd->ShR l k (QE ln fold l) s ⟨k+s.p,c,b⟩ (iC ln fold l f nd s) (iC ln fold l' f Q ⟨k+s.p,c,b⟩))/\
 (∀d g s c b,s.p<=l.length->0<=d->0<=g->(d≠0\/K=5->g≠0)->(∀x,eB ln fold l s.p=some x->x.t.kind≠0)->ShR l k (λ_=>True) s ⟨k+s.p,c,b⟩ (oU ln fold l f d s) (oU ln fold l' f g ⟨k+s.p,c,b⟩))/\
 ∀d g s c b,s.p<=l.length->0<=d->0<=g->(∀x,eB ln fold l s.p=some x->x.t.kind=4)->ShR l k (λ_=>True) s ⟨k+s.p,c,b⟩ (og ln fold l f d s) (og ln fold l' f g ⟨k+s.p,c,b⟩):=by
 have hK:=S.kind;have M:∀{p:Nat}{x:mP},p<=l.length->eB ln fold l p=some x->x.t.kind≠7->x.t.kind≠8->x.wr=none:=λ{p x} j n C A=>by
  have⟨y,q,_,_,_,h4⟩:=ib ln fold l p j;cases n.symm.trans q;have hb:=h4.bad;cases I:x.wr with
  |none=>rfl
  |some w=>rw[I]at hb;rcases h4.bk hb with h|h<;>omega
 induction f with
 |zero=>exact⟨λ_ _ _ _ _ _ _ _ _=>.none_,λ_ _ _ _ _ _ _ _ _ _ _ _ _ _=>.none_,λ_ _ _ _ _ _ _ _ _=>.none_,λ_ _ _ _ _ _ _ _ _ _ _ _ _ _=>.none_,λ_ _ _ _ _ _ _ _ _ _=>.none_,λ_ _ _ _ _ _ _=>.none_,λ_ _ _ _ _ _ _ _ _ _=>.none_,λ_ _ _ _ _ _ _ _ _=>.none_⟩
 |succ f ih=>
  obtain⟨i1,i2,i3,i4,i5,i6,i7,i8⟩:=ih;refine⟨λd g s c b j D i G=> ?_,λd g id id' X t s c b j D i G hk=> ?_,λd g s c b j D i G=> ?_,λd g id id' X t s c b j D i G hk=> ?_,λd g s c b j D i G P=> ?_,λnd Q s c b j T=> ?_,λd g s c b j D i G P=> ?_,λd g s c b j D i P=> ?_⟩;unfold qY;exact(i2 d g _ _ [] [] ⟨s.p,s.n+1,s.g⟩ (c+1) b j D i G rfl).from_ (Sy _) (SX _) (by grind) (by dsimp only) λ_ _ h=>h
  unfold lV;refine(i3 d g s c b j D i G).tx (λk1 E N h1 r h3 T=> ?_) λ_ _ _ _ _ _ _=>trivial
  dsimp only;cases n:eB ln fold l E.p with
  |none=>exact .none_
  |some x=>
   dsimp only;by_cases h6:x.t.kind=6;rw[if_pos h6];obtain⟨y,q,⟨_,C,A,z,rfl⟩|⟨C,_⟩⟩:=S.at_ r n (M r n (by omega) (by omega));rw[q];dsimp only;rw[if_pos h6];exact(i2 d g id id' _ _ ⟨x.p,E.n,E.g⟩ _ _ A D i G (GA hk T)).from_ (by grind) (by simp) (by dsimp only) (by dsimp only) λ_ _ h=>h
   omega;rw[if_neg h6];intro nd2 s2 e;cases e;refine⟨Sy _,r,SX _,λ_ R=> ?_⟩;have⟨R,z,hz,hzw⟩:=R;cases n.symm.trans hz;have⟨y,q,hy6⟩:∃y,eB ln fold l' (k+E.p)=some y/\y.t.kind≠6:=by
    obtain⟨y,q,⟨_,C,A,z,rfl⟩|⟨C,A,W⟩⟩:=S.at_ r n hzw<;>grind
   rw[q];dsimp only;rw[if_neg hy6];refine⟨.alt id' (t++[N]),?_,by simp only[core,Nd.alt.injEq,true_and];exact GA hk T⟩;simp
  unfold sL;exact(i4 d g _ _ [] [] ⟨s.p,s.n+1,s.g⟩ (c+1) b j D i G rfl).from_ (Sy _) (SX _) (by grind) (by dsimp only) λ_ _ h=>h
  unfold lU;dsimp only;cases n:eB ln fold l s.p with
  |none=>exact .none_
  |some x=>
   dsimp only;by_cases H:x.t.kind=0\/x.t.kind=6\/x.t.kind=5;rw[if_pos H];by_cases h5:x.t.kind=5/\d=0;rw[if_pos h5];exact .err;rw[if_neg h5];by_cases hk0:X.length=0;rw[if_pos hk0];exact .err;rw[if_neg hk0];have⟨y,q,hy1,hy2⟩:∃y,eB ln fold l' (k+s.p)=some y/\(y.t.kind=0\/y.t.kind=6\/y.t.kind=5)/\¬ (y.t.kind=5/\g=0):=by
    obtain⟨y,q,⟨_,C,A,z,rfl⟩|⟨C,A,W⟩⟩:=S.at_ j n (M j n (by omega) (by omega))<;>grind
   rw[q];dsimp only;rw[if_pos hy1,if_neg hy2,if_neg (by rw[QN hk];omega)];exact .here j (by simp only[core,hk]);rw[if_neg H];by_cases C:x.t.kind=7;rw[if_pos C];exact .err;rw[if_neg C];intro nd E e;have hgood:x.wr=none:=by
    obtain⟨u,B,I⟩:=Qc (f:=f+1) (d:=d) (id:=id) (ks:=X) (s1:=E) (nd:=nd) j (by unfold lU;rw[n];simp[*])<;>grind
   obtain⟨y,q,⟨_,h7',A,z,rfl⟩|⟨h7',_⟩⟩:=S.at_ j n hgood;rw[q];dsimp only;rw[if_neg H,if_neg C];refine ShR.tx (C':=λ_=>True) (i5 d g s c b j D i G λu B=> ?_) (λk1 E N h1 r h3 T=>i4 d g id id' _ _ E _ _ r D i G (GA hk T)) (λk1 E _ _ e1 e2 _=>Qc (i5 d g s c b j D i G λu B=>by cases n.symm.trans B<;>omega _ _ e1).2.1 e2) nd E e;cases n.symm.trans B<;>omega;omega
  unfold oe;exact(i7 d g s c b j D i G P).tx (λk1 E N h1 r h3 T=>i6 k1 N E _ _ r T) λ_ _ _ _ _ _ _=>trivial
  unfold iC;dsimp only;cases n:eB ln fold l s.p with
  |none=>exact .none_
  |some x=>
   dsimp only;by_cases C:x.t.kind=7;rw[if_pos C];cases I:x.wr with
   |some w=>exact .err
   |none=>
    dsimp only;obtain⟨y,q,⟨_,A,W,z,rfl⟩|⟨A,_⟩⟩:=S.at_ j n I;rw[q];dsimp only;rw[if_pos C];exact(i6 _ _ ⟨x.p,s.n+1,s.g⟩ (c+1) b W (by simp only[core,T])).from_ (by dsimp only;omega) (SX _) (by dsimp only;omega) (by dsimp only) λ_ _ h=>h
    omega
   rw[if_neg C];intro nd2 s2 e;cases e;refine⟨Sy _,j,SX _,λ_ R=> ?_⟩;have⟨u,B,I⟩:=R;cases n.symm.trans B;have⟨y,q,hy7⟩:∃y,eB ln fold l' (k+s.p)=some y/\y.t.kind≠7:=by
    obtain⟨y,q,⟨_,A,W,z,rfl⟩|⟨A,W,L⟩⟩:=S.at_ j n I<;>first |exact⟨_,q,C⟩|exact⟨y,q,by rw[L];omega⟩
   rw[q];simp[*]
  unfold oU;dsimp only;cases n:eB ln fold l s.p with
  |none=>exact .none_
  |some x=>
   dsimp only;cases I:x.wr with
   |some w=>exact .err
   |none=>
    dsimp only;obtain⟨y,q,⟨_,A,W,z,rfl⟩|⟨A,_⟩⟩:=S.at_ j n I;rw[q];dsimp only;have fin:∀(m m':Nd),core m'=core m->ShR l k (λ_=>True) s ⟨k+s.p,c,b⟩ (some (.ok m ⟨x.p,s.n+1,s.g⟩)) (some (.ok m' ⟨k+x.p,c+1,b⟩)):=λm m' h=>(ShR.here (s:=⟨x.p,s.n+1,s.g⟩) (n':=c+1) (g':=b) W h).from_ (by dsimp only;omega) (SX _) (by dsimp only;omega) (by dsimp only) λ_ _ h=>h
    by_cases h4:x.t.kind=4;rw[if_pos h4,if_pos h4];simp[*];rw[if_neg h4,if_neg h4];by_cases r:x.t.kind=2;rw[if_pos r,if_pos r];exact fin _ _ (by simp only[core]);rw[if_neg r,if_neg r];by_cases h3:x.t.kind=3;rw[if_pos h3,if_pos h3];exact fin _ _ (by simp only[core]);rw[if_neg h3,if_neg h3];exact fin _ _ (by simp only[core]);exact absurd A (P x n)
  unfold og;dsimp only;cases n:eB ln fold l s.p with
  |none=>exact .none_
  |some x=>
   dsimp only;have h4:=P x n;obtain⟨y,q,⟨_,A,W,z,rfl⟩|⟨A,_⟩⟩:=S.at_ j n (M j n (by omega) (by omega));rw[q];dsimp only;by_cases hg:s.g=9;rw[if_pos hg];exact .err;rw[if_neg hg];have key:ShR l k (λ_=>True) ⟨x.p,s.n+1,s.g+1⟩ ⟨k+x.p,c+1,b+1⟩ (mb (qY ln fold l f (d+1) ⟨x.p,s.n+1,s.g+1⟩) λk F=>match eB ln fold l F.p with
    |none=>none
    |some y=>if y.t.kind=5 then some (.ok (.grp (s.n+1) k (s.g+1)) ⟨y.p,F.n,F.g⟩)else some (.err 10 x.t.at_))
    (mb (qY ln fold l' f (g+1) ⟨k+x.p,c+1,b+1⟩) λk F=>match eB ln fold l' F.p with
    |none=>none
    |some y=>if y.t.kind=5 then some (.ok (.grp (c+1) k (b+1)) ⟨y.p,F.n,F.g⟩)else some (.err 10 z)):=by
    refine(i1 (d+1) (g+1) ⟨x.p,s.n+1,s.g+1⟩ (c+1) (b+1) W (by omega) (by omega) λ_=>by omega).tx (λk1 F N h1 r h3 T=> ?_) λk1 F _ _ e1 e2 _=> ?_
    dsimp only;cases B:eB ln fold l F.p with
    |none=>exact .none_
    |some u=>
     dsimp only;by_cases h5:u.t.kind=5<;>first |(rw[if_pos h5];obtain⟨v,hv,⟨_,L,h11,z',rfl⟩|⟨L,_⟩⟩:=S.at_ r B (M r B (by omega) (by omega))<;>first |(rw[hv];dsimp only;rw[if_pos h5];exact(ShR.here (s:=⟨u.p,F.n,F.g⟩) h11 (by simp only[core,T])).from_ (by dsimp only;omega) (SX _) (by dsimp only) (by dsimp only) λ_ _ h=>h)|omega)|(rw[if_neg h5];exact .err)
    have r:=(i1 (d+1) (g+1) ⟨x.p,s.n+1,s.g+1⟩ (c+1) (b+1) W (by omega) (by omega) λ_=>by omega _ _ e1).2.1;cases B:eB ln fold l F.p with
    |none=>rw[B]at e2;cases e2
    |some u=>
     rw[B]at e2;dsimp only at e2;split at e2
     .next h5=>
      have I:=M r B (by omega) (by omega);have:=qi r B (by omega) (.inl I);exact⟨.inl (by omega),u,B,I⟩
     .cases e2
   intro nd E e;have⟨L,h11,h12,h13⟩:=key nd E e;dsimp only at L h12 h13;refine⟨by omega,h11,by omega,λhg9 R=> ?_⟩;dsimp only at hg9;have hg':b≠9:=by
    rcases hg9 with h|⟨u,v,h⟩<;>first |omega |(rintro rfl;rw[if_pos rfl]at h;cases h)
   rw[if_neg hg']at hg9;have⟨Q,h14,h15⟩:=h13 (hg9.imp (by omega) id) trivial;rw[if_neg hg'];refine⟨Q,h14.trans ?_,h15⟩;simp only[Option.some.injEq,g8.ok.injEq,pD.mk.injEq,true_and];omega;omega
end
section
variable{ln fold:Bool}{l l' a s:List UInt8}
def bs{c:Type}(x b:Option c):Prop:=∀r,x=some r->b=some r
def bs.tx{g i x c}{f b:g->pD->Option (g8 i)}(h:bs x c)(d:∀a s,bs (f a s) (b a s)):bs (mb x f) (mb c b):=λr e=>by
 cases x with
 |none=>cases e
 |some y=>rw[h y rfl];cases y with|ok a s=>exact d a s r e|err k t=>exact e
def bs.Ci{b}{x:Option b}:bs x x:=λ_ h=>h
def R0(ln fold l f):(∀d s,bs (qY ln fold l f d s) (qY ln fold l (f+1) d s))/\(∀d b c s,bs (lV ln fold l f d b c s) (lV ln fold l (f+1) d b c s))/\
 (∀d s,bs (sL ln fold l f d s) (sL ln fold l (f+1) d s))/\(∀d b c s,bs (lU ln fold l f d b c s) (lU ln fold l (f+1) d b c s))/\
 (∀d s,bs (oe ln fold l f d s) (oe ln fold l (f+1) d s))/\(∀k s,bs (iC ln fold l f k s) (iC ln fold l (f+1) k s))/\
 (∀d s,bs (oU ln fold l f d s) (oU ln fold l (f+1) d s))/\∀d s,bs (og ln fold l f d s) (og ln fold l (f+1) d s):=by
 induction f with
 |zero=>
  refine⟨?_,?_,?_,?_,?_,?_,?_,?_⟩;all_goals
   intros
   intro r h;cases h
 |succ f j=>
  have⟨t,n,m,i,g,e,p,q⟩:=j;refine⟨λd s=> ?_,λd b c s=> ?_,λd s=> ?_,λd b c s=> ?_,λd s=>(p _ _).tx λk s=>e _ _,λk s=> ?_,λd s=> ?_,λd s=> ?_⟩
  .rw[qY,qY];grind
  .refine(m _ _).tx λk s=> ?_
   split <;>first |exact .Ci|split <;>first |exact n _ _ _ _|exact .Ci
  .rw[sL,sL];grind
  .rw[lU,lU];split;exact .Ci;repeat' split
   all_goals first
    |exact .Ci
    |exact(g _ _).tx λk s=>i _ _ _ _
  .rw[iC,iC];repeat' split
   all_goals first
    |exact .Ci
    |exact e _ _
  .rw[oU,oU];repeat' split
   all_goals first
    |exact .Ci
    |exact q _ _
  .rw[og,og];repeat' split
   all_goals first
    |exact .Ci
    |exact(t _ _).tx λk s=>.Ci
def Qw(ln fold l d s f k):bs (qY ln fold l f d s) (qY ln fold l (f+k) d s):=by
 induction k with
 |zero=>exact .Ci
 |succ k b=>exactλr h=>(R0 ln fold l (f+k)).1 d s r (b r h)
def ML(ln fold l)(h:l.length<=120):∃r,qY ln fold l 900 0 ⟨0,0,0⟩=some r:=by
 have⟨⟨g,e⟩,v,u,m⟩:=ES ln fold l (l.length+1) 0 (Ta _) (by omega);cases g with
 |nil=>exact absurd rfl m
 |cons t g=>
  by_cases A:t.kind=8;have⟨x,c,_,_,H,n⟩:=ib ln fold l 0 (Ta _);have d:=v;simp[ew,c]at d;have b:x.t=t/\(x.more=false->x.wr=e):=by
   split at d<;>simp_all
  have q:=n.bad;rw[n.k8 (by rw[b.1];omega)]at q;have⟨w,f⟩:=Option.isSome_iff_exists.1 q.symm;have i:x.more=false:=by
   cases j:x.more<;>first |rfl|(have:=n.wrn j;rw[this]at f;cases f)
  have B:gX ln fold l e 0:=⟨x,w,c,by rw[b.1];omega,f,(b.2 i).symm.trans f⟩;have⟨k,a,F,D⟩:=B.alt 894 0 0 0<;>grind;have y:AtP ln fold l e ⟨g,t,0,0⟩ ⟨0,0,0⟩:=⟨Ta _,rfl,rfl,A,_,v⟩;have⟨r,C,_⟩:=(AO (ln:=ln) (fold:=fold) (l:=l) (wr:=e) 892).1 0 ⟨g,t,0,0⟩ ⟨_,y⟩ ⟨SX _,SX _,by grind,by grind⟩ (SX _) (by grind) (by grind);have p:=(zo (ln:=ln) (fold:=fold) (l:=l) (wr:=e) 892).1 0 _ _ y;rw[C]at p;cases r with
  |ok a s=>have⟨G,z,E⟩:=p<;>grind
  |err I s=>have⟨k,a,z,E⟩:=p<;>grind
def Q9{k}(c:l.length<=120):qY ln fold l (900+k) 0 ⟨0,0,0⟩=xP ln fold l:=by
 have⟨r,b⟩:=ML ln fold l c;rw[Qw ln fold l 0 _ 900 k r b,xP,show deep+8=900+1108 from rfl,Qw ln fold l 0 _ 900 1108 r b]
def Qq{K}(c:∃y,eB ln fold (a++l++s) (a.length+l.length)=some y/\y.t.kind=K)(e:K=0\/K=5\/K=6):Sh ln fold l (a++l++s) a.length K:=⟨λp x f h d b=>QI f h d b,c,e⟩
def QS(f):∀d i e s b c,lU ln fold l f d i e s=some (.ok c b)->∃x,eB ln fold l b.p=some x/\(x.t.kind=0\/x.t.kind=6\/x.t.kind=5/\d≠0):=by
 induction f with
 |zero=>intro _ _ _ _ _ _ h;cases h
 |succ f j=>
  intro d i e s b c h;unfold lU at h;split at h;cases h;next x m=>
  split at h;grind
  split at h;cases h;cases g:oe ln fold l f d s with
  |none=>rw[g]at h;cases h
  |some r=>
   rw[g]at h;cases r with
   |err=>cases h
   |ok k n=>exact j _ _ _ _ _ _ h
def QW(f):∀d e i s b g,lV ln fold l f d e i s=some (.ok g b)->∃x,eB ln fold l b.p=some x/\(x.t.kind=0\/x.t.kind=5/\d≠0):=by
 induction f with
 |zero=>intro _ _ _ _ _ _ h;cases h
 |succ f p=>
  intro d e i s b g h;unfold lV at h;cases f with
  |zero=>cases h
  |succ f=>
   cases c:sL ln fold l (f+1) d s with
   |none=>rw[c]at h;cases h
   |some r=>
    rw[c]at h;cases r with
    |err=>cases h
    |ok k m=>
     simp[mb]at h;have⟨x,n,j⟩:=QS f _ _ _ _ _ _ c<;>grind
def Nt{d c}(h:xP ln fold l=some (.ok d c)):c.p=l.length:=by
 have b:=(Nn (ln:=ln) (fold:=fold) (l:=l) (deep+8)).1 0 ⟨0,0,0⟩ (Ta _) (SX _);unfold xP at h;rw[h]at b;have⟨x,e,f⟩:=QW _ _ _ _ _ _ _ h;exact QM b.2.1 e (by omega)
def ki{q c r}(b:l.drop q=c::r)(d:0<=fG c.toNat):eB ln fold l q=some ⟨ly (fG c.toNat) q,none,true,q+1⟩:=by
 simp_all[eB]
def g5(ln fold:Bool)(l:List UInt8)(c q b:Nat)(m:Nd)(G:Int):Prop:=∀(f:Nat)(d n g:Int),900+c<=f->0<=d->g+G<=9->∃k N,oe ln fold l f d ⟨q,n,g⟩=some (.ok k ⟨b,N,g+G⟩)/\core k=m
def oB(ln fold:Bool)(l:List UInt8)(c q b:Nat)(m:Nd)(G:Int):Prop:=∀(f:Nat)(d n g:Int),900+c<=f->0<=d->g+G<=9->∃k N,oU ln fold l f d ⟨q,n,g⟩=some (.ok k ⟨b,N,g+G⟩)/\core k=m
def nx(ln fold:Bool)(l:List UInt8)(c q:Nat)(ms:List Nd)(G:Int):Prop:=∀(f:Nat)(d h n g:Int)(b:List Nd),900+c<=f->0<=d->b.length+ms.length≠0->g+G<=9->∃e N,lU ln fold l f d h b ⟨q,n,g⟩=some (.ok e ⟨l.length,N,g+G⟩)/\core e= .seq 0 (ef b++ms)
def g5.mono{c c' q q' m G}(h:g5 ln fold l c q q' m G)(b:c<=c'):g5 ln fold l c' q q' m G:=λf d n g e=>h f d n g (by omega)
def nx.nil{c q}(m:1<=c)(b:q=l.length):nx ln fold l c q [] 0:=by
 intro f d r n g i k p h j;subst b;obtain⟨f,rfl⟩:∃e,f=e+1:=⟨f-1,by omega⟩;rw[lU];rw[jB (by simp)];dsimp only[ly];rw[if_pos (.inl rfl),if_neg (by simp),if_neg (by simpa using h)];simp[core]
def nx.cons{c q h m ms G b x}(v:eB ln fold l q=some x)(w:x.t.kind≠0/\x.t.kind≠5/\x.t.kind≠6/\x.t.kind≠7)(E:0<=b)(u:g5 ln fold l c q h m G)(hs:nx ln fold l c h ms b):nx ln fold l (c+1) q (m::ms) (G+b):=by
 intro f d A n g z D i _ C;obtain⟨f,rfl⟩:∃e,f=e+1:=⟨f-1,by omega⟩;simp only[lU,v];rw[if_neg (by omega),if_neg w.2.2.2];have⟨k,N,j,y⟩:=u f d n g (by omega) i (by omega);rw[j];have⟨r,B,p,t⟩:=hs f d A N (g+G) (z++[k]) (by omega) i (by simp) (by omega);refine⟨r,B,by rw[<- Int.add_assoc];exact p,?_⟩;simp[t,nu,y]
def g5.of{c q b m G x}(h:oB ln fold l c q b m G)(t:eB ln fold l b=some x)(u:x.t.kind≠7):g5 ln fold l (c+1) q b m G:=by
 intro f d n g v j p;obtain⟨f,rfl⟩:∃e,f=e+2:=⟨f-2,by omega⟩;rw[oe];have⟨k,N,i,r⟩:=h (f+1) d n g (by omega) j p;rw[i];refine⟨k,N,?_,r⟩;show iC ln fold l (f+1) k _=_;rw[iC];grind
def g5.rep{c q b m G x y}(h:oB ln fold l c q b m G)(w:eB ln fold l b=some x)(u:x.t.kind=7)(z:x.wr=none)(A:eB ln fold l x.p=some y)(t:y.t.kind≠7):g5 ln fold l (c+2) q x.p (.rep 0 m x.t.least x.t.most) G:=by
 intro f d n g v i j;obtain⟨f,rfl⟩:∃e,f=e+3:=⟨f-3,by omega⟩;rw[oe];have⟨k,N,p,r⟩:=h (f+2) d n g (by omega) i j;rw[p];refine⟨.rep (N+1) k x.t.least x.t.most,N+1,?_,by simp[core,r]⟩;show iC ln fold l (f+2) k _=_;simp_all[iC]
def nx.top{c ms G}(h:nx ln fold l c 0 ms G)(g:c<=1000)(f:ms.length≠0)(i:G<=9):∃b d,xP ln fold l=some (.ok b d)/\core b= .alt 0 [.seq 0 ms]/\d.g=G:=by
 unfold xP deep;rw[qY];rw[lV,sL];have⟨b,N,e,j⟩:=h 2005 0 (0+1+1) (0+1+1) 0 [] (by omega) (SX _) (by simpa using f) (by omega);simp only[e,mb];rw[jB (by simp)];dsimp only[ly];grind [core,ef]
def oB.grp{p m c}(v:p.length<=120)(h:xP ln fold p=some (.ok m c))(a s):oB ln fold (a++[40]++p++41::s) 2 a.length (a.length+p.length+2) (.grp 0 (core m) 0) (1+c.g):=by
 intro f d n g z B A;obtain⟨f,rfl⟩:∃e,f=e+2:=⟨f-2,by omega⟩;have b:=Nt h;have q:(a++[40]++p++41::s).drop a.length=40::(p++41::s):=by simp
 have i:(a++[40]++p++41::s).drop ((a++[40]).length+p.length)=41::s:=by
  rw[wk (Sy _)];simp
 have t:eB ln fold (a++[40]++p++41::s) a.length=some ⟨ly 4 a.length,none,true,a.length+1⟩:=ki q (by decide);have u:eB ln fold (a++[40]++p++41::s) ((a++[40]).length+p.length)=some ⟨ly 5 ((a++[40]).length+p.length:Nat),none,true,(a++[40]).length+p.length+1⟩:=ki i (by decide);have w:Sh ln fold p (a++[40]++p++41::s) (a++[40]).length 5:=Qq ⟨_,u,rfl⟩ (by omega);have y:=(N9 v h).g0;rw[oU];dsimp only;rw[t];dsimp only[ly];rw[if_pos rfl,og];dsimp only;rw[t];dsimp only[ly];rw[if_neg (by omega)];have⟨_,_,_,x⟩:=(Qs w f).1 0 (d+1) ⟨0,0,0⟩ (n+1) (g+1) (Ta _) (SX _) (by omega) λ_=>by omega m c (by rw[show f=900+(f-900)from by omega,Q9 v];omega)
 have⟨j,k,r⟩:=x (.inl (by grind)) ⟨.inr (by decide),_,by rw[b];exact jB (by simp),rfl⟩;rw[show a.length+1=(a++[40]).length+0 from by simp,k];simp only[mb];rw[b,u];dsimp only[ly];refine⟨.grp (n+1) j (g+1),n+1+(c.n-0),?_,by simp only[core,r]⟩;grind
def oB.edge{q x}{fin:Bool}(j:eB ln fold l q=some x)(h:x.wr=none)(c:x.t.kind=if fin then 3 else 2):oB ln fold l 1 q x.p (.edge 0 fin) 0:=by
 intro f d n g k b i;obtain⟨f,rfl⟩:∃e,f=e+1:=⟨f-1,by omega⟩;rw[oU];cases fin;simp_all[core]
 simp_all[core]
def Ra{p j k}(u:p.length<=100)(h:xP ln fold p=some (.ok j k))(r:k.g<=8):
 ∃b d,xP ln fold ([94]++[40]++p++[41,36])=some (.ok b d)/\core b= .alt 0 [.seq 0 [.edge 0 false,.grp 0 (core j) 0,.edge 0 true]]:=by
 have n:=(N9 (by omega) h).g0;have i:eB ln fold ([94]++[40]++p++[41,36]) 0=some ⟨ly 2 0,none,true,1⟩:=ki (c:=94) rfl (by decide);have m:eB ln fold ([94]++[40]++p++[41,36]) 1=some ⟨ly 4 1,none,true,2⟩:=ki (c:=40) rfl (by decide);have q:([94]++[40]++p++[41,36]).drop (p.length+3)=[36]:=by
  simp
 have g:eB ln fold ([94]++[40]++p++[41,36]) (p.length+3)=some ⟨ly 3 (p.length+3),none,true,p.length+4⟩:=ki q (by decide);have f:([94]++[40]++p++[41,36]).length=p.length+4:=by simp
 have e:=oB.grp (by omega) h [94] [36];rw[show([94]:List UInt8).length=1 from rfl,show 1+p.length+2=p.length+3 from by omega]at e;have⟨b,d,t,v,_⟩:=((((nx.nil (c:=3) (by omega) f.symm).cons g (by simp[ly]) (SX _) ((g5.of (oB.edge (fin:=true) g rfl rfl) (jB (by simp)) (by simp[ly])).mono (by omega))).cons m (by simp[ly]) (by omega) ((g5.of e g (by simp[ly])).mono (by omega))).cons i (by simp[ly]) (by omega) ((g5.of (oB.edge (fin:=false) i rfl rfl) m (by simp[ly])).mono (by omega))).top (by omega) (by simp) (by omega)<;>grind
end
mutual
def eg:Nd->Prop
 | .set .. =>True
 | .edge .. =>False
 | .seq _ ks=>fc ks
 | .alt _ ks=>fc ks
 | .grp _ k _=>eg k
 | .rep _ k _ _=>eg k
def fc:List Nd->Prop
 |[]=>True
 |k::ks=>eg k/\fc ks
end
structure PartOf(M N:MT)(o:Nat):Prop where
 get:∀i,i<N.s.size->M.s.get! (o+i)=N.s.get! i
 size:o+N.s.size<=M.s.size
 small:M.s.size<=300
def MK{M N o}(n:PartOf M N o){g r l m}(p:∀i,i<=M.s.size->Within M i (g i))(d:∀i,i<=N.s.size->Within N i (r i))
 (k:∀i j,i<=N.s.size->j<=N.s.size->((g (o+i)).testBit (o+j)=true↔(r i).testBit j=true)):
 ∀f b i j,i<=N.s.size->j<=N.s.size->((pU g l m f b (o+i)).testBit (o+j)=true↔(pU r l m f b i).testBit j=true)
 |0,_,_,_,_,_=>by simp[pU]
 |f+1,b,i,j,s,t=>by
  have z:=n.size;have w:=n.small;rw[Q0,Q0];refine or_congr (and_congr_right λ_=>by omega) (and_congr_right λ_=> ?_);constructor<;>first |(rintro⟨c,v,h,x,q⟩;have u:=p (o+i) (by omega) c h;have y:=(vz (l:=l) (m:=m) p f (bS l m b) c u.2) (o+j) q;obtain⟨c,rfl⟩:∃e,c=o+e:=⟨c-o,by omega⟩;exact⟨c,by omega,(k i c s (by omega)).1 h,by omega,(MK n p d k f _ c j (by omega) t).1 q⟩)|(rintro⟨c,v,h,x,q⟩;have u:=d i s c h;exact⟨o+c,by omega,(k i c s (by omega)).2 h,by omega,(MK n p d k f _ c j (by omega) t).2 q⟩)
mutual
def sy{M N o}(p:PartOf M N o):∀t,eg t->∀i j,i<=N.s.size->j<=N.s.size->((bv M t (o+i)).testBit (o+j)=true↔(bv N t i).testBit j=true)
 | .set _ B z C A,_,i,j,d,g=>by
  have y:=p.size;rw[bv,bv];by_cases r:i<N.s.size;rw[p.get i r,decide_eq_true (by omega),decide_eq_true r];grind
  grind
 | .edge ..,h,_,_,_,_=>h.elim
 | .seq _ n,h,i,j,d,g=>by exact Kf p n h i j d g
 | .alt _ n,h,i,j,d,g=>by exact Qv p n h i j d g
 | .grp _ k _,h,i,j,d,g=>by exact sy p k h i j d g
 | .rep _ k l m,h,i,j,d,g=>by
  exact MK p (λi d=>bZ M k i d) (λi d=>bZ N k i d) (λi j d g=>sy p k h i j d g) _ _ i j d g
def Kf{M N:MT}{o:Nat}(p:PartOf M N o):∀(n:List Nd),fc n->∀i j,i<=N.s.size->j<=N.s.size->((dL M n (o+i)).testBit (o+j)=true↔(dL N n i).testBit j=true)
 |[],_,i,j,d,g=>by rw[dL,dL,tN,tN,decide_eq_true_eq,decide_eq_true_eq];omega
 |k::n,h,i,j,d,g=>by
  have y:=p.size;have x:=p.small;rw[LS,LS];constructor<;>first |(rintro⟨c,v,q,s⟩;have u:=bZ M k (o+i) (by omega) c q;have w:=qH M n c u.2 (o+j) s;obtain⟨c,rfl⟩:∃e,c=o+e:=⟨c-o,by omega⟩;exact⟨c,by omega,(sy p k h.1 i c d (by omega)).1 q,(Kf p n h.2 c j (by omega) g).1 s⟩)|(rintro⟨c,v,q,s⟩;have u:=bZ N k i d c q;exact⟨o+c,by omega,(sy p k h.1 i c d (by omega)).2 q,(Kf p n h.2 c j (by omega) g).2 s⟩)
def Qv{M N:MT}{o:Nat}(p:PartOf M N o):∀(n:List Nd),fc n->∀i j,i<=N.s.size->j<=N.s.size->((iK M n (o+i)).testBit (o+j)=true↔(iK N n i).testBit j=true)
 |[],_,i,j,d,g=>by simp[iK]
 |k::n,h,i,j,d,g=>by rw[Qa,Qa,sy p k h.1 i j d g,Qv p n h.2 i j d g]
end
mutual
def zR:∀d,eg (core d)↔eg d
 | .set .. =>Iff.rfl
 | .edge .. =>Iff.rfl
 | .seq _ c=>by simp[eg];exact vL c
 | .alt _ c=>vL c
 | .grp _ k _=>zR k
 | .rep _ k .. =>zR k
def vL:∀(c:List Nd),fc (ef c)↔fc c
 |[]=>Iff.rfl
 |k::c=>by simp[ef,fc,zR k,vL c]
end
def fc.push{a k}(h:fc a)(c:eg k):fc (a++[k]):=by
 induction a with
 |nil=>exact⟨c,trivial⟩
 |cons x a b=>exact⟨h.1,b h.2⟩
section
variable{ln fold:Bool}{l:List UInt8}
def R1(E:∀c∈l,c≠94/\c≠36)(f):(∀d s b e,qY ln fold l f d s=some (.ok b e)->eg b)/\
 (∀d w n s b e,fc n->lV ln fold l f d w n s=some (.ok b e)->eg b)/\(∀d s b e,sL ln fold l f d s=some (.ok b e)->eg b)/\
 (∀d w n s b e,fc n->lU ln fold l f d w n s=some (.ok b e)->eg b)/\(∀d s b e,oe ln fold l f d s=some (.ok b e)->eg b)/\
 (∀k s b e,eg k->iC ln fold l f k s=some (.ok b e)->eg b)/\(∀d s b e,oU ln fold l f d s=some (.ok b e)->eg b)/\∀d s b e,og ln fold l f d s=some (.ok b e)->eg b:=by
 have m:∀{x:Option (g8 Nd)}{g:Nd->pD->Option (g8 Nd)}{b e},mb x g=some (.ok b e)->∃k t,x=some (.ok k t)/\g k t=some (.ok b e):=λ{x g b e} h=>by
  cases x with
  |none=>cases h
  |some r=>cases r with|ok a s=>exact⟨a,s,rfl,h⟩|err=>cases h
 induction f with
 |zero=>
  refine⟨?_,?_,?_,?_,?_,?_,?_,?_⟩;intro _ _ _ _ h;cases h;intro _ _ _ _ _ _ _ h;cases h;intro _ _ _ _ h;cases h;intro _ _ _ _ _ _ _ h;cases h;intro _ _ _ _ h;cases h;intro _ _ _ _ _ h;cases h;intro _ _ _ _ h;cases h;intro _ _ _ _ h;cases h
 |succ f M=>
  have⟨H,C,K,B,D,L,P,F⟩:=M;refine⟨λd s b e h=> ?_,λd w n s b e p h=> ?_,λd s b e h=> ?_,λd w n s b e p h=> ?_,λd s b e h=> ?_,λk s b e p h=> ?_,λd s b e h=> ?_,λd s b e h=> ?_⟩
  .rw[qY]at h;exact C _ _ [] _ _ _ trivial h
  .rw[lV]at h;have⟨k,t,q,j⟩:=m h;have v:=p.push (K _ _ _ _ q);split at j<;>first |cases j|split at j<;>first |exact C _ _ _ _ _ _ v j|(cases j;exact v)
  .rw[sL]at h;exact B _ _ [] _ _ _ trivial h
  .rw[lU]at h;split at h;cases h;split at h;split at h;cases h;split at h;cases h;cases h;exact p;split at h<;>first |cases h|(have⟨k,t,q,j⟩:=m h;exact B _ _ _ _ _ _ (p.push (D _ _ _ _ q)) j)
  .rw[oe]at h;grind
  .rw[iC]at h;split at h;cases h;split at h;split at h<;>first |cases h|exact L _ _ _ _ (by exact p) h
   grind
  .rw[oU]at h;split at h;cases h;next x z=>
   split at h;cases h;split at h;exact F _ _ _ _ h;have u:x.t.kind≠2/\x.t.kind≠3:=by
    cases y:l.drop s.p with
    |nil=>rw[jB y]at z;grind [ly]
    |cons c r=>
     have A:=E c (List.mem_of_mem_drop (i:=s.p) (by rw[y];simp));have I:c.toNat≠94:=λh=>A.1 (TR.1 h)
     have G:c.toNat≠36:=λh=>A.2 (TR.1 h)
     have:kindOf c.toNat≠2/\kindOf c.toNat≠3:=by
      grind [kindOf,fG]
     rcases MM y z with h|⟨h,N⟩<;>omega
   rw[if_neg u.1,if_neg u.2]at h;cases h;trivial
  .rw[og]at h;split at h<;>first |cases h|split at h<;>first |cases h|(have⟨k,t,q,j⟩:=m h;have:=H _ _ _ _ q;split at j<;>first |cases j|split at j<;>first |(cases j;exact this)|cases j)
def Rd{a b}(d:∀c∈l,c≠94/\c≠36)(h:xP ln fold l=some (.ok a b)):eg a:=(R1 d _).1 _ _ _ _ h
end
section
variable{M:MT}
def nc(M:MT)(b:List B4)(i:Nat):Prop:=i<M.s.size/\(b.any λb=>iw b.1 b.2.1 b.2.2.1 b.2.2.2 (M.s.get! i).toNat)=true
def J2(M:MT)(x:List B4×Bool)(i p:Nat):Prop:=∀j,p.testBit j=true->(i<j->nc M x.1 i)/\(x.2=false->i<j)
def nc.left{b c i}(h:nc M b i):nc M (b++c) i:=⟨h.1,by simp[h.2]⟩
def nc.right{b c i}(h:nc M c i):nc M (b++c) i:=⟨h.1,by simp[h.2]⟩
def Qi{g l m x}(d:∀i,i<=M.s.size->Within M i (g i))(k:∀i,i<=M.s.size->J2 M x i (g i)):
 ∀f b i,i<=M.s.size->∀j,(pU g l m f b i).testBit j=true->(i<j->nc M x.1 i)/\(x.2=false->(b:Int)<l->i<j)
 |0,_,_,_,j,h=>by simp[pU]at h
 |f+1,b,i,q,j,h=>by
  rw[Q0]at h;rcases h with⟨r,rfl⟩|⟨_,c,r,n,u,p⟩<;>first |exact⟨λh=>by omega,λ_ h=>by omega⟩|(have e:=d i q c n;have v:=(vz (l:=l) (m:=m) d f _ c e.2) j p;have t:=Qi d k f _ c e.2 j p;have s:=k i q c n;grind)
mutual
def nA{G lo hi}:∀s,be G lo hi s->∀i,i<=M.s.size->J2 M (bj s) i (bv M s i)
 | .set _ F C H D,_,i,hi,j,h=>by
  rw[bv]at h;split at h
  .next p=>
   rw[tN,decide_eq_true_eq]at h;rw[Tp,decide_eq_true_eq]at p;exact⟨λ_=>⟨p.1,by simp[bj,p.2]⟩,λ_=>by omega⟩
  grind
 | .edge _ A,_,i,hi,j,h=>by
  rw[bv]at h;split at h;rw[tN,decide_eq_true_eq]at h;simp_all[bj]
  grind
 | .seq _ e,f,i,hi,j,h=>by exact Qh e f.2 i hi j h
 | .alt _ e,f,i,hi,j,h=>by exact Qj e f.2 i hi j h
 | .grp _ k _,f,i,hi,j,h=>by exact nA k f.2.2.2 i hi j h
 | .rep _ k l m,f,i,hi,j,h=>by
  simp only[be]at f;have:=Qi (x:=bj k) (l:=l) (m:=m) (λi hi=>bZ M k i hi) (λi hi=>nA k f.2.2.2.2 i hi) _ 0 i hi j h;rw[bj];grind
def Qh{G lo hi:Int}:∀(e:List Nd),bV G lo hi e->∀(i:Nat),i<=M.s.size->J2 M (iD e) i (dL M e i)
 |[],_,i,hi,j,h=>by
  rw[dL,tN,decide_eq_true_eq]at h;simp_all[iD]
 |k::e,f,i,hi,j,h=>by
  rw[LS]at h;have⟨t,g,n⟩:=f;have⟨c,p,u,w⟩:=h;have v:=bZ M k i hi c u;have E:=qH M e c v.2 j w;have y:=nA k g i hi c u;have z:=Qh e n c v.2 j w;rw[iD];split
  .next B=>
   refine⟨λr=> ?_,λh=> ?_⟩;by_cases q:i<c;exact(y.1 q).left;obtain rfl:c=i:=by omega
   exact(z.1 r).right;grind
  grind
def Qj{G lo hi:Int}:∀(e:List Nd),bV G lo hi e->∀(i:Nat),i<=M.s.size->J2 M (iF e) i (iK M e i)
 |[],_,i,hi,j,h=>by simp[iK]at h
 |k::e,f,i,hi,j,h=>by
  rw[Qa]at h;have⟨t,g,n⟩:=f;rw[iF];rcases h with h|h<;>first |(have:=nA k g i hi j h;exact⟨λh=>(this.1 h).left,λh=>this.2 (Bool.or_eq_false_iff.1 h).1⟩)|(have:=Qj e n i hi j h;exact⟨λh=>(this.1 h).right,λh=>this.2 (Bool.or_eq_false_iff.1 h).2⟩)
end
def QJ{a G lo b}(d:be G lo b a){i j}(hi:i<=M.s.size)(h:(bv M a i).testBit j=true):JU M a i=true:=by
 have:=nA a d i hi j h;unfold JU;cases e:(bj a).2;have c:=this.1 (this.2 e);simp[c.1,c.2];rfl
def fp(M:MT)(a:Nd)(i:Nat):Prop:=∀j,(bv M a i).testBit j=false
def jp(M:MT)(a:Nd)(i j:Nat):Prop:=(bv M a i).testBit j=true/\∀c,(bv M a i).testBit c=true->c<=j
theorem Q8{a G i}(hs:M.s.size<=300)(hi:i<=M.s.size):DR M a G i=none↔fp M a i:=by
 have e:DR M a G i=none↔df (λ_=>true) (bv M a i) 320=none:=by
  grind [DR]
 rw[e,oX];constructor<;>first |(intro h j;cases b:(bv M a i).testBit j<;>first |rfl|(have:=bZ M a i hi j b;grind))|(intro h c _ b;rw[h c]at b;cases b)
def R4{a G i l}(hs:M.s.size<=300)(hi:i<=M.s.size)(h:DR M a G i=some l):∃j,jp M a i j/\l=(Tv (G+1)).map (nn (((0:Int),i,j)::de M a i j)):=by
 unfold DR at h;split at h
 .next j b=>
  cases h;rw[j4]at b;refine⟨j,⟨b.2.1,λc d=> ?_⟩,rfl⟩;have:=bZ M a i hi c d;grind
 .cases h
def Ql{nd G g lo d}(h:be g lo d nd)(hs:M.s.size<=300):∀f i,i+f<=M.s.size+1->(fj M nd G f i=none↔∀c,i<=c->c<i+f->fp M nd c)
 |0,i,_=>by grind [fj]
 |f+1,i,k=>by
  have p:=Ql (nd:=nd) (G:=G) h hs f (i+1) (by omega);have b:(∀c,i<=c->c<i+(f+1)->fp M nd c)↔fp M nd i/\∀c,i+1<=c->c<i+1+f->fp M nd c:=by
   grind
  rw[b,fj];split
  .next e=>
   cases n:DR M nd G i with
   |none=>simp[p,(Q8 hs (by omega)).1 n]
   |some l=>
    grind [Q8]
  .next e=>
   have:fp M nd i:=λj=>by
    cases m:(bv M nd i).testBit j<;>first |rfl|exact absurd (QJ h (by omega) m) e
   grind
def Qk{d G g lo m}(n:be g lo m d){l}(hs:M.s.size<=300):∀f i,i+f<=M.s.size+1->fj M d G f i=some l->∃b j,i<=b/\b<i+f/\(∀c,i<=c->c<b->fp M d c)/\jp M d b j/\l=(Tv (G+1)).map (nn (((0:Int),b,j)::de M d b j))
 |0,i,_,h=>by cases h
 |f+1,i,u,h=>by
  rw[fj]at h;have e:fp M d i->fj M d G f (i+1)=some l->∃b j,i<=b/\b<i+(f+1)/\(∀c,i<=c->c<b->fp M d c)/\jp M d b j/\l=(Tv (G+1)).map (nn ((0,b,j)::de M d b j)):=λs h=>by
   have⟨b,j,q,r,v,w⟩:=Qk n hs f (i+1) (by omega) h<;>grind
  split at h
  .next p=>
   cases k:DR M d G i with
   |none=>rw[k]at h;exact e ((Q8 hs (by omega)).1 k) h
   |some x=>
    have⟨j,q,r⟩:=R4 hs (by omega) k<;>grind
  .next p=>
   refine e (λj=> ?_) h;cases t:(bv M d i).testBit j<;>first |rfl|exact absurd (QJ n (by omega) t) p
end
section
variable{ln fold:Bool}{l l' a s:List UInt8}
def Hr{x}{g:Nd->pD->Option (g8 Nd)}{c b}(h:mb x g=some (.ok c b)):∃k d,x=some (.ok k d)/\g k d=some (.ok c b):=by
 cases x with
 |none=>cases h
 |some r=>cases r with|ok a s=>exact⟨a,s,rfl,h⟩|err=>cases h
def yk(f):∀d i j s e g,lV ln fold l f d i j s=some (.ok g e)->∃ms,g= .alt i (j++ms)/\∀id' c,lV ln fold l f d id' c s=some (.ok (.alt id' (c++ms)) e):=by
 induction f with
 |zero=>intro _ _ _ _ _ _ h;cases h
 |succ f p=>
  intro d i j s e g h;have⟨k,q,u,b⟩:=Hr h;cases m:eB ln fold l q.p with
  |none=>rw[m]at b;cases b
  |some x=>
   simp[m]at b;by_cases n:x.t.kind=6;rw[if_pos n]at b;have⟨ms,t,r⟩:=p _ _ _ _ _ _ b;simp_all[lV,mb]
   simp_all[lV,mb]
def QX{k}(hS:Sh ln fold l l' k 6){q}(hq:∃y,eB ln fold l' (k+l.length)=some y/\y.t.kind=6/\y.p=q)(f):
 ∀d D Q id' M b s i R A c,s.p<=l.length->0<=d->0<=D->(d≠0->D≠0)->lV ln fold l f d Q M s=some (.ok R i)->i.p=l.length->
  s.g<=i.g/\(c+(i.g-s.g)<=9\/Qb (lV ln fold l' f D id' b ⟨k+s.p,A,c⟩)->∃ms n N S,R= .alt Q (M++ms)/\ef n=ef ms/\f<=S+(l.length+1-s.p)/\
   lV ln fold l' f D id' b ⟨k+s.p,A,c⟩=lV ln fold l' S D id' (b++n) ⟨q,N,c+(i.g-s.g)⟩):=by
 induction f with
 |zero=>intro _ _ _ _ _ _ _ _ _ _ _ _ _ _ _ h;cases h
 |succ f ih=>
  intro d D Q id' M b s i R A c hp h0 K hd h B;rw[lV]at h;have⟨P,p,h1,C⟩:=Hr h;have⟨hA1,I,Z,H⟩:=(Qs hS f).2.2.1 d D s A c hp h0 K (λh=>hd (h.elim (λh=>h) λh=>by omega)) P p h1;have G:∀{x:Option (g8 Nd)}{g:Nd->pD->Option (g8 Nd)},Qb (mb x g)->Qb x:=λ⟨u,v,e⟩=>by
   have⟨a,t,h,_⟩:=Hr e;exact⟨a,t,h⟩
  cases T:eB ln fold l p.p with
  |none=>rw[T]at C;cases C
  |some x=>
   rw[T]at C;dsimp only at C;by_cases L:x.t.kind=6;rw[if_pos L]at C;have W:x.wr=none:=by
    have⟨y,F,_,_,_,h4⟩:=ib ln fold l p.p I;cases T.symm.trans F;have hb:=h4.bad;cases W:x.wr with
    |none=>rfl
    |some w=>rw[W]at hb;rcases h4.bk hb with h|h<;>omega
   obtain⟨y,F,⟨_,h7,h8,z,rfl⟩|⟨h7,_⟩⟩:=hS.at_ I T W<;>first |(have hi:=λb A c=>ih d D Q id' (M++[P]) b ⟨x.p,p.n,p.g⟩ i R A c h8 h0 K hd C B;have X:=(hi b A c).1;dsimp only at X;refine⟨by omega,λj=> ?_⟩;rw[lV]at j;have⟨m,r,E⟩:=H (j.imp (by dsimp only;omega) G) trivial;rw[r]at j;simp only[mb,F]at j;rw[if_pos L]at j;have⟨ms,n,N,S,e1,e2,e3,e4⟩:=(hi (b++[m]) (A+(p.n-s.n)) (c+(p.g-s.g))).2 (j.imp (by dsimp only;omega) λh=>h);refine⟨P::ms,m::n,N,S,by rw[e1];simp,by simp[ef,E,e2],by dsimp only at e3;omega,?_⟩;rw[lV,r];simp only[mb,F];rw[if_pos L];refine e4.trans ?_;rw[TL];dsimp only;rw[show c+(p.g-s.g)+(i.g-p.g)=c+(i.g-s.g)from by omega];rfl)|omega
   rw[if_neg L]at C;cases C;obtain⟨y,F,hyk,rfl⟩:=hq;refine⟨Z,λj=> ?_⟩;rw[lV]at j;have⟨m,r,E⟩:=H (j.imp (by dsimp only;omega) G) trivial;refine⟨[P],[m],A+(i.n-s.n),f,rfl,by simp[ef,E],by omega,?_⟩;rw[lV,r];simp only[mb];rw[B,F];dsimp only;rw[if_pos hyk]
def QA{p q k d b c}(hl:p.length+q.length+1<=120)(m:xP ln fold p=some (.ok k b))(g:xP ln fold q=some (.ok d c))(A:b.g+c.g<=9\/Qb (xP ln fold (p++124::q))):
 ∃K M z j,xP ln fold (p++124::q)=some (.ok K M)/\core K= .alt 0 (z++j)/\core k= .alt 0 z/\core d= .alt 0 j/\M.g=b.g+c.g:=by
 have g1:=N9 (by omega) m;have Z:(([]:List UInt8)++p++124::q).drop (([]:List UInt8).length+p.length)=124::q:=by rw[wk (Sy _)];simp
 have I:eB ln fold (([]:List UInt8)++p++124::q) (([]:List UInt8).length+p.length)=some ⟨ly 6 (([]:List UInt8).length+p.length:Nat),none,true,([]:List UInt8).length+p.length+1⟩:=ki Z (by decide);have P:Sh ln fold p (([]:List UInt8)++p++124::q) ([]:List UInt8).length 6:=Qq ⟨_,I,rfl⟩ (by omega);have t:Sh ln fold q (p++[124]++q++[]) (p++[124]).length 0:=Qq ⟨_,jB (by grind),rfl⟩ (by omega);have F:p++[124]++q++[]=p++124::q:=by simp
 rw[F]at t;simp only[SP,SZ]at P I;have h1':=m;have H:=g;unfold xP deep at m g;rw[qY]at m g;have G:∀l:List UInt8,xP ln fold l=lV ln fold l 2007 0 (0+1) [] ⟨0,0+1,0⟩:=λl=>by unfold xP deep;rw[qY]
 rw[G]at A ⊢;dsimp only at m g;have⟨_,W⟩:=QX (q:=p.length+1) P ⟨_,I,rfl,by simp⟩ 2007 0 0 (0+1) (0+1) [] [] ⟨0,0+1,0⟩ b k (0+1) 0 (Ta _) (SX _) (SX _) (λh=>h) m (Nt m);have⟨ms,E,N,f,r1,T,r3,B⟩:=W (A.imp (by have:=(N9 (by omega) g).g0;grind) id);dsimp only at r3 B;rw[Nat.zero_add]at B;rw[B]at A ⊢;have⟨j,t1,t2⟩:=yk 2007 0 (0+1) [] _ _ _ g;have L:lV ln fold q f 0 (0+1) [] ⟨0,0+1,0⟩=some (.ok d c):=by
  have⟨r,hr⟩:=ML ln fold q (by omega);have hf:900<=f+1:=by omega
  have e5:qY ln fold q (f+1) 0 ⟨0,0,0⟩=xP ln fold q:=by rw[show f+1=900+(f+1-900)from by omega,Q9 (by omega)]
  rw[H,qY]at e5;omega
 have⟨_,_,_,x⟩:=(Qs t f).2.1 0 0 (0+1) (0+1) [] [] ⟨0,0+1,0⟩ N b.g (Ta _) (SX _) (SX _) λh=>by omega rfl d c L
 have⟨w,n,R⟩:=yk f 0 (0+1) [] _ _ _ L;have y:(p++[124]).length+0=p.length+1:=by simp
 rw[y]at x;have D:0+(b.g-0)+c.g<=9\/Qb (lV ln fold (p++124::q) f 0 (0+1) [] ⟨p.length+1,N,b.g⟩):=A.imp (by omega) λ⟨u,v,e⟩=>by
  rw[show(0:Int)+(b.g-0)=b.g from by omega]at e;have⟨ms3,_,h⟩:=yk _ _ _ _ _ _ _ e;exact⟨_,_,h (0+1) []⟩
 have⟨X,C,i⟩:=x (D.imp (by simp) id) ⟨.inr (by decide),_,by rw[Nt g];exact jB (by simp),rfl⟩;have⟨ms4,Q,S⟩:=yk _ _ _ _ _ _ _ C;rw[show(0:Int)+(b.g-0)=b.g from by omega];refine⟨_,_,ef ms,ef w,S (0+1) ([]++E),?_,by rw[r1];simp only[core,SP],by rw[n];simp only[core,SP],by dsimp only;omega⟩;rw[Q,n]at i;simp only[core,SP,Nd.alt.injEq,true_and]at i ⊢;rw[<- i,<- T,nu,nu,nu,List.map_append]
end
def Qt{M i}:∀a b,iK M (a++b) i=iK M a i|||iK M b i
 |[],b=>by simp[iK]
 |k::a,b=>by rw[SF,iK,iK,Qt a b,Nat.or_assoc]
def QV{M e a b c d}(h:core e= .alt 0 (c++d))(g:core a= .alt 0 c)(f:core b= .alt 0 d)(i):bv M e i=bv M a i|||bv M b i:=by
 rw[<- j0 M e,<- j0 M a,<- j0 M b,h,g,f,bv,bv,bv,Qt]
def Ek{M a}{G:Nat}(k:je a G)(hs:M.s.size<=300):
 (fj M a G (M.s.size+1) 0=none/\∀c,c<=M.s.size->fp M a c)\/
 ∃L,∃b j:Nat,fj M a G (M.s.size+1) 0=some L/\L[0]?=some ((b:Int),(j:Int))/\b<=j/\j<=M.s.size/\(∀c,c<b->fp M a c)/\jp M a b j:=by
 have⟨l,_,d⟩:=k.w;cases g:fj M a G (M.s.size+1) 0 with
 |none=>exact .inl ⟨rfl,λc h=>(Ql d hs _ 0 (by omega)).1 g c (Ta _) (by omega)⟩
 |some L=>
  obtain⟨b,j,_,m,e,f,rfl⟩:=Qk d hs _ 0 (by omega) g;have i:=bZ M a b (by omega) j f.1;refine .inr ⟨_,b,j,rfl,?_,i.1,i.2,λc h=>e c (Ta _) h,f⟩;rw[List.getElem?_map,List.getElem?_range (by omega),Option.map_some];rw[(Je (M:=M) (G:=G) d (SX _) (by omega) f.1).1]
section
variable{M:MT}{n1 n2 n3:Nd}
def QY(h:∀i,bv M n3 i=bv M n1 i|||bv M n2 i){c}:fp M n3 c↔fp M n1 c/\fp M n2 c:=by
 unfold fp;constructor;simp_all
 grind
def QP(h:∀i,bv M n3 i=bv M n1 i|||bv M n2 i){b j}(a:jp M n1 b j)(e:∀c,(bv M n2 b).testBit c=true->c<=j):jp M n3 b j:=by
 refine⟨by simp[h,a.1],λc d=> ?_⟩;rw[h,TD,Ts]at d;exact d.elim (a.2 c) (e c)
def QU{b j c i}(g:∀x,x<b->fp M n3 x)(d:jp M n3 b j)(f:∀x,x<c->fp M n3 x)(a:jp M n3 c i):b=c/\j=i:=by
 have e:b=c:=by
  rcases Nat.lt_trichotomy b c with h|h|h<;>first |(have:=f b h j;rw[d.1]at this;cases this)|exact h|(have:=g c h i;rw[a.1]at this;cases this)
 subst e;exact⟨rfl,Nat.le_antisymm (a.2 _ d.1) (d.2 _ a.1)⟩
def I1(h:∀i,bv M n3 i=bv M n1 i|||bv M n2 i):∀i,bv M n3 i=bv M n2 i|||bv M n1 i:=λi=>by rw[h,Nat.or_comm]
def xY(h:∀i,bv M n3 i=bv M n1 i|||bv M n2 i){b j}(m:∀c,c<b->fp M n1 c)(g:jp M n1 b j)
 (k:(∀c,c<=M.s.size->fp M n2 c)\/∃c i,(∀x,x<c->fp M n2 x)/\jp M n2 c i/\(b<c\/b=c/\i<=j)) (f:b<=M.s.size):
 (∀c,c<b->fp M n3 c)/\jp M n3 b j:=by
 refine⟨λc a=>(QY h).2 ⟨m c a,by grind⟩,QP h g λc a=> ?_⟩;rcases k with k|⟨n,i,l,e,d|⟨rfl,d⟩⟩<;>first |(have:=k b f c;rw[a]at this;cases this)|(have:=l b d c;rw[a]at this;cases this)|exact T7 (e.2 c a) d
end
def N7(n:Nat)(m:Option (List (Int×Int))):Option (Nat×Nat)->Prop
 |none=>m=none
 |some (b,j)=>b<=j/\j<=n/\∃L,m=some L/\L[0]?=some ((b:Int),(j:Int))
def better:Option (Nat×Nat)->Option (Nat×Nat)->Option (Nat×Nat)
 |none,o=>o
 |some a,none=>some a
 |some a,some c=>if c.1<a.1\/(c.1=a.1/\a.2<c.2)then some c else some a
def QO{M E C p}{Q G x:Nat}(h:∀i,bv M p i=bv M E i|||bv M C i)(T1:je E Q)(Z:je C G)(N:je p x)(hs:M.s.size<=300):
 ∃I F,N7 M.s.size (fj M E Q (M.s.size+1) 0) I/\N7 M.s.size (fj M C G (M.s.size+1) 0) F/\N7 M.s.size (fj M p x (M.s.size+1) 0) (better I F):=by
 have g:∀{b j:Nat},b<=j->j<=M.s.size->(∀c,c<b->fp M p c)/\jp M p b j->N7 M.s.size (fj M p x (M.s.size+1) 0) (some (b,j)):=λ{b j} W T ⟨X,H⟩=>by
  rcases Ek N hs with⟨_,B⟩|⟨L,c,i,e,f,_,_,B,A⟩<;>first |(have:=B b (by omega) j;rw[H.1]at this;cases this)|(have⟨rfl,rfl⟩:=QU X H B A;exact⟨W,T,L,e,f⟩)
 rcases Ek T1 hs with⟨r,a⟩|⟨R,z,y,r,K,v,u,a,n⟩<;>rcases Ek Z hs with⟨q,d⟩|⟨S,w,D,q,P,s,t,d,k⟩
 refine⟨none,none,r,q,?_⟩;rcases Ek N hs with⟨e,_⟩|⟨L,c,i,_,_,l,m,_,A⟩
 exact e;have:=(QY h).2 ⟨a c (by omega),d c (by omega)⟩ i;rw[A.1]at this;cases this;exact⟨none,some (w,D),r,⟨s,t,S,q,P⟩,g s t (xY (I1 h) d k (.inl a) (by omega))⟩;exact⟨some (z,y),none,⟨v,u,R,r,K⟩,q,g v u (xY h a n (.inl d) (by omega))⟩;refine⟨some (z,y),some (w,D),⟨v,u,R,r,K⟩,⟨s,t,S,q,P⟩,?_⟩;simp[better];split;exact g s t (xY (I1 h) d k (.inr ⟨z,y,a,n,by omega⟩) (by omega));exact g v u (xY h a n (.inr ⟨w,D,d,k,by omega⟩) (by omega))
def QC{p q x u j i}(y:gK p 0=some (.ok x j))(D:gK q 0=some (.ok u i)):
 (∃k a,gK (p++⟨#[124]⟩++q) 0=some (.err k a)/\(9<j.g+i.g\/120<p.size+q.size+1))\/
 ∃d g b c,gK (p++⟨#[124]⟩++q) 0=some (.ok d g)/\core d= .alt 0 (b++c)/\core x= .alt 0 b/\core u= .alt 0 c:=by
 have E:(p++⟨#[124]⟩++q).size=p.size+q.size+1:=by simp only[ByteArray.size_append];show p.size+1+q.size=_;omega
 have M:p.data.toList.length=p.size:=by simp
 have L:q.data.toList.length=q.size:=by simp
 have m:∀{s:ByteArray}{n:Nd}{t:pD},gK s 0=some (.ok n t)->s.size<=120/\xP false false s.data.toList=some (.ok n t):=λ{s n t} h=>by
  unfold gK at h;grind
 have⟨_,v⟩:=m y;have⟨_,l⟩:=m D;by_cases K:p.size+q.size+1<=120;have H:gK (p++⟨#[124]⟩++q) 0=xP false false (p.data.toList++124::q.data.toList):=by
  simp_all[if_neg,gK]
 rw[H];by_cases I:j.g+i.g<=9;have⟨d,g,b,c,z,C,F,A,_⟩:=QA (by omega) v l (.inl I)<;>grind;cases w:xP false false (p.data.toList++124::q.data.toList)with
 |none=>
  have f:(p.data.toList++124::q.data.toList).length<=120:=by grind
  have⟨r,e⟩:=ML false false _ f;rw[show(900:Nat)=900+0 from rfl,Q9 f,w]at e;cases e
 |some r=>cases r with
  |err k a=>exact .inl ⟨k,a,rfl,.inl (by omega)⟩
  |ok d g=>
   have⟨G,B,b,c,z,C,F,A,_⟩:=QA (by omega) v l (.inr ⟨d,g,w⟩)<;>grind
 refine .inl ⟨1,0,?_,.inr (by omega)⟩;unfold gK;rw[if_pos (by omega)]
end
section
open Go.RowKit Go.Conc
attribute [local instance] fI
def QH(l:Nat)(c:SQ)(v:Tb):Prop:=
 v=T0 #[AS none,AS none,AS none,SK true]\/
 ∃x y z d e g f i m p n q k h j a b,v=T0 #[vp x,vp y,vp z,SK true]/\l<=d/\e<=g/\f<=i/\da c d e x 0 p k/\da c g f y 0 n h/\da c i m z 0 q j/\core j= .alt 0 (a++b)/\core k= .alt 0 a/\core h= .alt 0 b
def AR(d:Nat)(s:ByteArray)(v:Tb)(e:SQ):Prop:=
 (v=T0 #[AS none,SK true]/\∃k a,gK s 0=some (.err k a))\/∃x c b G f,v=T0 #[vp x,SK true]/\gK s 0=some (.ok c b)/\b.g=((G:Nat):Int)/\da e d f x 0 G c
instance{c:Nat}{s:ByteArray}{v:Tb}:oA (AR c s v):=⟨λh k=>k.imp id λ⟨x,b,e,G,a,d,f,g,i⟩=>⟨x,b,e,G,a,d,f,g,oA.old (I:=λu=>da u c a x 0 G b) h i⟩⟩
def AR.form{a:Nat}{s:ByteArray}{v:Tb}{b:SQ}(h:AR a s v b):∃o,v=T0 #[AS o,SK true]:=by
 rcases h with⟨h,_⟩|⟨x,d,c,G,e,h,_⟩<;>exact⟨_,h⟩
def da.low{w:SQ}{k c j x i G:Nat}{f:Nd}(h:da w k j x i G f)(g:c<=k):da w c j x i G f:=by
 have⟨q,l,T,e,d⟩:=h.rx;exact⟨T7 g h.lw,h.up,h.sz,h.tree,q,l,T,e,d.blk,d.rep.mono λb a _=>⟨T7 g a.1,a.2⟩,λb a=>⟨T6 a.2.2 h.sz,a.2.1⟩,d.had⟩
def KT.on{c a:Nat}{b:SQ}{s:ByteArray}{v:Tb}(h:KT a b 0 (gK s 0) v)(j:c<=a):AR c s v b:=
 h.at.imp id λ⟨x,f,e,G,d,g,i,k⟩=>⟨x,f,e,G,_,d,g,i,k.low j⟩
def fv{fn:Func}{a b c d:Tmp}(h:fn.results=#[.tmp a,.tmp b,.tmp c,.tmp d])(tmps:Array Tb)(P:Program)(w:SQ):
 (results fn tmps).run P w=Ti (T0 #[tmps.getD a undef,tmps.getD b undef,tmps.getD c undef,tmps.getD d undef]) w:=by
 simp[results,h]
def Rb:Tb->Option Addr
 |T0 ⟨[AS o,_]⟩=>o
 |_=>none
def QQ(l d:Nat)(p q:ByteArray)(k v2:Tb)(e:SQ):Prop:=
 ∃x y a g b c i h,k=T0 #[vp x,SK true]/\v2=T0 #[vp y,SK true]/\gK p 0=some (.ok a b)/\gK q 0=some (.ok g c)/\b.g=((i:Nat):Int)/\c.g=((h:Nat):Int)/\
  ∃f j,f<=d/\da e l f x 0 i a/\da e d j y 0 h g
def R3{b:Nat}{p q:ByteArray}{c:Option Addr}{v2:Tb}{a d:SQ}(A:AR b p (T0 #[AS c,SK true]) a)(t:KT a.heap.size d 0 (gK q 0) v2)(w:Old a d)(B:b<=a.heap.size):
 (c=none\/Rb v2=none)\/QQ b a.heap.size p q (T0 #[AS c,SK true]) v2 d:=by
 rcases t.at with⟨rfl,_⟩|⟨y,k,j,v,rfl,m,r,n⟩
 exact .inl (.inr rfl);rcases A with⟨h,_⟩|⟨x,f,l,e,g,h,s,z,i⟩<;>first |(cases h;exact .inl (.inl rfl))|exact .inr ⟨x,y,f,k,l,j,e,v,h,rfl,s,m,z,r,g,_,i.sz,oA.old (I:=λu=>da u b g x 0 e f) w i,n⟩
def QT{h0:Array Obj}{w:SQ}{p q:ByteArray}(L:Under h0 w)(hG:fx w)(hE:gI w):
 cb (br ek h0) 29 #[SU p,SU q] w λe S=>∃v,e=SL v/\Old w S/\QH w.heap.size S v:=by
 refine bu (bP (by decide)) (λS ⟨v,h,_⟩=>nomatch h) (PH.func Tryz.func29 (by decide)) rfl ?_;simp only[Tryz.ntmps29,SV,SH,SZ,T9,T8,SO,SN,SW,SR,SP,SF];have H:mx (λu=>Old w u/\Under h0 u/\fx u/\gI u) w:=⟨.refl w,L,hG,hE⟩;clear L hG hE;refine ac λK b=> ?_
 revert H;refine ey λw1 H=> ?_
 go_wp2;refine b.out _ _ ?_;clear b K;refine ac λK b=> ?_
 refine ao ?_;show aV _ _ _ (SD 0 (1+6)) ..;revert H;refine cx 0 1 6 (λN a w2 H=> ?_) (by decide);simp only[zq1];go_wp2;refine a.out _ _ ?_;clear a N;refine bF (f:=19) (i:=1) (rest:=SD 2 (5+0)) rfl rfl λu=>by simp[go_sem] (bP (by decide)) (Nl (s:=p) (fl:=0) (by omega) H.out.2.1 H.out.2.2.1 H.out.2.2.2) (λv w3 l=> ?_) λch w3 l=>by have⟨_,h,_⟩:=l;cases h
 have⟨v1,e,r,I⟩:=l;cases e;have d:=H.out.1.size;replace H:=H.old r;replace H:=H.also (AR w.heap.size p v) (I.on d);clear r I d;obtain⟨o1,rfl⟩:=H.out.2.form;simp only[SM,SJ,SI];simp only[Sx,zq0];revert H;refine cx 2 5 0 (λN a w4 H=> ?_) (by decide);simp only[zq1];go_wp2;refine a.out _ _ (az (b.out _ _ ?_));clear a N b K;refine ac λK b=> ?_
 refine ao ?_;show aV _ _ _ (SD 0 (1+6)) ..;revert H;refine cx 0 1 6 (λN a w5 H=> ?_) (by decide);simp only[zq1];go_wp2;refine a.out _ _ ?_;clear a N;refine bF (f:=19) (i:=1) (rest:=SD 2 (5+0)) rfl rfl λu=>by simp[go_sem] (bP (by decide)) (Nl (s:=q) (fl:=0) (by omega) H.out.1.2.1 H.out.1.2.2.1 H.out.1.2.2.2) (λv w6 l=> ?_) λch w3 l=>by have⟨_,h,_⟩:=l;cases h
 have⟨v2,e,r,B⟩:=l;cases e;have d:=H.out.1.1.size;have n:(o1=none\/Rb v=none)\/QQ w.heap.size w5.heap.size p q (T0 #[AS o1,SK true]) v w6:=R3 H.out.2 B r d;have hf2:=(B.on (Sy _)).form;obtain⟨o2,rfl⟩:=hf2;replace H:=H.old r;replace H:mx (λu=>Old w u/\Under h0 u/\fx u/\gI u) w6:=H.out.1;clear r B;simp only[SM,SJ,SI];rcases n with n|n
 .replace n:=AI n;simp only[Sx,zq0];revert H;refine cx 2 5 0 (λN a w7 H=> ?_) (by decide);simp only[zq1];go_wp2;refine a.out _ _ (az (b.out _ _ ?_));clear a N b K;refine ac λK b=> ?_
  revert H;refine ey λw8 H=> ?_
  rcases n.out with rfl|h
  .clear n b;go_wp2;try simp only[Tc,Exit.then]
   refine bodyPost_ret (fv rfl ..) rfl ?_;exact⟨_,rfl,H.out.1,.inl rfl⟩
  .have h:o2=none:=h;subst h;clear n b;cases o1 with
   |none=>
    go_wp2;try simp only[Tc,Exit.then]
    refine bodyPost_ret (fv rfl ..) rfl ?_;exact⟨_,rfl,H.out.1,.inl rfl⟩
   |some o=>
    go_wp2;try simp only[Tc,Exit.then]
    refine bodyPost_ret (fv rfl ..) rfl ?_;exact⟨_,rfl,H.out.1,.inl rfl⟩
 .have⟨x,y,n1,n2,s1,s2,E,D,e1,e2,f1,f2,g1,g2,b1,b2,X,r1,r2⟩:=n;cases e1;cases e2;replace H:=H.also (λu=>da u w.heap.size b1 x 0 E n1/\da u w5.heap.size b2 y 0 D n2) ⟨r1,r2⟩;have c:=QC f1 f2;have hp:=Qg f1;have hq:=Qg f2;replace X:=AI X;clear r1 r2 f1 f2;simp only[Sx,zq0];revert H;refine cx 2 5 0 (λN a w7 H=> ?_) (by decide);simp only[zq1];go_wp2;refine a.out _ _ (az (b.out _ _ ?_));clear a N b K;refine ac λK b=> ?_
  revert H;refine ey λw8 H=> ?_
  go_wp2;refine b.out _ _ ?_;clear b K;refine ac λK b=> ?_
  refine ao ?_;show aV _ _ _ (SD 0 (4+8)) ..;revert H;refine cx 0 4 8 (λN a w9 H=> ?_) (by decide);simp only[zq1];go_wp2;refine a.out _ _ ?_;clear a N;have m:=H.out.2.2.sz;have t:=H.out.1.1.size;refine bF (f:=26) (i:=4) (rest:=SD 5 (7+0)) rfl rfl λu=>by simp[go_sem] (bP (by decide)) (wl (s:=p++⟨#[124]⟩++q) (fl:=0) (by decide) H.out.1.2.1 H.out.1.2.2.1 H.out.1.2.2.2) (λv R l=> ?_) λch w3 l=>by have⟨_,h,_⟩:=l;cases h
  have⟨v3,e,r,A⟩:=l;cases e;replace H:=H.old r;clear r;simp only[SM,SJ,SI];rcases A.at with⟨k,a_,rfl,C,hk⟩|⟨z,P,s3,G3,rfl,C,g3,r3⟩
  .have M:9<s1.g+s2.g\/120<p.size+q.size+1:=by
    rcases c with⟨_,_,_,h⟩|⟨P,s3,g,j,h,_⟩
    .exact h
    .rw[C]at h;cases h
   rw[g1,g2]at M;replace M:=AI M;clear c C A g1 g2 m t d;simp only[Sx,zq0];revert H;refine cx 5 7 0 (λN a Q H=> ?_) (by decide);simp only[zq1];go_wp2;refine a.out _ _ (az (b.out _ _ ?_));clear a N b K;refine ac λK b=> ?_
   revert H;refine ey λZ H=> ?_
   have F:=H.out.2.1.groups;have G:=H.out.2.2.groups;have l1:=H.out.2.1.tree.g9;have l2:=H.out.2.2.tree.g9;have hp2:=hp;go_wp2;refine F.mono ?_;rintro e' w13 ⟨rfl,rfl⟩;clear F;go_wp2;refine G.mono ?_;rintro e' w14 ⟨rfl,rfl⟩;clear G;by_cases h9:(9:Int)<(E:Int)+(D:Int)
   .have hd:decide ((9:Int)<(E:Int)+(D:Int))=true:=by simp;omega
    go_wp2;try simp only[Tc,Exit.then]
    refine bodyPost_ret (fv rfl ..) rfl ?_;exact⟨_,rfl,H.out.1.1,.inl rfl⟩
   .have hd:decide ((9:Int)<(E:Int)+(D:Int))=false:=by simp;omega
    have hd2:decide ((120:Int)<(p.size:Int)+(q.size:Int)+1)=true:=by have:=M.out;simp;omega
    go_wp2;try simp only[Tc,Exit.then]
    refine bodyPost_ret (fv rfl ..) rfl ?_;exact⟨_,rfl,H.out.1.1,.inl rfl⟩
  .have⟨g,j,c3,T,W⟩:∃g j,core P= .alt 0 (g++j)/\core n1= .alt 0 g/\core n2= .alt 0 j:=by
    rcases c with⟨_,_,h,_⟩|⟨n3',s3',g,j,h,h1,h2,h3⟩
    .rw[C]at h;cases h
    .rw[C]at h;cases h;exact⟨_,_,h1,h2,h3⟩
   have hz:b2<=w9.heap.size:=m;replace H:=H.also (λu=>da u w9.heap.size R.heap.size z 0 G3 P) r3;clear c C A g1 g2 m t d r3 hp hq g3;replace T:=AI T;replace W:=AI W;replace c3:=AI c3;simp only[Sx,zq0];revert H;refine cx 5 7 0 (λN a Q H=> ?_) (by decide);simp only[zq1];go_wp2;refine a.out _ _ (az (b.out _ _ ?_));clear a N b K;revert H;refine ey λZ H=> ?_
   go_wp2;try simp only[Tc,Exit.then]
   refine bodyPost_ret (fv rfl ..) rfl ?_;exact⟨_,rfl,H.out.1.1.1,.inr ⟨x,y,z,_,b1,_,b2,_,_,E,D,G3,n1,n2,P,g,j,rfl,Sy _,X.out,hz,H.out.1.2.1,H.out.1.2.2,H.out.2,c3.out,T.out,W.out⟩⟩
def Qm(u:SQ)(a:Nat)(v:Tb):Option (Nat×Nat)->Prop
 |none=>v=SE none 0 0
 |some (b,j)=>∃g,a<=g/\v=SE (some ⟨g,0,none⟩) 1 1/\a7 u g 54 #[Sv Sz b,Sv Sz j]
instance{e:Nat}{v:Tb}{o:Option (Nat×Nat)}:oA λu=>Qm u e v o:=⟨λh k=>by
 match o,k with
 |none,k=>exact k
 |some (b,j),⟨g,a,d,c⟩=>exact⟨g,a,d,oA.old (I:=λu=>a7 u g 54 _) h c⟩⟩
def xl.fst{u:SQ}{d n:Nat}{v:Tb}{m:Option (List (Int×Int))}{o:Option (Nat×Nat)}(h:xl u d 1 v m)(a:N7 n m o):Qm u d v o:=by
 match o,a with
 |none,a=>
  obtain rfl:=a;exact h
 |some (b,j),a=>
  obtain⟨_,_,L,rfl,c⟩:=a;have⟨g,f,i,e⟩:=h;refine⟨g,f,i,?_⟩;cases L with
  |nil=>cases c
  |cons p L=>
   cases c;rw[show jV 1 (((b:Int),(j:Int))::L)=[((b:Int),(j:Int))]from by simp[jV]]at e;exact e
def PH.R7:PH.underlying 54=some (.struct (PH.fieldsOf 54)):=by kernel_rfl
def PH.R8:PH.stoodInHeld 54=false:=by kernel_rfl
@[go_sem] theorem PH.Rf:PH.eqGuardType Tryz.prog.depth 54=false:=by kernel_rfl
def PH.R9:(PH.fieldsOf 54).toList=[⟨"From",3,0,false,"","",0⟩,⟨"To",3,1,false,"","",8⟩]:=by kernel_rfl
def PH.Re:PH.underlying 3=some (.int Sz):=by kernel_rfl
@[go_sem] theorem Rc(a b c d:Int)(u:SQ):(Op.equalIn 10000 54 (.agg #[Sv Sz a,Sv Sz b]) (.agg #[Sv Sz c,Sv Sz d])).run PH u=Ti (a==c&&b==d) u:=by
 rw[run_equalIn_struct u 9999 54 _ _ PH.R7 PH.R8,PH.R9];simp[Op.eqFields,go_sem,PH.Re,Result.andThen];by_cases a=c<;>by_cases b=d<;>simp[*]
def Qz(a:Option Addr)(l c:Nat)(u:SQ):(binOp .neq 48 (SE a l c) (SE none 0 0)).run PH u=Ti (SK !a.isNone) u:=
 Go.run_neq_slice_nil u 48 54 a l c ((congrFun (aK ..) _).trans Tryz.underlying48)
def QD{h0:Array Obj}{w:SQ}{p q t:ByteArray}(X:Under h0 w)(hG:fx w)(hE:gI w):
 cb (br ek h0) 10 #[SU p,SU q,SU t] w λe w'=>e=SL (SK true)/\Old w w':=by
 refine bu (bP (by decide)) (λw' h=>nomatch h.1) (PH.func Tryz.func10 (by decide)) rfl ?_;simp only[Tryz.ntmps10,SV,SH,SZ,T9,T8,SO,SN,SW,SR,SP,SF];have H:mx (λu=>Old w u/\Under h0 u/\fx u/\gI u) w:=⟨.refl w,X,hG,hE⟩;clear X hG hE;refine ac λK d=> ?_
 revert H;refine ey λw1 H=> ?_
 go_wp2;refine d.out _ _ ?_;clear d K;refine ac λK d=> ?_
 revert H;refine ey λw2 H=> ?_
 have hcl:=KI t 40 w2;go_wp2;refine hcl.mono ?_;rintro e' w3 ⟨rfl,rfl⟩;have hts:=FJ t 40;generalize tK t 40=C at hts ⊢;clear hcl;go_wp2;refine d.out _ _ ?_;clear d K;refine ac λK d=> ?_
 refine ao ?_;show aV _ _ _ (SD 0 (2+10)) ..;revert H;refine cx 0 2 10 (λN a w4 H=> ?_) (by decide);simp only[zq1];go_wp2;refine a.out _ _ ?_;clear a N;refine bF (f:=29) (i:=2) (rest:=SD 3 (9+0)) rfl rfl λu=>by simp[go_sem] (bP (by decide)) (QT (p:=p) (q:=q) H.out.2.1 H.out.2.2.1 H.out.2.2.2) (λv w5 k=> ?_) λch w3 k=>by obtain⟨_,h,_⟩:=k;cases h
 obtain⟨v,e,hO,hs⟩:=k;cases e;have hsz:=H.out.1.size;replace H:=H.old hO;clear hO;simp only[SM,SJ,SI];rcases hs with rfl|⟨x,y,z,a1,b1,a2,b2,a3,b3,G1,G2,G3,n1,n2,n3,ms1,ms2,rfl,ha1,ha2,ha3,T,r2,r3,c3,c1,c2⟩
 .simp only[Sx,zq0];revert H;refine cx 3 9 0 (λN a w6 H=> ?_) (by decide);simp only[zq1];go_wp2;refine a.out _ _ (az (d.out _ _ ?_));clear a N d K;refine ac λK d=> ?_
  revert H;refine ey λw7 H=> ?_
  go_wp2;go_ret;exact⟨rfl,H.out.1⟩
 .obtain⟨o1,o2,F1,F2,F3⟩:=QO (M:=⟨C,0,0⟩) (λi=>QV c3 c1 c2 i) T.tree r2.tree r3.tree (by dsimp only;omega);replace H:mx (λu=>Old w u/\da u a1 b1 x 0 G1 n1/\da u a2 b2 y 0 G2 n2/\da u a3 b3 z 0 G3 n3) w5:=⟨H.out.1,T,r2,r3⟩;have hx:=T.lw;have hx':=T.up;have hy:=r2.lw;have hy':=r2.up;have hz:=r3.lw;have S:w.heap.size<=x:=by omega
  have Z:w.heap.size<=y:=by omega
  have hlz:w.heap.size<=z:=by omega
  replace F1:=AI F1;replace F2:=AI F2;replace F3:=AI F3;clear T r2 r3 c1 c2 c3;simp only[Sx,zq0];revert H;refine cx 3 9 0 (λN a w6 H=> ?_) (by decide);simp only[zq1];go_wp2;refine a.out _ _ (az (d.out _ _ ?_));clear a N d K;refine ac λK d=> ?_
  revert H;refine ey λw7 H=> ?_
  go_wp2;refine d.out _ _ ?_;clear d K;refine ac λK d=> ?_
  refine ao ?_;show aV _ _ _ (SD 0 (2+6)) ..;revert H;refine cx 0 2 6 (λN a w8 H=> ?_) (by decide);simp only[zq1];go_wp2;refine a.out _ _ ?_;clear a N;refine bF (f:=23) (i:=2) (rest:=SD 3 (5+0)) rfl rfl λu=>by simp[go_sem] (bP (by decide)) (H.out.2.1.find (s:=C) (ev:=0) (n:=1) (by omega) (by omega) (by decide) (by decide) (by decide)) (λv w9 k=> ?_) λch w3 k=>by obtain⟨_,h,_⟩:=k;cases h
  obtain⟨D,e,A,k,m⟩:=k;obtain rfl:=(Ending.returned.inj e).symm;clear e;obtain⟨I,L,hx1⟩:∃I,w8.heap.size=I/\b3<=I:=⟨_,rfl,H.out.2.2.2.sz⟩;rw[L]at A;replace H:mx (λu=>Old w u/\da u a2 b2 y 0 G2 n2/\da u a3 b3 z 0 G3 n3/\xl u I 1 D (fj ⟨C,0,0⟩ n1 G1 (C.size+1) 0)) w9:=⟨H.out.1.far m S,H.out.2.2.1.far m (by omega),H.out.2.2.2.far m (by omega),A⟩;clear A k m L;simp only[SM,SJ,SI];simp only[Sx,zq0];revert H;refine cx 3 5 0 (λN a w10 H=> ?_) (by decide);simp only[zq1];go_wp2;refine a.out _ _ (az (d.out _ _ ?_));clear a N d K;refine ac λK d=> ?_
  refine ao ?_;show aV _ _ _ (SD 0 (2+6)) ..;revert H;refine cx 0 2 6 (λN a w11 H=> ?_) (by decide);simp only[zq1];go_wp2;refine a.out _ _ ?_;clear a N;refine bF (f:=23) (i:=2) (rest:=SD 3 (5+0)) rfl rfl λu=>by simp[go_sem] (bP (by decide)) (H.out.2.1.find (s:=C) (ev:=0) (n:=1) (by omega) (by omega) (by decide) (by decide) (by decide)) (λv w12 k=> ?_) λch w3 k=>by obtain⟨_,h,_⟩:=k;cases h
  obtain⟨E,e,A,k,m⟩:=k;obtain rfl:=(Ending.returned.inj e).symm;clear e;obtain⟨l2,hl2⟩:∃l2,w11.heap.size=l2:=⟨_,rfl⟩;rw[hl2]at A;have hzl:=H.out.2.2.1.sz;have hzz:=H.out.2.2.1.up;replace H:mx (λu=>Old w u/\da u a3 b3 z 0 G3 n3/\xl u I 1 D (fj ⟨C,0,0⟩ n1 G1 (C.size+1) 0)/\xl u l2 1 E (fj ⟨C,0,0⟩ n2 G2 (C.size+1) 0)) w12:=⟨H.out.1.far m Z,H.out.2.2.1.far m (by omega),H.out.2.2.2.far m (by omega),A⟩;clear A k m;simp only[SM,SJ,SI];simp only[Sx,zq0];revert H;refine cx 3 5 0 (λN a w13 H=> ?_) (by decide);simp only[zq1];go_wp2;refine a.out _ _ (az (d.out _ _ ?_));clear a N d K;refine ac λK d=> ?_
  refine ao ?_;show aV _ _ _ (SD 0 (2+6)) ..;revert H;refine cx 0 2 6 (λN a w14 H=> ?_) (by decide);simp only[zq1];go_wp2;refine a.out _ _ ?_;clear a N;refine bF (f:=23) (i:=2) (rest:=SD 3 (5+0)) rfl rfl λu=>by simp[go_sem] (bP (by decide)) (H.out.2.1.find (s:=C) (ev:=0) (n:=1) (by omega) (by omega) (by decide) (by decide) (by decide)) (λv w15 k=> ?_) λch w3 k=>by obtain⟨_,h,_⟩:=k;cases h
  obtain⟨r,e,A,k,m⟩:=k;obtain rfl:=(Ending.returned.inj e).symm;clear e;obtain⟨G,hl3⟩:∃G,w14.heap.size=G:=⟨_,rfl⟩;rw[hl3]at A;replace H:mx (λu=>Old w u/\Qm u I D o1/\Qm u l2 E o2/\Qm u G r (better o1 o2)) w15:=⟨H.out.1.far m hlz,(H.out.2.2.1.far m (by omega)).fst F1.out,(H.out.2.2.2.far m (by omega)).fst F2.out,A.fst F3.out⟩;clear A k m;simp only[SM,SJ,SI];simp only[Sx,zq0];revert H;refine cx 3 5 0 (λN a w16 H=> ?_) (by decide);simp only[zq1];go_wp2;refine a.out _ _ (az (d.out _ _ ?_));clear a N d K;clear F1 F2 F3 hx hx' hy hy' hz S Z hlz;revert H;refine ey λF H=> ?_
  have O1:=AI H.out.1;have s1:=H.out.2.1;have s2:=H.out.2.2.1;have W:=H.out.2.2.2;clear H;have q0:=tJ none 0 0;have q1:∀g u,(binOp .eql 48 (SE (some ⟨g,0,none⟩) 1 1) (SE none 0 0)).run PH u=Ti (SK false) u:=λg=>tJ (some ⟨g,0,none⟩) 1 1
  have q2:∀g u,(binOp .neq 48 (SE (some ⟨g,0,none⟩) 1 1) (SE none 0 0)).run PH u=Ti (SK true) u:=λg=>Qz (some ⟨g,0,none⟩) 1 1
  have q3:∀u,(binOp .neq 48 (SE none 0 0) (SE none 0 0)).run PH u=Ti (SK false) u:=Qz none 0 0;rcases o1 with _|⟨b,j⟩
  .obtain rfl:D=SE none 0 0:=s1;rcases o2 with _|⟨c,i⟩
   .obtain rfl:E=SE none 0 0:=s2;obtain rfl:r=SE none 0 0:=W;go_wp2;go_ret;exact⟨rfl,O1.out.eqv ⟨rfl,rfl,rfl⟩⟩
   .obtain⟨g2,_,rfl,m2⟩:=s2;obtain⟨R,_,rfl,l⟩:Qm F G r (some (c,i)):=W;have e0:=m2.cell 0;have e1:=m2.cell 1;have P:=l.cell 0;have Q:=l.cell 1;go_wp2;go_quiet (fail)
    go_wp2;go_ret;exact⟨rfl,O1.out.eqv ⟨rfl,rfl,rfl⟩⟩
  .obtain⟨g1,_,rfl,m1⟩:=s1;have d0:=m1.cell 0;have d1:=m1.cell 1;rcases o2 with _|⟨c,i⟩
   .obtain rfl:E=SE none 0 0:=s2;obtain⟨R,_,rfl,l⟩:Qm F G r (some (b,j)):=W;have P:=l.cell 0;have Q:=l.cell 1;go_wp2;go_quiet (fail)
    go_wp2;go_quiet (fail)
    go_wp2;go_ret;exact⟨rfl,O1.out.eqv ⟨rfl,rfl,rfl⟩⟩
   .obtain⟨g2,_,rfl,m2⟩:=s2;have e0:=m2.cell 0;have e1:=m2.cell 1;have B:Qm F G r (better (some (b,j)) (some (c,i))):=W;unfold better at B;dsimp only at B;clear W;by_cases h:c<b
    .rw[if_pos (.inl h)]at B;obtain⟨R,_,rfl,l⟩:=B;have P:=l.cell 0;have Q:=l.cell 1;have k1:decide ((c:Int)<(b:Int))=true:=by simp;omega
     have k1n:decide (c<b)=true:=by simp;omega
     clear h;go_wp2;go_quiet (fail)
     go_wp2;go_quiet (fail)
     go_wp2;go_ret;exact⟨rfl,O1.out.eqv ⟨rfl,rfl,rfl⟩⟩
    .have k1:decide ((c:Int)<(b:Int))=false:=by simp;omega
     have k1n:decide (c<b)=false:=by simp;omega
     by_cases hcb:c=b
     .subst hcb;have k2:((c:Int)==(c:Int))=true:=by simp
      by_cases hj:j<i
      .rw[if_pos (.inr ⟨rfl,hj⟩)]at B;obtain⟨R,_,rfl,l⟩:=B;have P:=l.cell 0;have Q:=l.cell 1;have k3:decide ((j:Int)<(i:Int))=true:=by simp;omega
       have k3n:decide (j<i)=true:=by simp;omega
       clear h hj;go_wp2;go_quiet (fail)
       go_wp2;go_quiet (fail)
       go_wp2;go_ret;exact⟨rfl,O1.out.eqv ⟨rfl,rfl,rfl⟩⟩
      .rw[if_neg (by omega)]at B;obtain⟨R,_,rfl,l⟩:=B;have P:=l.cell 0;have Q:=l.cell 1;have k3:decide ((j:Int)<(i:Int))=false:=by simp;omega
       have k3n:decide (j<i)=false:=by simp;omega
       clear h hj;go_wp2;go_quiet (fail)
       go_wp2;go_quiet (fail)
       go_wp2;go_ret;exact⟨rfl,O1.out.eqv ⟨rfl,rfl,rfl⟩⟩
     .rw[if_neg (by omega)]at B;obtain⟨R,_,rfl,l⟩:=B;have P:=l.cell 0;have Q:=l.cell 1;have k2:((c:Int)==(b:Int))=false:=by simp;omega
      have k2n:decide (c=b)=false:=by simp;omega
      have k2m:decide ((c:Int)=(b:Int))=false:=by simp;omega
      clear h;go_wp2;go_quiet (fail)
      go_wp2;go_quiet (fail)
      go_wp2;go_ret;exact⟨rfl,O1.out.eqv ⟨rfl,rfl,rfl⟩⟩
end
section
open Go.ChangeShapes Go.WideShapes Go.RowKit Go.Conc
attribute [local instance] fI
def Qo{W:SQ}(b:W.ShapedOpen Tryz.prog)(i:laidMetH Tryz.prog Rows.branchedRow.laid W){x0 x1 x2:ByteArray}{Post:Tb->SQ->Prop}(h:∀d,Old W d->Post (SK true) d):
 ∃M a o c e,runNT Tryz.prog (M+1) (solo (G (Frame.enter Tryz.prog 10 #[SU x0,SU x1,SU x2] .normal) []) W) #[]=(.ended o c,e)/\runN Tryz.prog M (solo (G (Frame.enter Tryz.prog 10 #[SU x0,SU x1,SU x2] .normal) []) W)= .next a/\step Tryz.prog a= .ended o c/\Conc.Good Tryz.prog Post a o c e:=by
 have⟨f,g⟩:=K3 b i;exact EV b Tryz.func10 (by kernel_rfl) rfl (by kernel_rfl) (QD (p:=x0) (q:=x1) (t:=x2) (Cj W) (f.strike (vh b)) (g.strike (vh b _ (Ta _)))) h
def law_lifted(s:Os)(d:s.Started)(H:Type)(c:TypeId×Tb->H)(F:Stop.Interp):
 ReturnsInLeavingWide {calm:=true} Tryz.checked s 10 .any (λw args=>(Rows.branchedSpec.pre c Tryz.prog Tryz.f10 [] false w args/\laidMetH Tryz.prog Rows.branchedRow.laid w)/\sizedMet c Tryz.prog Tryz.f10 (Tu Rows.branchedSpec) false w args)
  ((Tu Rows.branchedSpec).postWith c Tryz.prog Tryz.f10 F (outsideKept [.timePasses]) false true false):=by
 refine returnsInLeavingWide_of_good (C:=Tryz.checked) OT d
  (zQ (enc:=c) (C:=Tryz.checked) (os:=s) (X:=λw _=>laidMetH Tryz.prog Rows.branchedRow.laid w) (laidWorld s) #[SU ⟨#[]⟩,SU ⟨#[]⟩,SU ⟨#[]⟩] 8 rfl (by kernel_rfl) (by kernel_rfl) (by kernel_rfl) (by kernel_rfl) (by kernel_rfl) (laidMetH_of_parts (laidMet_of_run3 8 (by kernel_rfl) (by kernel_rfl) (by kernel_rfl)) (by kernel_rfl))) ?_
 intro w b i _ hS _ A m r;have⟨_,_,_,y,g,_,_,_,_,a⟩:=A;have e:y=Tryz.f10:=Option.some.inj (g.symm.trans Tryz.func10);subst e;have⟨⟨⟨ds,N,n,T,hc⟩,hL⟩,hz⟩:=m;have I:=DataW.Whole.of_heap (w':=w.forCall b i) (by rfl) T;have z:laidMetH Tryz.prog Rows.branchedRow.laid (w.forCall b i):=hL.of_heap (by rfl);have j:=I;obtain⟨p,q,x,t,rfl,L,hnd⟩:=I;have B:DataW.TrodAll c Tryz.prog (w.forCall b i) 0 (λ_=>true) true Tryz.f10.params.toList i.args.toList ds p:=x;rw[Tryz.params10]at B a;obtain⟨v0,v1,v2,d0,d1,d2,p0,p1,p2,f,rfl,rfl,R,K,h2⟩:=trodAll_three B;rw[f]at a j ⊢;obtain⟨D,rfl,rfl,rfl,t0⟩:=Tl Tryz.underlying9 (a 0 9 v0 rfl rfl) R;obtain⟨E,rfl,rfl,rfl,Q⟩:=Tl Tryz.underlying9 (a 1 9 v1 rfl rfl) K;obtain⟨G,rfl,rfl,rfl,t2⟩:=Tl Tryz.underlying9 (a 2 9 v2 rfl rfl) h2;have hV:DataW.TrodVars c Tryz.prog (w.forCall b i) (λ_=>true) [] N q:=t;obtain⟨rfl,rfl⟩:=trodVars_none hV;have⟨M,l,o,Z,t',e1,P,W,e4⟩:=Qo hS z (x0:=D) (x1:=E) (x2:=G) (Post:=λv W2=>(Tu Rows.branchedSpec).postWith c Tryz.prog Tryz.f10 F (outsideKept [.timePasses]) false true false (w.forCall b i) #[SU D,SU E,SU G] v W2) λw2 u=>by
  refine postWith_of_post ⟨_,_,_,[],[],[],j,?_,?_,?_,⟨rfl,u.out,λk S=> ?_⟩,λh=>by cases h⟩ (by rw[u.os];exact⟨0,by simp⟩)
  .exact trodAll_mk1 (shut_bool Tryz.underlying4 true)
  .exact trodAll_mk3 (Tk Tryz.underlying9 t0) (Tk Tryz.underlying9 Q) (Tk Tryz.underlying9 t2)
  .rfl
  .dsimp only;rw[u.old k S];split <;>simp_all
 exact⟨M,l,o,Z,t',e1,P,W,e4.mono λv hp=>postWith_blind hp⟩
def Qu:Rows.BranchedSaid:=
 OpenClaim.holds_of_wide_leaving_time 10 Tryz.f10 rfl rfl rfl rfl rfl rfl rfl ⟨rfl,rfl,rfl,rfl,rfl⟩ rfl rfl rfl rfl rfl (by kernel_rfl) Tryz.func10 (by kernel_rfl)
  (of_decide_eq_true (by kernel_rfl)) (by unfold Func.isWrapper;rw[if_neg (of_decide_eq_false (by kernel_rfl))];exact⟨rfl,rfl⟩)
  (λos started H enc _ F=>law_lifted os started H enc F)
def Q7:∀f fn,Tryz.pinned.checked.prog.funcNamed Rows.branchedRow.func=some f->Tryz.pinned.checked.prog.funcs[f]?=some fn->true=Tryz.pinned.checked.prog.looks []/\∀(j:Nat) t,fn.params[j]?=some t->Tryz.pinned.checked.prog.wantsStandIn t=false:=λf fn hf hfn=>by
 obtain rfl:f=10:=Option.some.inj ((show Tryz.prog.funcNamed Rows.branchedRow.func=some 10 by kernel_rfl).symm.trans hf)|>.symm
 obtain rfl:fn=Tryz.f10:=(Option.some.inj (Tryz.func10.symm.trans hfn)).symm;refine⟨by kernel_rfl,λj t ht=> ?_⟩;rw[Tryz.params10]at ht;match j,ht with
 |0,ht=>
  obtain rfl:9=t:=by simpa using ht
  exact(show Tryz.prog.wantsStandIn 9=false by kernel_rfl)
 |1,ht=>
  obtain rfl:9=t:=by simpa using ht
  exact(show Tryz.prog.wantsStandIn 9=false by kernel_rfl)
 |2,ht=>
  obtain rfl:9=t:=by simpa using ht
  exact(show Tryz.prog.wantsStandIn 9=false by kernel_rfl)
 |j+3,ht=>simp at ht
theorem branched_holds:Rows.BranchedCardSaid:=
 ⟨Claim7.tied_new_at .later [.handle,.data] true (Claim7.new_of_sixth Qu Rows.branchedCard.stood.harness true rfl ⟨rfl,rfl⟩ (by kernel_rfl) (by kernel_rfl) Q7) (by kernel_rfl),λD hD=>(by cases hD),branched_row_tie,λh=>(by cases h),by kernel_rfl⟩
end
end Go.Proofs.YtkgohmcmmcpigaaGreatDoor
