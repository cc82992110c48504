/- Joined holds of every pattern, all flags, every text; no condition. -/
import Derived.Carry
import Derived.Laws.CopyRow
import Derived.Maps.OwnIn
import Derived.Shelf.Strings.BuilderK
import Derived.Shelf.Strings.Search1
import Derived.Test.YtkgohmcmmcpigabGreatDoorW08
set_option linter.all false
set_option maxHeartbeats 8000000
set_option maxRecDepth 100000
namespace Go.Proofs.YtkgohmcmmcpigabGreatDoor
open Go
open Go.Lib renaming hid->AI,byteCells->Tk
open _root_.List renaming mem_singleton->Sv,not_mem_nil->Sw,replicate->SD,range'->SG,append_toArray->SM,getElem_cons_zero->SN,getElem_cons_succ->SO,size_toArray->SR,push_toArray->SS,getElem_toArray->SU,length_cons->SV,cons_append->SW,nil_append->SX,length_nil->SY,mem_cons->T5,getElem?_eq_some_iff->T9,take_succ_cons->Ts,drop_succ_cons->Tt,getElem?_append_left->Tu,mem_cons_of_mem->TH,mem_cons_self->TN,getElem?_take->TP,drop_eq_getElem_cons->TS,getElem?_eq_getElem->TV,getElem?_cons_zero->TZ,getElem?_cons_succ->U3,drop_eq_nil_of_le->Ua,getElem?_toArray->Uc,drop_length->Uq,append_nil->Uu
open Go.Act renaming put->Sy
open _root_.Nat renaming le_refl->Sz,lt_of_lt_of_le->SQ,le_trans->T0,reduceAdd->T4,reduceSub->T7,zero_le->Tf,lt_succ_self->TD,zero_mul->TF,zero_add->TG,min->Ub,lt_irrefl->Ug,sub_zero->Uk
open Go renaming World->SF,Value->Tg,execOp->Ul
open _root_.Array renaming getElem?_eq_some_iff->SI,replicate_zero->SK,replicate_succ->SL,replicate->U8,map_append->Ur
open _root_.Or renaming inl->SP,inr->Tl
open Go.World renaming putObj_heap_other->T8,alloc->Tm,size_alloc->Tn,putObj->TU,putObj_heap_same->U9,alloc_heap_new->Ud
open _root_.ByteArray renaming size_extract->Th,size_append->Tq
open _root_.Int renaming toNat_natCast->Tx
open _root_.Option renaming map_eq_some_iff->Ty
open Go.Frame renaming enter->Tz
open Go.Oper renaming semAt_some->TE,wp->Uw
open Go.CallsIn renaming inRound->TI
open Go.Value renaming int->Su,slice->SE,bool->Ta,pointer->AS,string->SC,iface->Tb,tuple->Td,nilIface->Te,func->TK
open Go.OpenSpec renaming ofChange->TQ
open Go.Exit renaming inBlock->TW
open Go.Deferred renaming ofValue->TX
open _root_.Bool renaming and_eq_true->TY,or_eq_true->U7
open Go.Region renaming wanted->Uf,ready->Uj
open Go.Builtin renaming copy_->Uh,zeroCells->Un
open Go.Steps renaming one->Ui
open _root_.Decidable renaming em->Um
open Go.NoPanic renaming normal->Ux
open Go.IntKind renaming i64->Sx,u64->T6,u8->Tr,u32->TC
open Go.Ending renaming returned->SH,panicked->U4
open Go.Obj renaming cells->SJ,deferred->SZ,loop->Tc
open Go.LoopState renaming ready->Ti,exhausted->Tw,done->TR,busy->U6
open Go.Target renaming collected->Tj
open Go.FrameMode renaming returning->Tp,panicking->Ue
open Go.Result renaming ok->Tv
open Go.CallKind renaming normal->TJ
open Go.Item renaming inRegion->TL
open Go.Fn renaming func->U5
section
open Go.RowKit
attribute [local go_sem] TE
def FK{P c Q n}{S R:SF->Prop}{g b a w}(i d v f args){m}(t:c[i]?=some m)(u:m.dst=some d)(p:Uf m (yielded c a.tmps)=true)(q:Uj n c b=[i])
 (l:(Ul a.eval m).run P w=Tv (.enter f args) w) (s:Calls P f args w λe k=>e=SH v/\R k)
 (h:∀k,R k->S k/\wpAnyH P n c Q S g (b.setIfInBounds i true) (a.put (some d) v) k):wpAnyH P n c Q S (g+1) b a w:=
 wpAnyH_all q (by simp) λj r=>by
  obtain rfl:=Sv.1 r;simp[wpOp,t,if_pos p];refine .inl ?_;simp[Uw,l];refine Calls.mono s ?_;grind
def Jt{M k l m d i j}(hs:M.s.size<=300)(b:i<=M.s.size)(a:(dI M k l m d i).testBit j=true)(e:i<j\/(d:Int)<l):
 ∃c,df (λc=>(decide (i<c)||decide ((d:Int)<l))&& (dI M k l m (bS l m d) c).testBit j) (bv M k i) 320=some c:=by
 cases h:df (λc=>(decide (i<c)||decide (d<l))&& (dI M k l m (bS l m d) c).testBit j) (bv M k i) 320 with
 |some c=>exact⟨c,rfl⟩
 |none=>
  rw[oX]at h;rw[Bd b hs,Nat.testBit_or,U7]at a;rcases a with a|a
  split at a;rw[tN,decide_eq_true_eq]at a;omega;grind
  grind [pd]
def Gs(A n)(h:A.size=n):A=((List.range n).map λi=>A.getD i undef).toArray:=by
 subst h;refine Array.ext (by simp) λi a b=> ?_
 simp_all
def OU(w t q m i j):
 Caps (((((w.alloc (SJ #[AS (some ⟨q,0,none⟩)] t)).alloc (SJ #[AS (some ⟨m,0,none⟩)] 142)).alloc (SJ #[Su Sx i] 3)).alloc (SJ #[Su Sx j] 3)).alloc (SJ #[Su Sx 0] 3)) w.heap.size (w.heap.size+1+1) (w.heap.size+1) (w.heap.size+1+1+1) t q m i j/\
 a7 (((((w.alloc (SJ #[AS (some ⟨q,0,none⟩)] t)).alloc (SJ #[AS (some ⟨m,0,none⟩)] 142)).alloc (SJ #[Su Sx i] 3)).alloc (SJ #[Su Sx j] 3)).alloc (SJ #[Su Sx 0] 3)) (w.heap.size+1+1+1+1) 3 #[Su Sx (0:Nat)]/\
 Kq w.heap.size [] w (((((w.alloc (SJ #[AS (some ⟨q,0,none⟩)] t)).alloc (SJ #[AS (some ⟨m,0,none⟩)] 142)).alloc (SJ #[Su Sx i] 3)).alloc (SJ #[Su Sx j] 3)).alloc (SJ #[Su Sx 0] 3)):=by
 have⟨a,e⟩:=Ll w t q m i j;have b:∀(W:SF)(t c)(n:Nat),W.heap.size=n->a7 (W.alloc (SJ c t)) n t c:=λW t c n h=>h▸a7.new W t c
 exact⟨a.kq ((Kq.refl _).alloc (Sz _) _) λg d=>⟨a.lt g d,Sw⟩,b _ _ _ _ (by simp),e.alloc (Sz _) _⟩
def CU{E}(hE:fu E){g G}(hG:lL E g G){id l m k}(hk:gy E k)(hwk:WalkC E g G k)(hn:Nd.rep id k l m∈subs E.R):WalkC E g G (.rep id k l m):=by
 intro w q i j L hM hR hi N hL hg;have hj:=(bZ E.M _ i hi j N).2;rw[yK]at N;rw[de];show Calls PM 244 ..;have hl:=hE.rep id k l m hn;have hrest:=λ(d i:Nat)(h:d<1900000)=>uo hE hk hn ((l-d).toNat+(E.M.s.size-i)+1) d i (TD _)
 have hsz:=hE.size;obtain⟨v,hB,hSq,hRk⟩:∃v,a7 w q 279 #[Su Sx id,v,Su Sx l,Su Sx m]/\E.S q/\Repr w E.S v k:=by
  cases hR with
  |rep a b c=>exact⟨_,b,a,c⟩
 obtain⟨p,rfl⟩:=ed hRk;obtain⟨hc,b8,k1⟩:=OU w 277 q E.m i j;have W0:WS E g (.rep id k l m) q w _ L i j:=⟨(WB.start hE hM hR hg).own (X:=[]) (Sz _) (λ_ h=>nomatch h) k1,hc⟩;replace W0:=AI W0;replace b8:=AI b8;replace N:=AI N;replace hrest:=AI hrest;have hB':=AI hB;have hRk':=AI hRk;have A:=fN k ⟨p,0,none⟩;have h2:=gu k ⟨p,0,none⟩;have h3:=i9 k;have h4:=jD k ⟨p,0,none⟩;have h5:=kC k ⟨p,0,none⟩;have h6:=walk_call k;refine callsIn_wide (n:=4).1 (callsIn_of_wp_marks (PM.func Tryz.func244 (by decide)) rfl trivial ?_ rfl);simp only[Tryz.ntmps244,SR,SV,SY,T4,T7,SL,SK,SS,SM,SX,SW];refine wpIn_wide.2 ?_;go_wp2;generalize Tm .. =W1 at W0 b8 ⊢;refine wp_loop_ghost_k (λn a W=>∃(d z D:Nat)(L':Sp),(l-d).toNat+(E.M.s.size-z)<n/\d+n<=1500000/\(a.tmps.size=65/\a.tmps.getD 0 undef=AS (some ⟨q,0,none⟩)/\a.tmps.getD 1 undef=AS (some ⟨E.m,0,none⟩)/\a.tmps.getD 2 undef=Su Sx i/\a.tmps.getD 3 undef=Su Sx j/\a.tmps.getD 4 undef=AS (some ⟨w.heap.size,0,none⟩)/\a.tmps.getD 5 undef=AS (some ⟨w.heap.size+1,0,none⟩)/\a.tmps.getD 6 undef=AS (some ⟨w.heap.size+1+1,0,none⟩)/\a.tmps.getD 7 undef=AS (some ⟨w.heap.size+1+1+1,0,none⟩)/\a.tmps.getD 8 undef=AS (some ⟨D,0,none⟩))/\WS E g (.rep id k l m) q w W L' z j/\w.heap.size+1+1+1<D/\a7 W D 3 #[Su Sx d]/\Marks w.heap.size a.defers W/\(dI E.M k l m d z).testBit j=true/\z<=E.M.s.size/\L'.length=G+1/\dH (jJ E.M k l m (de E.M k) j n d z) L'=dH (jJ E.M k l m (de E.M k) j (l.toNat+400) 0 i) L) (l.toNat+400) ?_ ?_
 .exact⟨0,i,_,L,by simp;omega,by omega,⟨rfl,rfl,rfl,rfl,rfl,rfl,rfl,rfl,rfl,rfl⟩,W0.out,by omega,b8.out,trivial,N.out,hi,hL,rfl⟩
 rintro n ⟨tm,ds⟩ W ⟨d,z,D,L',hlt,hdn,⟨hs65,t0,t1,t2,t3,t4,t5,t6,t7,t8⟩,hWS,hD,hB8,hMk,hbit,hi',hL',hfin⟩ U2 K hJ hK;have⟨X,hX⟩:∃X:Nat->Tg,(λi=>tm.getD i undef)=X:=⟨_,rfl⟩;have hX':∀i,tm.getD i undef=X i:=λi=>congrFun hX i
 have htm:tm=#[X 0,X 1,X 2,X 3,X 4,X 5,X 6,X 7,X 8,X 9,X 10,X 11,X 12,X 13,X 14,X 15,X 16,X 17,X 18,X 19,X 20,X 21,X 22,X 23,X 24,X 25,X 26,X 27,X 28,X 29,X 30,X 31,X 32,X 33,X 34,X 35,X 36,X 37,X 38,X 39,X 40,X 41,X 42,X 43,X 44,X 45,X 46,X 47,X 48,X 49,X 50,X 51,X 52,X 53,X 54,X 55,X 56,X 57,X 58,X 59,X 60,X 61,X 62,X 63,X 64]:=by
  have:=Gs tm 65 hs65;rw[hX]at this;exact this
 rw[hX']at t0 t1 t2 t3 t4 t5 t6 t7 t8;rw[t0,t1,t2,t3,t4,t5,t6,t7,t8]at htm;rw[htm];obtain⟨f,rfl⟩:∃f,n=f+1:=⟨n-1,by omega⟩;have hWS0:=AI hWS;have hMk0:=AI hMk;have hB0:=AI hB8;have hDlt:=hB8.lt;have v2:=hWS.caps.b2.cell 0;have v4:=hWS.caps.b4.cell 0;have v1:=hWS.caps.b1.cell 0;have v3:=hWS.caps.b3.cell 0;have v8:=hB8.cell 0;have hBq:=(hWS.wb.old hE hG q hSq).trans hB'.out;have v9:W.cell? ⟨q,2,none⟩=some (Su Sx l):=a7.cell hBq 2;have v7:W.cell? ⟨q,1,none⟩=some (Tb (bn k) (AS (some ⟨p,0,none⟩))):=a7.cell hBq 1;replace hfin:=AI hfin;replace hbit:=AI hbit;replace hlt:=AI hlt;by_cases F:z<j\/(d:Int)<l
 .have⟨cc,hcc⟩:=Jt hE.size hi' hbit.out F;have hff:=hfin.out;rw[jJ,if_pos F,hcc,yG]at hff;obtain⟨qf,hqf⟩:∃qf:Nat->Bool,(λc=>(decide (z<c)||decide ((d:Int)<l))&& (dI E.M k l m (bS l m d) c).testBit j)=qf:=⟨_,rfl⟩;rw[hqf]at hcc;replace hqf:=AI hqf;replace hff:=AI hff;replace hcc:=AI hcc;rcases(Um (z<j)).imp AI AI with hij|hij
  case' inl=>
   have e1:decide (z<j)=true:=decide_eq_true hij.out
  case' inr=>
   have e1:decide (z<j)=false:=decide_eq_false hij.out;have e2:decide ((d:Int)<l)=true:=decide_eq_true (F.resolve_left hij.out)
  all_goals
   replace F:=AI F;go_wp2;go_quiet (fail)
   have H:Kq W.heap.size [] W (W.drewN nq):=(Kq.refl W).drewN nq;have hW3:=(hWS0.out.boxes (w.heap.size+1+1+1) (by simp)).1;have S1:=hWS0.out.own (X:=[]) hW3 (λ_ h=>nomatch h) H;have M1:=hMk0.out.stay hMk0.out (X:=[]) (λ_ h=>nomatch h) H;have B1:a7 (W.drewN nq) D 3 #[Su Sx d]:=hB0.out;replace v1:=(show(W.drewN nq).cell? _=_ from v1);replace v2:=(show(W.drewN nq).cell? _=_ from v2);replace v3:=(show(W.drewN nq).cell? _=_ from v3);replace v7:=(show(W.drewN nq).cell? _=_ from v7);have hDlt1:D<(W.drewN nq).heap.size:=hDlt;have z3:w.heap.size+1+1+1<(W.drewN nq).heap.size:=hW3;generalize W.drewN nq=W1 at *;have H:Kq W1.heap.size [] W1 W1.drew:=(Kq.refl W1).drew;replace S1:=S1.own (X:=[]) z3 (λ_ h=>nomatch h) H;replace M1:=M1.stay M1 (X:=[]) (λ_ h=>nomatch h) H;replace B1:a7 W1.drew D 3 #[Su Sx d]:=B1;have hRk1:=hRk'.out.keep (w':=W1.drew) λb N _=>S1.wb.old hE hG b N
   have hC:=AI (hk W1.drew p z S1.wb.mem hRk1 hi');replace S1:=AI S1;replace M1:=AI M1;replace B1:=AI B1;replace hRk1:=AI hRk1;go_wp2;go_still_tail 6,(by kernel_rfl)
   change wpList _ _ _ _ _ W1.drew;go_wp2;refine hC.out.mono ?_;rintro e w2 ⟨rfl,hM2,k2⟩;have S2:=AI (S1.out.asked hE hG hM2 k2);have hr:=S1.out.wb.new.2.1;have B2:=AI (B1.out.kq k2 B1.out.lt λC=>by have:=Sv.1 C;omega);have M2:=AI (M1.out.stay M1.out (λx C=>by rw[Sv.1 C];exact S1.out.wb.mem.fC) k2);have hDl2:=B2.out.lt;try clear e2
   go_wp2;have hw:=AI (bZ E.M k z hi');have⟨P,hP⟩:∃P,bv E.M k z=P:=⟨_,rfl⟩;rw[hP]at hw;have T:=hcc.out;rw[hP]at T;replace T:=AI T;replace hP:=AI hP;rw[hP.out];have hps:=AI (j4.1 T.out);refine wpIn_wide (n:=4).1 (qe (X:=[E.r,g,w.heap.size+1+1]) (t:=32) (p:=P) (by decide) rfl ?_
    (λc y=>df qf P c=some cc/\WS E g (.rep id k l m) q w y L' z j/\a7 y D 3 #[Su Sx d]/\Marks w.heap.size ds y)
    (λx c y=>x= .exit 2/\c=cc/\WS E g (.rep id k l m) q w y (dH (de E.M k z cc) L') cc j/\a7 y D 3 #[Su Sx d]/\Marks w.heap.size ds y) ?_ ?_ ?_ ?_ ?_ ?_ ?_ ?_ ?_)
   case refine_7=>
    intro ll c y K hK;gi_wp2
    exact hK
   case refine_1=>
    intro x C;have A:=S2.out.wb.new;have h2:=S2.out.wb.kq.kp.1;simp only[T5,Sw,or_false]at C;omega
   case refine_2=>
    rintro c y W'' ⟨A,h2,h3,h5⟩ M;exact⟨A,h2.own (X:=[]) (by omega) (λ_ h=>nomatch h) M,h3.kq M (by omega) Sw,h5.stay M2.out (X:=[]) (λ_ h=>nomatch h) M⟩
   case refine_3=>
    rintro x c y W'' ⟨A,h2,h3,h4,h5⟩ M;exact⟨A,h2,h3.own (X:=[]) (by omega) (λ_ h=>nomatch h) M,h4.kq M (by omega) Sw,h5.stay M2.out (X:=[]) (λ_ h=>nomatch h) M⟩
   case refine_4=>
    rintro c y ⟨A,h2⟩ N;rw[df,if_neg (by rw[N];simp)]at A;exact⟨A,h2⟩
   case refine_5=>exact⟨T.out,S2.out,B2.out,M2.out⟩
   case refine_9=>
    rintro y ⟨A,_⟩ _;cases A
   case refine_10=>
    rintro _ c y hk1 N ⟨rfl,rfl,h3,hb8,h4⟩ hDm;have hcs:=(hw.out c N);have hstep:z<c\/(d:Int)<l:=by
     have:=hps.out.2.2.1;rw[<- congrFun hqf.out c,TY,U7,decide_eq_true_eq,decide_eq_true_eq]at this;exact this.1
    have I:=hps.out.2.2.1;rw[<- congrFun hqf.out c,TY]at I;replace I:=AI I.2;replace hstep:=AI hstep;have kA:Kq y.heap.size [] y (y.alloc (SJ #[Su Sx d] 3)):=(Kq.refl y).alloc (Sz _) _;have kB:Kq y.heap.size [] y (y.alloc (SJ #[Su Sx (bS l m d:Nat)] 3)):=(Kq.refl y).alloc (Sz _) _;have nB:a7 (y.alloc (SJ #[Su Sx d] 3)) y.heap.size 3 #[Su Sx d]:=a7.new y ..;have nB2:a7 (y.alloc (SJ #[Su Sx (bS l m d:Nat)] 3)) y.heap.size 3 #[Su Sx (bS l m d:Nat)]:=a7.new y ..;have hDl:=hb8.lt;have S3:=h3.own (X:=[]) (by omega) (λ_ h=>nomatch h) kA;have S4:=h3.own (X:=[]) (by omega) (λ_ h=>nomatch h) kB;have hBq2:=(S3.wb.old hE hG q hSq).trans hB'.out;have hA:=AI (o9 hBq2 (by omega:d<2000000));have u1:=S3.caps.b1.cell 0;have u8:=nB.cell 0;have u9:=hb8.cell 0;have uf:=nB.frozen;have M3:=h4.stay h4 (X:=[]) (λ_ h=>nomatch h) kB;have hDm2:=(kB.kp.2 _ (SI.1 hDm).1 Sw).trans hDm;replace S4:=AI S4;replace M3:=AI M3;replace nB2:=AI nB2;replace hDm2:=AI hDm2;refine wpIn_wide.2 ?_;go_wp2;refine hA.out.mono ?_;rintro e u ⟨rfl,hu⟩;subst u;go_wp2;have hl0:=hlt.out;have hs0:=hstep.out;refine Handed.intro f (TD f) (hJ _ _ _ ⟨bS l m d,c,y.heap.size,dH (de E.M k z c) L',by unfold bS;split <;>omega,by unfold bS;split <;>omega,⟨rfl,rfl,rfl,rfl,rfl,rfl,rfl,rfl,rfl,rfl⟩,S4.out,by omega,nB2.out,⟨⟨w2.heap.size,rfl,by omega,hDm2.out,λd' hd' e=> ?_⟩,M3.out⟩,I.out,hcs.2,by rw[oZ];exact hL',hff.out⟩);rw[e]at hd';exact Ug _ (M2.out.lt _ hd')
   case refine_8=>
    rintro ll c y hltW hk1 N ⟨A,h2,h3,h5⟩;rw[df]at A;have hcs:=hw.out c N;have H:Kq y.heap.size [] y y.drew:=(Kq.refl _).drew;have hDl:=h3.lt;have s:WS E g (.rep id k l m) q w y.drew L' z j/\a7 y.drew D 3 #[Su Sx d]/\Marks w.heap.size ds y.drew:=⟨h2.own (X:=[]) (by omega) (λ_ h=>nomatch h) H,h3,h5.stay h5 (X:=[]) (λ_ h=>nomatch h) H⟩;replace A:=AI A;replace H:=AI H;have hL3:∀{K U1 Yx},¬ LetsOut (Exit.then K (TW 3 (jY [E.r,g,w.heap.size+1+1] y U1 Yx))):=λ⟨_,_,h⟩=>h
    gi_wp2
    have hzd:y.drew.heap.size=y.heap.size:=rfl;have hBq6:=(s.1.wb.old hE hG q hSq).trans hB'.out;have htri:Hid (z<c)\/(Hid (¬ z<c)/\Hid ((d:Int)<l))\/Hid ¬ z<c/\Hid ¬ (d:Int)<l:=by
     rcases Um (z<c)with h|h
     .exact .inl (AI h)
     .rcases Um ((d:Int)<l)with h'|h'
      .exact .inr (.inl ⟨AI h,AI h'⟩)
      .exact .inr (.inr ⟨AI h,AI h'⟩)
    rcases htri with t1|⟨t1,t2⟩|⟨t1,t2⟩
    case' inl=>
     have e1:decide (z<c)=true:=decide_eq_true t1.out;refine gO (S:=λu=>WS E g (.rep id k l m) q w u L' z j/\a7 u D 3 #[Su Sx d]/\Marks w.heap.size ds u) (by kernel_rfl) hL3 (by kernel_rfl) ?_;show wpAnyH _ _ _ _ _ 22 _ _ y.drew;generalize y.drew=W6 at s H hzd hBq6 ⊢;refine takeD 0 33 (Su Sx c) rfl rfl (by kernel_rfl) (by kernel_rfl) (by kernel_rfl) (λ_ _ _ h=>h) (SP ⟨by rfl,λB r=> ?_⟩) s ?_
     .skip
      go_simp
     simp only[Sy,zq0];refine takeD 1 34 (Su Sx z) rfl rfl (by kernel_rfl) (by kernel_rfl) (by kernel_rfl) (λ_ _ _ h=>h) (SP ⟨by rfl,λB r=> ?_⟩) s ?_
     .have A:=r.1.caps.b2.cell 0;go_simp
     simp only[Sy,zq0];refine takeD 2 35 (Ta true) rfl rfl (by kernel_rfl) (by kernel_rfl) (by kernel_rfl) (λ_ _ _ h=>h) (SP ⟨by rfl,λB r=> ?_⟩) s ?_
     .have A:=e1;go_simp
     simp only[Sy,zq0];refine takeD 3 36 (Ta true) rfl rfl (by kernel_rfl) (by kernel_rfl) (by kernel_rfl) (λ_ _ _ h=>h) (SP ⟨by rfl,λB r=> ?_⟩) s ?_
     .skip
      go_simp
     simp only[Sy,zq0];refine takeD 4 37 undef rfl rfl (by kernel_rfl) (by kernel_rfl) (by kernel_rfl) (λ_ _ _ h=>h) (Tl ⟨by rfl,rfl⟩) s ?_;simp only[Sy,zq0];refine takeD 5 38 undef rfl rfl (by kernel_rfl) (by kernel_rfl) (by kernel_rfl) (λ_ _ _ h=>h) (Tl ⟨by rfl,rfl⟩) s ?_;simp only[Sy,zq0];refine takeD 6 39 undef rfl rfl (by kernel_rfl) (by kernel_rfl) (by kernel_rfl) (λ_ _ _ h=>h) (Tl ⟨by rfl,rfl⟩) s ?_;simp only[Sy,zq0];refine takeD 7 40 undef rfl rfl (by kernel_rfl) (by kernel_rfl) (by kernel_rfl) (λ_ _ _ h=>h) (Tl ⟨by rfl,rfl⟩) s ?_;simp only[Sy,zq0];refine takeD 8 41 undef rfl rfl (by kernel_rfl) (by kernel_rfl) (by kernel_rfl) (λ_ _ _ h=>h) (Tl ⟨by rfl,rfl⟩) s ?_;simp only[Sy,zq0];refine takeD 9 42 undef rfl rfl (by kernel_rfl) (by kernel_rfl) (by kernel_rfl) (λ_ _ _ h=>h) (Tl ⟨by rfl,rfl⟩) s ?_;simp only[Sy,zq0]
    case' inr.inl=>
     have e1:decide (z<c)=false:=decide_eq_false t1.out;have e2:decide ((d:Int)<l)=true:=decide_eq_true t2.out;refine gO (S:=λu=>WS E g (.rep id k l m) q w u L' z j/\a7 u D 3 #[Su Sx d]/\Marks w.heap.size ds u) (by kernel_rfl) hL3 (by kernel_rfl) ?_;show wpAnyH _ _ _ _ _ 22 _ _ y.drew;generalize y.drew=W6 at s H hzd hBq6 ⊢;refine takeD 0 33 (Su Sx c) rfl rfl (by kernel_rfl) (by kernel_rfl) (by kernel_rfl) (λ_ _ _ h=>h) (SP ⟨by rfl,λB r=> ?_⟩) s ?_
     .skip
      go_simp
     simp only[Sy,zq0];refine takeD 1 34 (Su Sx z) rfl rfl (by kernel_rfl) (by kernel_rfl) (by kernel_rfl) (λ_ _ _ h=>h) (SP ⟨by rfl,λB r=> ?_⟩) s ?_
     .have A:=r.1.caps.b2.cell 0;go_simp
     simp only[Sy,zq0];refine takeD 2 35 (Ta false) rfl rfl (by kernel_rfl) (by kernel_rfl) (by kernel_rfl) (λ_ _ _ h=>h) (SP ⟨by rfl,λB r=> ?_⟩) s ?_
     .have A:=e1;go_simp
     simp only[Sy,zq0];refine takeD 3 36 (Ta false) rfl rfl (by kernel_rfl) (by kernel_rfl) (by kernel_rfl) (λ_ _ _ h=>h) (SP ⟨by rfl,λB r=> ?_⟩) s ?_
     .skip
      go_simp
     simp only[Sy,zq0];refine takeD 4 37 (Su Sx d) rfl rfl (by kernel_rfl) (by kernel_rfl) (by kernel_rfl) (λ_ _ _ h=>h) (SP ⟨by rfl,λB r=> ?_⟩) s ?_
     .have A:=r.2.1.cell 0;go_simp
     simp only[Sy,zq0];refine takeD 5 38 (AS (some ⟨q,0,none⟩)) rfl rfl (by kernel_rfl) (by kernel_rfl) (by kernel_rfl) (λ_ _ _ h=>h) (SP ⟨by rfl,λB r=> ?_⟩) s ?_
     .have A:=r.1.caps.b1.cell 0;go_simp
     simp only[Sy,zq0];refine takeD 6 39 (AS (some ⟨q,0,none⟩)) rfl rfl (by kernel_rfl) (by kernel_rfl) (by kernel_rfl) (λ_ _ _ h=>h) (SP ⟨by rfl,λB r=> ?_⟩) s ?_
     .skip
      go_simp
     simp only[Sy,zq0];refine takeD 7 40 (AS (some ⟨q,2,none⟩)) rfl rfl (by kernel_rfl) (by kernel_rfl) (by kernel_rfl) (λ_ _ _ h=>h) (SP ⟨by rfl,λB r=> ?_⟩) s ?_
     .skip
      go_simp
     simp only[Sy,zq0];refine takeD 8 41 (Su Sx l) rfl rfl (by kernel_rfl) (by kernel_rfl) (by kernel_rfl) (λ_ _ _ h=>h) (SP ⟨by rfl,λB r=> ?_⟩) s ?_
     .have A:=a7.cell ((r.1.wb.old hE hG q hSq).trans hB'.out) 2;go_simp
     simp only[Sy,zq0];refine takeD 9 42 (Ta true) rfl rfl (by kernel_rfl) (by kernel_rfl) (by kernel_rfl) (λ_ _ _ h=>h) (SP ⟨by rfl,λB r=> ?_⟩) s ?_
     .have A:=e2;go_simp
     simp only[Sy,zq0]
    case inr.inr=>
     have e1:decide (z<c)=false:=decide_eq_false t1.out;have e2:decide ((d:Int)<l)=false:=decide_eq_false t2.out;refine gO (S:=λu=>WS E g (.rep id k l m) q w u L' z j/\a7 u D 3 #[Su Sx d]/\Marks w.heap.size ds u) (by kernel_rfl) hL3 (by kernel_rfl) ?_;show wpAnyH _ _ _ _ _ 22 _ _ y.drew;generalize y.drew=W6 at s H hzd hBq6 ⊢;refine takeD 0 33 (Su Sx c) rfl rfl (by kernel_rfl) (by kernel_rfl) (by kernel_rfl) (λ_ _ _ h=>h) (SP ⟨by rfl,λB r=> ?_⟩) s ?_
     .skip
      go_simp
     simp only[Sy,zq0];refine takeD 1 34 (Su Sx z) rfl rfl (by kernel_rfl) (by kernel_rfl) (by kernel_rfl) (λ_ _ _ h=>h) (SP ⟨by rfl,λB r=> ?_⟩) s ?_
     .have A:=r.1.caps.b2.cell 0;go_simp
     simp only[Sy,zq0];refine takeD 2 35 (Ta false) rfl rfl (by kernel_rfl) (by kernel_rfl) (by kernel_rfl) (λ_ _ _ h=>h) (SP ⟨by rfl,λB r=> ?_⟩) s ?_
     .have A:=e1;go_simp
     simp only[Sy,zq0];refine takeD 3 36 (Ta false) rfl rfl (by kernel_rfl) (by kernel_rfl) (by kernel_rfl) (λ_ _ _ h=>h) (SP ⟨by rfl,λB r=> ?_⟩) s ?_
     .skip
      go_simp
     simp only[Sy,zq0];refine takeD 4 37 (Su Sx d) rfl rfl (by kernel_rfl) (by kernel_rfl) (by kernel_rfl) (λ_ _ _ h=>h) (SP ⟨by rfl,λB r=> ?_⟩) s ?_
     .have A:=r.2.1.cell 0;go_simp
     simp only[Sy,zq0];refine takeD 5 38 (AS (some ⟨q,0,none⟩)) rfl rfl (by kernel_rfl) (by kernel_rfl) (by kernel_rfl) (λ_ _ _ h=>h) (SP ⟨by rfl,λB r=> ?_⟩) s ?_
     .have A:=r.1.caps.b1.cell 0;go_simp
     simp only[Sy,zq0];refine takeD 6 39 (AS (some ⟨q,0,none⟩)) rfl rfl (by kernel_rfl) (by kernel_rfl) (by kernel_rfl) (λ_ _ _ h=>h) (SP ⟨by rfl,λB r=> ?_⟩) s ?_
     .skip
      go_simp
     simp only[Sy,zq0];refine takeD 7 40 (AS (some ⟨q,2,none⟩)) rfl rfl (by kernel_rfl) (by kernel_rfl) (by kernel_rfl) (λ_ _ _ h=>h) (SP ⟨by rfl,λB r=> ?_⟩) s ?_
     .skip
      go_simp
     simp only[Sy,zq0];refine takeD 8 41 (Su Sx l) rfl rfl (by kernel_rfl) (by kernel_rfl) (by kernel_rfl) (λ_ _ _ h=>h) (SP ⟨by rfl,λB r=> ?_⟩) s ?_
     .have A:=a7.cell ((r.1.wb.old hE hG q hSq).trans hB'.out) 2;go_simp
     simp only[Sy,zq0];refine takeD 9 42 (Ta false) rfl rfl (by kernel_rfl) (by kernel_rfl) (by kernel_rfl) (λ_ _ _ h=>h) (SP ⟨by rfl,λB r=> ?_⟩) s ?_
     .have A:=e2;go_simp
     simp only[Sy,zq0];refine takeD 10 43 (Ta false) rfl rfl (by kernel_rfl) (by kernel_rfl) (by kernel_rfl) (λ_ _ _ h=>h) (SP ⟨by rfl,λB r=> ?_⟩) s ?_
     .skip
      go_simp
     simp only[Sy,zq0];refine takeD 11 44 (Ta false) rfl rfl (by kernel_rfl) (by kernel_rfl) (by kernel_rfl) (λ_ _ _ h=>h) (SP ⟨by rfl,λB r=> ?_⟩) s ?_
     .skip
      go_simp
     simp only[Sy,zq0];refine takeD 12 45 undef rfl rfl (by kernel_rfl) (by kernel_rfl) (by kernel_rfl) (λ_ _ _ h=>h) (Tl ⟨by rfl,rfl⟩) s ?_;simp only[Sy,zq0];refine takeD 13 46 undef rfl rfl (by kernel_rfl) (by kernel_rfl) (by kernel_rfl) (λ_ _ _ h=>h) (Tl ⟨by rfl,rfl⟩) s ?_;simp only[Sy,zq0];refine takeD 14 47 undef rfl rfl (by kernel_rfl) (by kernel_rfl) (by kernel_rfl) (λ_ _ _ h=>h) (Tl ⟨by rfl,rfl⟩) s ?_;simp only[Sy,zq0];refine takeD 15 48 undef rfl rfl (by kernel_rfl) (by kernel_rfl) (by kernel_rfl) (λ_ _ _ h=>h) (Tl ⟨by rfl,rfl⟩) s ?_;simp only[Sy,zq0];refine takeD 16 49 undef rfl rfl (by kernel_rfl) (by kernel_rfl) (by kernel_rfl) (λ_ _ _ h=>h) (Tl ⟨by rfl,rfl⟩) s ?_;simp only[Sy,zq0];refine takeD 17 50 undef rfl rfl (by kernel_rfl) (by kernel_rfl) (by kernel_rfl) (λ_ _ _ h=>h) (Tl ⟨by rfl,rfl⟩) s ?_;simp only[Sy,zq0];refine takeD 18 51 undef rfl rfl (by kernel_rfl) (by kernel_rfl) (by kernel_rfl) (λ_ _ _ h=>h) (Tl ⟨by rfl,rfl⟩) s ?_;simp only[Sy,zq0];refine takeD 19 52 undef rfl rfl (by kernel_rfl) (by kernel_rfl) (by kernel_rfl) (λ_ _ _ h=>h) (Tl ⟨by rfl,rfl⟩) s ?_;simp only[Sy,zq0];refine takeD 20 53 undef rfl rfl (by kernel_rfl) (by kernel_rfl) (by kernel_rfl) (λ_ _ _ h=>h) (Tl ⟨by rfl,rfl⟩) s ?_;simp only[Sy,zq0];refine takeD 21 54 (Ta false) rfl rfl (by kernel_rfl) (by kernel_rfl) (by kernel_rfl) (λ_ _ _ h=>h) (SP ⟨by rfl,λB r=> ?_⟩) s ?_
     .skip
      go_simp
     simp only[Sy,zq0];refine wpAnyH_done (by kernel_rfl) ?_ _;replace s:=AI s;have Z:qf c=false:=by rw[<- congrFun hqf.out c,e1,e2];rfl
     replace Z:=AI Z;gi_wp2
     refine⟨H.out.mono (by omega) nofun,?_,s.out⟩;have:=A.out;rw[if_neg (by rw[Z.out];simp)]at this;exact this
    all_goals
     refine takeD 10 43 (Ta true) rfl rfl (by kernel_rfl) (by kernel_rfl) (by kernel_rfl) (λ_ _ _ h=>h) (SP ⟨by rfl,λB r=> ?_⟩) s ?_
     .skip
      go_simp
     simp only[Sy,zq0];refine takeD 11 44 (Ta true) rfl rfl (by kernel_rfl) (by kernel_rfl) (by kernel_rfl) (λ_ _ _ h=>h) (SP ⟨by rfl,λB r=> ?_⟩) s ?_
     .skip
      go_simp
     simp only[Sy,zq0];refine takeD 12 45 (AS (some ⟨q,0,none⟩)) rfl rfl (by kernel_rfl) (by kernel_rfl) (by kernel_rfl) (λ_ _ _ h=>h) (SP ⟨by rfl,λB r=> ?_⟩) s ?_
     .have A:=r.1.caps.b1.cell 0;go_simp
     simp only[Sy,zq0];refine takeD 13 46 (AS (some ⟨E.m,0,none⟩)) rfl rfl (by kernel_rfl) (by kernel_rfl) (by kernel_rfl) (λ_ _ _ h=>h) (SP ⟨by rfl,λB r=> ?_⟩) s ?_
     .have A:=r.1.caps.b3.cell 0;go_simp
     simp only[Sy,zq0];refine takeD 14 47 (AS (some ⟨q,0,none⟩)) rfl rfl (by kernel_rfl) (by kernel_rfl) (by kernel_rfl) (λ_ _ _ h=>h) (SP ⟨by rfl,λB r=> ?_⟩) s ?_
     .have A:=r.1.caps.b1.cell 0;go_simp
     simp only[Sy,zq0];refine takeD 15 48 (Su Sx d) rfl rfl (by kernel_rfl) (by kernel_rfl) (by kernel_rfl) (λ_ _ _ h=>h) (SP ⟨by rfl,λB r=> ?_⟩) s ?_
     .have A:=r.2.1.cell 0;go_simp
     simp only[Sy,zq0];refine takeD 17 50 (Su Sx c) rfl rfl (by kernel_rfl) (by kernel_rfl) (by kernel_rfl) (λ_ _ _ h=>h) (SP ⟨by rfl,λB r=> ?_⟩) s ?_
     .skip
      go_simp
     simp only[Sy,zq0];refine takeD 19 52 (Su Sx j) rfl rfl (by kernel_rfl) (by kernel_rfl) (by kernel_rfl) (λ_ _ _ h=>h) (SP ⟨by rfl,λB r=> ?_⟩) s ?_
     .have A:=r.1.caps.b4.cell 0;go_simp
     simp only[Sy,zq0];have hAf:=o9 hBq6 (by omega:d<2000000);refine FK (R:=λu=>u=W6) 16 49 _ 246 #[AS (some ⟨q,0,none⟩),Su Sx d] rfl rfl (by rfl) (by kernel_rfl) (by go_simp) hAf ?_;rintro u hu;subst u;refine⟨s,?_⟩;simp only[Sy,zq0];have hmA:bS l m d<=d+1:=by unfold bS;split <;>omega
     have hlt0:=hlt.out;have hH:=hrest.out (bS l m d) c (by omega) (by omega) W6 q s.1.wb.mem s.1.wb.rep hcs.2;refine FK (R:=λu=>cI E u/\Kq W6.heap.size [E.r] W6 u) 18 51 _ 245 #[AS (some ⟨q,0,none⟩),AS (some ⟨E.m,0,none⟩),Su Sx (bS l m d:Nat),Su Sx c] rfl rfl (by rfl) (by kernel_rfl) (by go_simp) hH ?_;rintro W7 ⟨hM7,k7⟩;have hr6:=s.1.wb.new.2.1;have S7:WS E g (.rep id k l m) q w W7 L' z j/\a7 W7 D 3 #[Su Sx d]/\Marks w.heap.size ds W7:=⟨s.1.asked hE hG hM7 k7,s.2.1.kq k7 s.2.1.lt λC=>by have:=Sv.1 C;omega,s.2.2.stay s.2.2 (λx C=>by rw[Sv.1 C];exact s.1.wb.mem.fC) k7⟩;refine⟨S7,?_⟩;simp only[Sy,zq0];have hJ':=oV j (dI E.M k l m (bS l m d) c) W7 (by omega);refine FK (R:=λu=>Kq W7.heap.size [] W7 u) 20 53 _ 133 #[ep (dI E.M k l m (bS l m d) c),Su Sx j] rfl rfl (by rfl) (by kernel_rfl) (by go_simp) hJ' ?_;rintro W8 k8;have z7:=S7.2.1.lt;have S8:WS E g (.rep id k l m) q w W8 L' z j/\a7 W8 D 3 #[Su Sx d]/\Marks w.heap.size ds W8:=⟨S7.1.own (X:=[]) (by omega) (λ_ h=>nomatch h) k8,S7.2.1.kq k8 S7.2.1.lt Sw,S7.2.2.stay S7.2.2 (X:=[]) (λ_ h=>nomatch h) k8⟩;refine⟨S8,?_⟩;simp only[Sy,zq0];have hS2:=s;have s:=S8;refine takeD 21 54 (Ta ((dI E.M k l m (bS l m d) c).testBit j)) rfl rfl (by kernel_rfl) (by kernel_rfl) (by kernel_rfl) (λ_ _ _ h=>h) (SP ⟨by rfl,λB r=> ?_⟩) s ?_
     .skip
      go_simp
     simp only[Sy,zq0];refine wpAnyH_done (by kernel_rfl) ?_ _;have Q:Hid (Kq y.heap.size [E.r] y W8):=AI (((H.out.mono (Sz _) nofun).trans (k7.mono H.out.kp.1 λ_ h _=>h)).trans (k8.mono (T0 H.out.kp.1 k7.kp.1) nofun));have Z:qf c=(dI E.M k l m (bS l m d) c).testBit j:=by
      rw[<- congrFun hqf.out c];first
       |(rw[e1];simp;done)
       |(rw[e1,e2];simp)
     replace s:=AI s;replace Z:=AI Z;replace e1:=AI e1;by_cases hq:(dI E.M k l m (bS l m d) c).testBit j=true
     .have hkc:c=cc:=by
       have:=A.out;rw[if_pos (by rw[N,Z.out,hq];rfl)]at this;exact Option.some.inj this
      subst hkc;rw[hq];replace hq:=AI hq;have z8:w.heap.size+1+1+1<W8.heap.size:=(s.out.1.boxes (w.heap.size+1+1+1) (by simp)).1;have hRk8:=hRk'.out.keep (w':=W8.drew) λb N _=>s.out.1.wb.old hE hG b N
      have k9d:Kq W8.heap.size [] W8 W8.drew:=(Kq.refl W8).drew;have S9:=s.out.1.own (X:=[]) z8 (λ_ h=>nomatch h) k9d;have M9:=s.out.2.2.stay s.out.2.2 (X:=[]) (λ_ h=>nomatch h) k9d;have B9:Hid (a7 W8.drew D 3 #[Su Sx d]):=AI s.out.2.1;have hCw:=AI (hwk W8.drew p z c L' S9.wb.mem hRk8 hi' (by rw[hP.out];exact N) hL' S9.wb.sp);have hBq8:=(s.out.1.wb.old hE hG q hSq).trans hB'.out;have u1:=s.out.1.caps.b1.cell 0;have u2:=s.out.1.caps.b2.cell 0;have u3:=s.out.1.caps.b3.cell 0;have u5:W8.cell? ⟨q,1,none⟩=some (Tb (bn k) (AS (some ⟨p,0,none⟩))):=a7.cell hBq8 1;have hL7:∀{K U1 Yx},¬ LetsOut (Exit.then K (TW 3 (jY [E.r,g,w.heap.size+1+1] y U1 Yx))):=λ⟨_,_,h⟩=>h
      replace S9:=AI S9;replace M9:=AI M9;gi_wp2
      refine qq 7 (by kernel_rfl) hL7 (by kernel_rfl) (by kernel_rfl) ?_;simp only[Ts,List.take_zero,Tt,List.drop_zero];repeat still_step
      try refine wpStill_nil ?_
      change wpList _ _ _ _ _ W8.drew;go_wp2;refine hCw.out.mono ?_;rintro e W9 ⟨rfl,hM9,hs9,k9⟩;have S10:=S9.out.walked hE hG hM9 hs9 k9;have hnm:∀x∈[E.r,g],W8.drew.heap[x]?≠some (SZ (some [])):=λx C=>by
       simp only[T5,Sw,or_false]at C;rcases C with rfl|rfl
       .exact S9.out.wb.mem.fC
       .exact fC S9.out.wb.sp
      have M10:=M9.out.stay M9.out hnm k9;have hg6:=S9.out.wb.new.2.2.1;have hr7:=S9.out.wb.new.2.1;have B10:=B9.out.kq k9 B9.out.lt λC=>by
       simp only[T5,Sw,or_false]at C;omega
      have u4:=S10.caps.b2.cell 0;have u6:=S10.caps.b2.frozen;have kB:Kq W9.heap.size [w.heap.size+1+1] W9 (W9.setCell ⟨w.heap.size+1+1,0,none⟩ (Su Sx c)):=(Kq.refl W9).setCell (p:=⟨w.heap.size+1+1,0,none⟩) (λ_=>Sv.2 rfl) _;have M11:=M10.stay M10 (λx C=>by rw[Sv.1 C];exact fC S10.caps.b2) kB;have B11:=B10.kq kB B10.lt λC=>by have:=Sv.1 C;omega
      have S11:=S10.moved c;have kfin:Kq y.heap.size [E.r,g,w.heap.size+1+1] y (W9.setCell ⟨w.heap.size+1+1,0,none⟩ (Su Sx c)):=(((Q.out.mono (Sz _) λx C _=>by rw[Sv.1 C];exact TN).trans (k9d.mono Q.out.kp.1 nofun)).trans (k9.mono Q.out.kp.1 λx C _=>by
       simp only[T5,Sw,or_false]at C ⊢;exact C.imp (λh=>h) .inl)).trans (kB.mono (T0 Q.out.kp.1 k9.kp.1) λx C _=>by rw[Sv.1 C];simp)
      replace M11:=AI M11;replace B11:=AI B11;replace S11:=AI S11;replace kfin:=AI kfin;dsimp only;first
       |go_step
       |(refine ‹∀(a:Act)(w_1:SF),wpList PM _ _ [] a w_1->_› _ _ ?_)
      refine wpList_nil ?_;gi_wp2
      exact⟨kfin.out,rfl,S11.out,B11.out,M11.out⟩
     .have hqff:=Bool.eq_false_iff.2 hq;rw[hqff];replace hqff:=AI hqff;gi_wp2
      refine⟨Q.out.mono (Sz _) λx C _=>by rw[Sv.1 C];exact TN,?_,s.out⟩;have:=A.out;rw[if_neg (by rw[Z.out,hqff.out];simp)]at this;exact this
 .have hff:=hfin.out;rw[jJ,if_neg F]at hff;have e1:decide (z<j)=false:=decide_eq_false λh=>F (.inl h)
  have e2:decide ((d:Int)<l)=false:=decide_eq_false λh=>F (.inr h)
  have hfin2:Hid (L'=dH (jJ E.M k l m (de E.M k) j (l.toNat+400) 0 i) L):=AI hff;replace F:=AI F;go_wp2;go_quiet (fail)
  have H:Kq W.heap.size [] W (W.drewN nq):=(Kq.refl W).drewN nq;have M1:=AI (hMk0.out.stay hMk0.out (X:=[]) (λ_ h=>nomatch h) H);have S1:=AI (hWS0.out.own (X:=[]) (hWS0.out.boxes (w.heap.size+1+1+1) (by simp)).1 (λ_ h=>nomatch h) H);generalize W.drewN nq=W1 at *;go_wp2;refine ot rfl M1.out λy M=> ?_
  have hB:=S1.out.wb.own (X:=[]) (Sz _) (λ_ h=>nomatch h) M;rw[<- hfin2.out];exact⟨rfl,hB.mem,hB.sp,hB.kq⟩
end
section
open Go.RowKit
mutual
def walk_any{E}(q:fu E)(s:te E){g G}(r:lL E g G):∀y,(∀a∈subs y,a∈subs E.R)->WalkC E g G y
 | .set i a b c d,h=>CK
 | .edge i f,h=>BE
 | .seq i t,h=>
  have u:=λa v=>h a (by rw[subs];grind)
  CM q r (mp q s t u) (sg q s r t u) (h _ (sub_self _))
 | .alt i t,h=>
  have u:=λa v=>h a (by rw[subs];grind)
  Dn q r (mp q s t u) (sg q s r t u) (s.alt i t (h _ (sub_self _)))
 | .grp i k n,h=>Da q r (walk_any q s r k λa v=>h a (by rw[subs];grind)) (h _ (sub_self _))
 | .rep i k l m,h=>
  have u:=λa v=>h a (by rw[subs];grind)
  CU q r (ox q s k u) (walk_any q s r k u) (h _ (sub_self _))
def sg{E:ME}(q:fu E)(s:te E){g G:Nat}(r:lL E g G):∀t,(∀a∈gJ t,a∈subs E.R)->∀k∈t,WalkC E g G k
 |[],_,k,w=>by cases w
 |x::t,h,k,w=>by
  rcases T5.1 w with e|w<;>first |(have:=walk_any q s r x λa v=>h a (List.mem_append_left _ v);rw[e];omega)|exact sg q s r t (λa v=>h a (List.mem_append_right _ v)) k w
end
end
section
open Go.RowKit
attribute [local go_sem] TE
abbrev dM:Int×Int:=(-1,-1)
def G1(E:ME)(g G i:Nat)(w:SF)(e:Ending)(a:SF):Prop:=cI E a/\match df (λ_=>true) (bv E.M E.R i) 320 with|none=>e=SH (SE none 0 0)/\Kq w.heap.size [E.r] w a|some j=>e=SH E.sp/\a7 a g 35 (dw (dH (((0:Int),i,j)::de E.M E.R i j) (SD (G+1) dM)))/\Kq w.heap.size [E.r,g] w a
def CR{fn p t}(h:fn.results=#[.cell p t]){tmps a x w}(b:tmps.getD p undef=AS (some ⟨a,0,none⟩))(c:(loadVar t ⟨a,0,none⟩).run PM w=Tv x w):(results fn tmps).run PM w=Tv x w:=by
 simp_all[results,asAddr]
def JX{t b v w}(a:∀w,(isAgg t).run PM w=Tv false w)(c:w.cell? ⟨b,0,none⟩=some v):(loadVar t ⟨b,0,none⟩).run PM w=Tv v w:=by
 simp[loadVar,a,c]
def pV{fn p t q n B g tmps R v}(k:fn.results=#[.cell p t])(l:tmps.getD p undef=AS (some ⟨g,0,none⟩))(b:∀w,(isAgg t).run PM w=Tv false w):
 ∀{i W},a7 W g q #[v]->Marks B i W->(∀e,Kq B [] W e->R (SH v) e)->LeavesInM Fence.wide n PM fn tmps R i Tp W
 |[],W,c,_,f=>⟨_,CR k l (JX b (c.cell 0)),f W (.refl W)⟩
 |d::i,W,c,⟨⟨D,m,z,j,x⟩,h⟩,f=>by
  refine⟨by simp,.inl ⟨D,_,by rw[m],run_takeDeferred j,pV k l b (B:=B) ((T8 (by rintro rfl;exact fC c j)).trans c) (h.keep λu y A r=> ?_) λe s=>f e (((Kq.refl W).put (λh=>absurd h (by omega)) _).trans (s.mono (Sz _) λ_ h _=>h))⟩⟩;refine T8 ?_;grind
def OV(w v)(m i:Nat):
 ∃W,W=(((w.alloc (SJ #[AS (some ⟨m,0,none⟩)] 142)).alloc (SJ #[v] 62)).alloc (SJ #[Su Sx i] 3)).alloc (SJ #[SE none 0 0] 28)/\a7 W w.heap.size 142 #[AS (some ⟨m,0,none⟩)]/\a7 W (w.heap.size+1) 62 #[v]/\a7 W (w.heap.size+1+1) 3 #[Su Sx i]/\a7 W (w.heap.size+1+1+1) 28 #[SE none 0 0]/\Kq w.heap.size [] w W:=by
 have a:∀(W:SF)(o:Obj){b:Nat}{t c},a7 W b t c->a7 (W.alloc o) b t c:=λW o{b t c} h=>h.alloc o
 have d:∀(W:SF)(t c)(n:Nat),W.heap.size=n->a7 (W.alloc (SJ c t)) n t c:=λW t c n h=>h▸a7.new W t c
 exact⟨_,rfl,a _ _ (a _ _ (a _ _ (a7.new w ..))),a _ _ (a _ _ (d _ _ _ _ (by simp))),a _ _ (d _ _ _ _ (by simp)),d _ _ _ _ (by simp),((((Kq.refl w).alloc (Sz _) _).alloc (by simp) _).alloc (by simp) _).alloc (by simp) _⟩
def xM:∀{L:Sp}{n},n<L.length->(SD n dM++L.drop n).set n dM=SD (n+1) dM++L.drop (n+1)
 |x::L,0,_=>rfl
 |x::L,n+1,h=>by
  have:=xM (L:=L) (n:=n) (by simpa using h);grind
def Oo{E}(hE:fu E)(hW:te E){g G}(B:lL E g G){w q i L}(hM:cI E w)(hR:Repr w E.S (Tb (bn E.R) (AS (some ⟨q,0,none⟩))) E.R)(hi:i<=E.M.s.size)(hL:L.length=G+1)(hg:a7 w g 35 (dw L)):
 Calls PM 67 #[AS (some ⟨E.m,0,none⟩),Tb (bn E.R) (AS (some ⟨q,0,none⟩)),Su Sx i] w (G1 E g G i w):=by
 have hk:=ox hE hW E.R λa h=>h
 have hwk:=walk_any hE hW B E.R λa h=>h
 have hsz:=hE.size;have B0:=WB.start hE hM hR hg;have h1:=fN E.R ⟨q,0,none⟩;have f:=gu E.R ⟨q,0,none⟩;have A:=i9 E.R;have y:=jD E.R ⟨q,0,none⟩;have h5:=kC E.R ⟨q,0,none⟩;have h6:=walk_call E.R;obtain⟨W1,hW1,b1,b2,b3,b4,k1⟩:=OV w (Tb (bn E.R) (AS (some ⟨q,0,none⟩))) E.m i;have B1:=B0.own (X:=[]) (Sz _) (λ_ h=>nomatch h) k1;have hC:=hk W1 q i B1.mem B1.rep hi;have v1:=b1.cell 0;have v2:=b2.cell 0;have v3:=b3.cell 0;rw[hW1]at v1 v2 v3;replace hW1:=AI hW1;replace b1:=AI b1;replace b2:=AI b2;replace b3:=AI b3;replace b4:=AI b4;replace B1:=AI B1;replace hC:=AI hC;replace k1:=AI k1;refine callsIn_wide (n:=4).1 (callsIn_of_wp_marks (PM.func Tryz.func67 (by decide)) rfl trivial ?_ rfl);simp only[Tryz.ntmps67,SR,SV,SY,T4,T7,SL,SK,SS,SM,SX,SW];refine wpIn_wide.2 ?_;go_wp2;rw[<- hW1.out];refine hC.out.mono ?_;rintro e w2 ⟨rfl,hM2,k2⟩;have B2:=AI (B1.out.asked hE B hM2 k2);have hr:=B1.out.new.2.1;have hgw:=B1.out.new.2.2.1;have st2:∀{b t c},a7 W1 b t c->w.heap.size<=b->a7 w2 b t c:=λhb hlo=>hb.kq k2 hb.lt λl=>by have:=Sv.1 l;omega
 have c1:=AI (st2 b1.out (Sz _));have c2:=AI (st2 b2.out (by omega));have c3:=AI (st2 b3.out (by omega));have c4:=AI (st2 b4.out (by omega));have hlt2:=c4.out.lt;have k02:=AI ((k1.out.mono (Sz _) nofun:Kq w.heap.size [E.r] w W1).trans (k2.mono k1.out.kp.1 λ_ h _=>h));go_wp2;have hw:=AI (bZ E.M E.R i hi);have⟨P,hP⟩:∃P,bv E.M E.R i=P:=⟨_,rfl⟩;rw[hP]at hw;rw[hP];have hsay:∀(e:Ending)(w':SF),(cI E w'/\match df (λ_=>true) P 320 with|none=>e=SH (SE none 0 0)/\Kq w.heap.size [E.r] w w'|some j=>e=SH E.sp/\a7 w' g 35 (dw (dH (((0:Int),i,j)::de E.M E.R i j) (SD (G+1) dM)))/\Kq w.heap.size [E.r,g] w w')->G1 E g G i w e w':=λe w' h=>by unfold G1;rw[hP];exact h
 replace hP:=AI hP;replace hsay:=AI hsay;refine wpIn_wide (n:=4).1 (qe (X:=[E.r,g,w.heap.size+1+1+1]) (t:=14) (p:=P) (by decide) rfl ?_
  (λk d=>df (λ_=>true) P k=df (λ_=>true) P 320/\WB E g E.R q w d L/\Kq w.heap.size [E.r] w d/\a7 d w.heap.size 142 #[AS (some ⟨E.m,0,none⟩)]/\a7 d (w.heap.size+1) 62 #[Tb (bn E.R) (AS (some ⟨q,0,none⟩))]/\a7 d (w.heap.size+1+1) 3 #[Su Sx i]/\a7 d (w.heap.size+1+1+1) 28 #[SE none 0 0])
  (λc k d=>c= .ret/\df (λ_=>true) P 320=some k/\WB E g E.R q w d (dH (((0:Int),i,k)::de E.M E.R i k) (SD (G+1) dM))/\a7 d (w.heap.size+1+1+1) 28 #[E.sp]) ?_ ?_ ?_ ?_ ?_ ?_ ?_ ?_ ?_)
 case refine_7=>
  intro ll c d K hK;gi_wp2
  exact hK
 case refine_1=>
  intro x l;simp only[T5,Sw,or_false]at l;omega
 case refine_2=>
  rintro c d W'' ⟨h1,f,A,y,h5,h6,h7⟩ s;exact⟨h1,f.own (X:=[]) (by omega) (λ_ h=>nomatch h) s,A.trans (s.mono (by omega) nofun),y.kq s (by omega) Sw,h5.kq s (by omega) Sw,h6.kq s (by omega) Sw,h7.kq s (by omega) Sw⟩
 case refine_3=>
  rintro x c d W'' ⟨h1,f,A,y⟩ s;exact⟨h1,f,A.own (X:=[]) (by omega) (λ_ h=>nomatch h) s,y.kq s (by omega) Sw⟩
 case refine_4=>
  rintro c d ⟨h1,f⟩ hb;rw[df,if_neg (by rw[hb];simp)]at h1;exact⟨h1,f⟩
 case refine_5=>exact⟨rfl,B2.out,k02.out,c1.out,c2.out,c3.out,c4.out⟩
 case refine_9=>
  rintro d ⟨h1,f,A,y,h5,h6,h7⟩ hD;have hn:df (λ_=>true) P 320=none:=h1.symm;have fz:=h7.frozen;have f0:=h7.cell 0;have m:Kq d.heap.size [w.heap.size+1+1+1] d (d.setCell ⟨w.heap.size+1+1+1,0,none⟩ (SE none 0 0)):=(Kq.refl d).setCell (p:=⟨w.heap.size+1+1+1,0,none⟩) (λ_=>Sv.2 rfl) _;have hDl:=(SI.1 hD).1;have C:Marks w.heap.size [{target:=Tj w2.heap.size,args:=#[]}] (d.setCell ⟨w.heap.size+1+1+1,0,none⟩ (SE none 0 0)):=⟨⟨w2.heap.size,rfl,by omega,(m.kp.2 _ hDl λl=>by have:=Sv.1 l;omega).trans hD,by simp⟩,trivial⟩;have B3:=f.own (X:=[w.heap.size+1+1+1]) (by have:=f.kq.kp.1;exact this) λx l=>by rw[Sv.1 l];omega m
  have b3:=h7.bI 0 (SE none 0 0);have k3:Kq w.heap.size [E.r] w (d.setCell ⟨w.heap.size+1+1+1,0,none⟩ (SE none 0 0)):=A.trans (m.mono A.kp.1 λx l hlt=>by have:=Sv.1 l;omega);replace C:=AI C;replace B3:=AI B3;replace b3:=AI b3;replace k3:=AI k3;replace hn:=AI hn;go_wp2;refine pV rfl rfl λu=>by simp[go_sem] b3.out C.out λW'' hk''=>hsay.out _ _ ⟨(B3.out.own (X:=[]) (Sz _) (λ_ h=>nomatch h) hk'').mem,?_⟩
  rw[hn.out];exact⟨rfl,k3.out.trans (hk''.mono (Sz _) nofun)⟩
 case refine_10=>
  rintro _ k d hk1 hb ⟨rfl,f,A,y⟩ hD;have hDl:=(SI.1 hD).1;have C:Marks w.heap.size [{target:=Tj w2.heap.size,args:=#[]}] d:=⟨⟨w2.heap.size,rfl,by omega,hD,by simp⟩,trivial⟩;replace f:=AI f;replace A:=AI A;replace y:=AI y;replace C:=AI C;refine wpIn_wide.2 ?_;go_wp2;refine pV rfl rfl λu=>by simp[go_sem] y.out C.out λW'' hk''=>hsay.out _ _ ?_
  have B4:=A.out.own (X:=[]) (Sz _) (λ_ h=>nomatch h) hk'';rw[f.out];exact⟨B4.mem,rfl,B4.sp,B4.kq⟩
 case refine_8=>
  rintro ll k d hltW hk1 hb ⟨h1,f,A,y,h5,h6,h7⟩;have hmk:df (λ_=>true) P 320=some k:=by
   rw[<- h1,df,if_pos (by rw[hb];rfl)]
  have hks:=hw.out k hb;have cm:d.cell? ⟨E.m,4,none⟩=some (SE (some ⟨g,0,none⟩) (G+1) (G+1)):=by rw[<- B.sp];exact f.mem.blk.cell 4
  have v1:=y.cell 0;have hGs:=B.small;have A0:=AI (⟨f,y,h5,h6,h7⟩:WB E g E.R q w d L/\a7 d w.heap.size 142 #[AS (some ⟨E.m,0,none⟩)]/\a7 d (w.heap.size+1) 62 #[Tb (bn E.R) (AS (some ⟨q,0,none⟩))]/\a7 d (w.heap.size+1+1) 3 #[Su Sx i]/\a7 d (w.heap.size+1+1+1) 28 #[SE none 0 0]);replace hmk:=AI hmk;gi_wp2
  gi_loopw [20] (λc wr=>∃n:Nat,n<=G+1/\c=Su Sx n/\WB E g E.R q w wr (SD n dM++L.drop n)/\Kq d.heap.size [g] d wr/\a7 wr w.heap.size 142 #[AS (some ⟨E.m,0,none⟩)]/\a7 wr (w.heap.size+1) 62 #[Tb (bn E.R) (AS (some ⟨q,0,none⟩))]/\a7 wr (w.heap.size+1+1) 3 #[Su Sx i]/\a7 wr (w.heap.size+1+1+1) 28 #[SE none 0 0]) λc _=>G+1- (intOf c).toNat
  case atStart=>exact⟨0,Tf _,rfl,A0.out.1,.refl _,A0.out.2⟩
  case round=>
   obtain⟨n,hnG,rfl,f,A,y,h5,h6,h7⟩:=hrel;have hlen:(SD n dM++L.drop n).length=G+1:=by simp;omega
   have cm:wr.cell? ⟨E.m,4,none⟩=some (SE (some ⟨g,0,none⟩) (G+1) (G+1)):=by rw[<- B.sp];exact f.mem.blk.cell 4
   have v1:=y.cell 0;have fz:∀x,wr.frozen? ⟨g,x,none⟩=false:=f.sp.frozen;have kR:=f.kq.kp.1;by_cases hlt:n<G+1
   .have⟨s0,s1⟩:=qm f.sp (by omega:n<(SD n dM++L.drop n).length);have z:=vK (n:=n) (u:=dM) f.sp;rw[xM (by omega:n<L.length)]at z;have m:Kq wr.heap.size [g] wr ((wr.setCell ⟨g,n*2,none⟩ (Su Sx (-1))).setCell ⟨g,n*2+1,none⟩ (Su Sx (-1))):=((Kq.refl wr).setCell (p:=⟨g,n*2,none⟩) (λ_=>Sv.2 rfl) _).setCell (p:=⟨g,n*2+1,none⟩) (λ_=>Sv.2 rfl) _;have hMn:=f.mem.hZ hE (X:=[g]) (λx l=>by rw[Sv.1 l];exact⟨B.ne_m,B.ne_r,B.away⟩) m;have hBn:=f.walked hE B hMn z (m.mono (Sz _) λx l _=>TH _ l);have kn:=A.trans (m.mono A.kp.1 λ_ h _=>h);have v:∀x,w.heap.size<=x->x∉[g]:=λx l h=>by have:=Sv.1 h;omega
    have m4:=y.kq m y.lt (v _ (Sz _));have m5:=h5.kq m h5.lt (v _ (by omega));have m6:=h6.kq m h6.lt (v _ (by omega));have m7:=h7.kq m h7.lt (v _ (by omega));have A2:=AI (⟨hBn,kn,m4,m5,m6,m7⟩:WB E g E.R q w _ (SD (n+1) dM++L.drop (n+1))/\Kq d.heap.size [g] d _/\a7 _ w.heap.size 142 #[AS (some ⟨E.m,0,none⟩)]/\a7 _ (w.heap.size+1) 62 #[Tb (bn E.R) (AS (some ⟨q,0,none⟩))]/\a7 _ (w.heap.size+1+1) 3 #[Su Sx i]/\a7 _ (w.heap.size+1+1+1) 28 #[SE none 0 0]);gi_wp2
    go_roundw
    case rel=>exact⟨n+1,by omega,by push_cast;rfl,A2.out⟩
    case measure=>simp[intOf];omega
   .obtain rfl:n=G+1:=by omega
    have hdr:SD (G+1) dM++L.drop (G+1)=SD (G+1) dM:=by rw[Ua (by omega),Uu]
    rw[hdr]at f hlen;have⟨s0,s1⟩:=qm f.sp (by omega:0<(SD (G+1) dM).length);have z:=vK (n:=0) (u:=((i:Int),(k:Int))) f.sp;rw[TF,TG]at z s1;rw[TF]at s0;have v3:=h6.cell 0;have v5:=h5.cell 0;have m:Kq wr.heap.size [g] wr ((wr.setCell ⟨g,0,none⟩ (Su Sx i)).setCell ⟨g,1,none⟩ (Su Sx k)):=((Kq.refl wr).setCell (p:=⟨g,0,none⟩) (λ_=>Sv.2 rfl) _).setCell (p:=⟨g,1,none⟩) (λ_=>Sv.2 rfl) _;have v:∀x,w.heap.size<=x->x∉[g]:=λx l h=>by have:=Sv.1 h;omega
    have hMn:=f.mem.hZ hE (X:=[g]) (λx l=>by rw[Sv.1 l];exact⟨B.ne_m,B.ne_r,B.away⟩) m;have hBn:=f.walked hE B hMn z (m.mono (Sz _) λx l _=>TH _ l);have m4:=y.kq m y.lt (v _ (Sz _));have m5:=h5.kq m h5.lt (v _ (by omega));have m6:=h6.kq m h6.lt (v _ (by omega));have m7:=h7.kq m h7.lt (v _ (by omega));have kn:=A.trans (m.mono A.kp.1 λ_ h _=>h);have y1:=m4.cell 0;have y2:=m5.cell 0;have y3:=m6.cell 0;have A2:=AI (⟨hBn,kn,m4,m5,m6,m7⟩:WB E g E.R q w _ ((SD (G+1) dM).set 0 ((i:Int),(k:Int)))/\Kq d.heap.size [g] d _/\a7 _ w.heap.size 142 #[AS (some ⟨E.m,0,none⟩)]/\a7 _ (w.heap.size+1) 62 #[Tb (bn E.R) (AS (some ⟨q,0,none⟩))]/\a7 _ (w.heap.size+1+1) 3 #[Su Sx i]/\a7 _ (w.heap.size+1+1+1) 28 #[SE none 0 0]);have hL7:∀{K U1 Yx},¬ LetsOut (Exit.then K (TW 1 (jY [E.r,g,w.heap.size+1+1+1] d U1 Yx))):=λ⟨_,_,h⟩=>h
    gi_wp2
    refine qq 7 (by kernel_rfl) hL7 (by kernel_rfl) (by kernel_rfl) ?_;simp only[Ts,List.take_zero,Tt,List.drop_zero];repeat still_step
    try refine wpStill_nil ?_
    change wpList _ _ _ _ _ wr.drew;go_wp2;have⟨a1,a2,a3,a4,a5,a6⟩:=A2.out;have kR:=a1.kq.kp.1;have kd:Kq ((wr.setCell ⟨g,0,none⟩ (Su Sx i)).setCell ⟨g,1,none⟩ (Su Sx k)).heap.size [] ((wr.setCell ⟨g,0,none⟩ (Su Sx i)).setCell ⟨g,1,none⟩ (Su Sx k)) ((wr.setCell ⟨g,0,none⟩ (Su Sx i)).setCell ⟨g,1,none⟩ (Su Sx k)).drew:=(Kq.refl _).drew;have e1:=a1.own (X:=[]) kR (λ_ h=>nomatch h) kd;have e2:=a2.trans (kd.mono a2.kp.1 nofun);have e3:=a3.kq kd a3.lt Sw;have e4:=a4.kq kd a4.lt Sw;have e5:=a5.kq kd a5.lt Sw;have e6:=a6.kq kd a6.lt Sw;generalize World.drew _=W8 at *;have y1:=e3.cell 0;have y2:=e4.cell 0;have y3:=e5.cell 0;have hCw:=AI (hwk W8 q i k _ e1.mem e1.rep hi (by rw[hP.out];exact hb) (by rw[List.length_set];simp) e1.sp);have A3:=AI (⟨e1,e2,e3,e4,e5,e6⟩:WB E g E.R q w W8 ((SD (G+1) dM).set 0 ((i:Int),(k:Int)))/\Kq d.heap.size [g] d W8/\a7 W8 w.heap.size 142 #[AS (some ⟨E.m,0,none⟩)]/\a7 W8 (w.heap.size+1) 62 #[Tb (bn E.R) (AS (some ⟨q,0,none⟩))]/\a7 W8 (w.heap.size+1+1) 3 #[Su Sx i]/\a7 W8 (w.heap.size+1+1+1) 28 #[SE none 0 0]);gi_wp2
    refine⟨trivial,(TI ll (callsIn_wide.2 hCw.out)).mono ?_⟩;rintro e W9 ⟨rfl,hM9,hs9,k9⟩;have⟨a1,a2,a3,a4,a5,a6⟩:=A3.out;have e1:=a1.walked hE B hM9 hs9 k9;have kR:=a1.kq.kp.1;have nin:∀x,w.heap.size<=x->x∉[E.r,g]:=λx l h=>by
     simp only[T5,Sw,or_false]at h;omega
    have e3:=a3.kq k9 a3.lt (nin _ (Sz _));have e6:=a6.kq k9 a6.lt (nin _ (by omega));have cm:W9.cell? ⟨E.m,4,none⟩=some (SE (some ⟨g,0,none⟩) (G+1) (G+1)):=by rw[<- B.sp];exact e1.mem.blk.cell 4
    have z1:=e3.cell 0;have z6:=e6.cell 0;have zf:=e6.frozen;have m:Kq W9.heap.size [w.heap.size+1+1+1] W9 (W9.setCell ⟨w.heap.size+1+1+1,0,none⟩ (SE (some ⟨g,0,none⟩) (G+1) (G+1))):=(Kq.refl W9).setCell (p:=⟨w.heap.size+1+1+1,0,none⟩) (λ_=>Sv.2 rfl) _;have f1:=e1.own (X:=[w.heap.size+1+1+1]) e1.kq.kp.1 λx l=>by rw[Sv.1 l];omega m
    have f6:a7 (W9.setCell ⟨w.heap.size+1+1+1,0,none⟩ (SE (some ⟨g,0,none⟩) (G+1) (G+1))) (w.heap.size+1+1+1) 28 #[E.sp]:=by
     rw[B.sp];exact e6.bI 0 (SE (some ⟨g,0,none⟩) (G+1) (G+1))
    have kfin:Kq d.heap.size [E.r,g,w.heap.size+1+1+1] d (W9.setCell ⟨w.heap.size+1+1+1,0,none⟩ (SE (some ⟨g,0,none⟩) (G+1) (G+1))):=((a2.mono (Sz _) λx l _=>by rw[Sv.1 l];simp).trans (k9.mono a2.kp.1 λx l _=>by
     simp only[T5,Sw,or_false]at l ⊢;exact l.imp (λh=>h) .inl)).trans (m.mono (T0 a2.kp.1 k9.kp.1) λx l _=>by rw[Sv.1 l];simp)
    replace f1:=AI f1;replace f6:=AI f6;replace kfin:=AI kfin;gi_wp2
    exact⟨kfin.out,rfl,hmk.out,f1.out,f6.out⟩
end
section
open Go.RowKit
def Ei:words co=#[Su T6 0,Su T6 0,Su T6 0,Su T6 0]:=by simp[words,qd]
def Ay{fn p q}(h:fn.results=#[.cell p 77,.tmp q]){tmps b a w v}(g:tmps.getD p undef=AS (some ⟨b,0,none⟩))(f:a7 w b 77 a)(hs:a.size=4)(i:tmps.getD q undef=v):
 (results fn tmps).run PM w=Tv (Td #[.agg a,v]) w:=by
 have c:∃n e,PM.underlying 77=some (.array n e):=⟨_,_,(congrFun (aK ..) _).trans Tryz.underlying77⟩;have d:(PM.info? 77).map (·.size)=some 4:=by kernel_rfl
 have⟨n,e,c⟩:=c;have:=run_loadVar_row (P:=PM) w b 77 77 a _ _ f c rfl (by rw[d,hs]);simp_all[results,asAddr]
def J3{w g t T V}(h:a7 w g t (words T)):
 a7 ((((w.setCell ⟨g,0,none⟩ (Su T6 (wz V 0))).setCell ⟨g,1,none⟩ (Su T6 (wz V 1))).setCell ⟨g,2,none⟩ (Su T6 (wz V 2))).setCell ⟨g,3,none⟩ (Su T6 (wz V 3))) g t (words V):=by
 have:=(((h.bI 0 (Su T6 (wz V 0))).bI 1 (Su T6 (wz V 1))).bI 2 (Su T6 (wz V 2))).bI 3 (Su T6 (wz V 3));simp_all[words]
def IR{S c}(u:fh S c){w q}(B:Repr w S (Tb (bn c) (AS (some ⟨q,0,none⟩))) c)(A:∀b,S b->b<w.heap.size):
 Calls PM 64 #[Tb (bn c) (AS (some ⟨q,0,none⟩))] w λe w'=>e=SH (Td #[kL (du co (bj c).1),Ta (bj c).2])/\Kq w.heap.size [] w w':=by
 have Q:=ja c ⟨q,0,none⟩;have I:=jL c ⟨q,0,none⟩;have L:=kX c;have⟨t,f,n,g,k⟩:∃W,W=(w.alloc (.cells #[.int .u64 0,.int .u64 0,.int .u64 0,.int .u64 0] 77)).alloc (.cells #[.int .u64 0,.int .u64 0,.int .u64 0,.int .u64 0] 77)/\a7 W w.heap.size 77 (words co)/\a7 W (w.heap.size+1) 77 (words co)/\Kq w.heap.size [] w W:=by
  rw[Ei];refine⟨_,rfl,(a7.new w ..).alloc _,?_,((Kq.refl w).alloc (Sz _) _).alloc (by simp) _⟩;have:=a7.new (w.alloc (SJ #[Su T6 0,Su T6 0,Su T6 0,Su T6 0] 77)) 77 #[Su T6 0,Su T6 0,Su T6 0,Su T6 0];simpa using this
 have r:=AI (u t q (w.heap.size+1) co (B.keep λb F j=>k.kp.2 b j Sw) λh=>by have:=A _ h;omega g);replace n:=AI n;replace k:=AI k;replace f:=AI f;go_enter PM.func Tryz.func64 (by decide),Tryz.ntmps64
 go_wp2;rw[<- f.out];refine r.out.mono ?_;rintro e y ⟨rfl,g,s⟩;have j:=k.out.kp.1;have z:=AI ((k.out.mono (Sz _) nofun:Kq w.heap.size [] w t).trans (s.mono j λx d h=>by have:=Sv.1 d;omega));have a:=n.out.kq s n.out.lt λd=>by have:=Sv.1 d;omega
 have⟨V,l⟩:∃V,du co (bj c).1=V:=⟨_,rfl⟩;have⟨x,d⟩:∃x,(bj c).2=x:=⟨_,rfl⟩;rw[l]at g;simp only[d];replace l:=AI l;replace d:=AI d;replace a:=AI a;have M:∀i,y.frozen? ⟨w.heap.size,i,none⟩=false:=a.out.frozen;have N:=eu g (i:=0) (by decide);have H:=eu g (i:=1) (by decide);have G:=eu g (i:=2) (by decide);have K:=eu g (i:=3) (by decide);have D:=eu a.out (i:=0) (by decide);have E:=eu a.out (i:=1) (by decide);have C:=eu a.out (i:=2) (by decide);have P:=eu a.out (i:=3) (by decide);go_wp2;refine bodyPost_ret (Ay (p:=2) (q:=3) (v:=Ta x) rfl rfl (J3 (V:=V) a.out) rfl rfl) rfl ⟨by rw[l.out,d.out];rfl,?_⟩;have m:∀i,(⟨w.heap.size,i,none⟩:Addr).block<w.heap.size->(⟨w.heap.size,i,none⟩:Addr).block∈[]:=λi h=>absurd h (Ug _)
 exact(((z.out.setCell (m 0) _).setCell (m 1) _).setCell (m 2) _).setCell (m 3) _
def uJ:(PM.info? 35).map (λi=>(i.size,i.zero,i.bytes))=some (2,some (.agg #[Su Sx 0,Su Sx 0]),16):=by kernel_rfl
def DO(n):madeCells #[Su Sx 0,Su Sx 0] (n*2)=dw (SD n (0,0)):=by
 unfold madeCells dw;induction n with
 |zero=>simp[eY]
 |succ n a=>
  rw[show(n+1)*2=n*2+1+1 from by omega,Array.range_succ,Array.range_succ,Ur,Ur,a,List.replicate_succ'];simp[eY]
def MX(s)(f e G:Nat)(m:G<1000)(w):
 Calls PM 65 #[SC s,Su Tr f,Su Tr e,Su Sx G] w λx b=>x=SH (AS (some ⟨w.heap.size+2,0,none⟩))/\
  a7 b (w.heap.size+2) 195 #[SC s,Su Tr f,Su Tr e,.map (some w.heap.size),SE (some ⟨w.heap.size+1,0,none⟩) (G+1) (G+1)]/\b.heap[w.heap.size]?=some (.map #[] 0)/\
  a7 b (w.heap.size+1) 35 (dw (SD (G+1) (0,0)))/\Kq w.heap.size [] w b:=by
 have⟨i,l,c,d,j⟩:∃i,PM.info? 35=some i/\i.size=2/\i.zero=some (.agg #[.int .i64 0,.int .i64 0])/\i.bytes=16:=by
  have:=uJ;rw[Ty]at this;have⟨i,h,a⟩:=this;simp only[Prod.mk.injEq]at a;exact⟨i,h,a.1,a.2.1,a.2.2⟩
 have g:=run_make (P:=PM) (w.alloc (.map #[] 0)) 28 35 i _ ((congrFun (aK ..) _).trans Tryz.underlying28) l d Sx Sx ((G:Int)+1) ((G:Int)+1) (by omega) (by omega) (by rw[j];omega) (by omega);rw[show((G:Int)+1).toNat=G+1 from by omega,c,show(Value.agg #[Su Sx 0,Su Sx 0]).cells=#[Su Sx 0,Su Sx 0]from rfl,DO,show(w.alloc (.map #[] 0)).heap.size=w.heap.size+1 from by simp]at g;have k:(Instr.makeMap 193 none).run PM w=Tv (.map (some w.heap.size)) (w.alloc (.map #[] 0)):=run_makeMap (P:=PM) _ w;go_enter PM.func Tryz.func65 (by decide),Tryz.ntmps65
 go_wp2;go_ret;refine⟨rfl,?_,?_,?_,(((Kq.refl w).alloc (Sz _) _).alloc (by simp) _).alloc (by simp) _⟩
 .have:=a7.new ((w.alloc (.map #[] 0)).alloc (SJ (dw (SD (G+1) (0,0))) 35)) 195 #[SC s,Su Tr f,Su Tr e,.map (some w.heap.size),SE (some ⟨w.heap.size+1,0,none⟩) (G+1) (G+1)];simpa using this
 .exact((((Kq.refl (w.alloc (.map #[] 0))).alloc (Sz _) _).alloc (by simp) _).kp.2 w.heap.size (by simp) Sw).trans (by show(w.heap.push _)[w.heap.size]?=_;simp)
 .have:=(a7.new (w.alloc (.map #[] 0)) 35 (dw (SD (G+1) (0,0)))).alloc (SJ #[SC s,Su Tr f,Su Tr e,.map (some w.heap.size),SE (some ⟨w.heap.size+1,0,none⟩) (G+1) (G+1)] 195);simpa using this
def uT(s:ByteArray)(f e G:Nat)(a:Nd)(S:Nat->Prop)(B:Nat):ME:=⟨⟨s,f,e⟩,a,B+2,B,SE (some ⟨B+1,0,none⟩) (G+1) (G+1),S⟩
def Mm{s}{f e G:Nat}{c S B}(hs:s.size<=300)(t:f<256)(r:e<256)(u:je c G)(p:∀b,S b->b<B):fu (uT s f e G c S B):=by
 have⟨z,x,d⟩:=u.w;refine⟨hs,t,r,be.one c d,λa j=> ?_,λi k l m h=> ?_,λi v h=> ?_,λh=>absurd (p _ h) (Ug _),λb h=>SQ (p b h) (Nat.le_add_right ..)⟩<;>first |(have:=λa j=>by have:=be.ids c d a j;omega a j;have q:=p9 (n:=a.id.toNat) (by omega);rwa [show a.id.toNat=a.id from by omega]at q)|(have⟨_,_,_,_,g⟩:=be.sub c d _ h;grind [be])|(have⟨w,y,_,_,g⟩:=be.sub c d _ h;simp[be]at g;have:=bV.le v g.2;omega)
def yI{s}{f e G:Nat}{g S B}(m:je g G):te (uT s f e G g S B):=by
 have⟨n,q,k⟩:=m.w;refine⟨λi a b c d h=> ?_,λi l h=> ?_⟩;have⟨_,_,_,_,j⟩:=be.sub g k _ h;simp_all[be]
 have⟨p,r,_,_,j⟩:=be.sub g k _ h;simp[be]at j;have:=bV.le l j.2;omega
def Ml{s}{f e G:Nat}{a S B}(c:je a G)(d:∀b,S b->b<B):lL (uT s f e G a S B) (B+1) G:=by
 have⟨l,m,g⟩:=c.w;have p:=c.g9;refine⟨rfl,by omega,by show B+1≠B;omega,by show B+1≠B+2;omega,λh=>by have:=d _ h;omega,λi k n h=> ?_⟩;have⟨_,_,_,_,j⟩:=be.sub a g _ h;simp[be]at j;omega
def JQ{s}{f e G:Nat}{c S w w' v}(g:Repr w S v c)(l:∀b,S b->b<w.heap.size)
 (d:a7 w' (w.heap.size+2) 195 #[SC s,Su Tr f,Su Tr e,.map (some w.heap.size),SE (some ⟨w.heap.size+1,0,none⟩) (G+1) (G+1)]) (j:w'.heap[w.heap.size]?=some (.map #[] 0)) (i:Kq w.heap.size [] w w'):cI (uT s f e G c S w.heap.size) w':=
 ⟨d,⟨_,_,j,λe h=>by simp at h⟩,v,g.keep λb k a=>i.kp.2 b a Sw⟩
def ci{P g e Q S f b a w}(i d v){j}(hi:e[i]?=some j)(k:j.dst=some d)
 (hs:Region.noSelect e=true) (l:Region.free g e b i=true) (m:(Uj g e b).contains i=true) (q:∀c a w,Q (.panic c) (a.put (some d) v) w->Q (.panic c) a w) (n:YieldsIf P e S j v a) (p:S w)
 (h:wpAnyH P g e Q S f (b.setIfInBounds i true) (a.put (some d) v) w):wpAnyH P g e Q S (f+1) b a w:=
 wpAnyH_take hi hs l m (by rw[k];omega) n p (by rw[k];omega)
def jz{P f c Q S d b a w}(i){e}(hi:c[i]?=some e)(m:e.guard=none)(l:Uj f c b=[i])
 (h:e.wp P a w (λk g=>S g/\wpAnyH P f c Q S d (b.setIfInBounds i true) k g) Q):wpAnyH P f c Q S (d+1) b a w:=
 wpAnyH_all l (by simp) λj n=>by
  simp_all[Uf,wpOp]
def zJ{P o a w K Q}(d)(j:o.dst=some d)(f args)(b:(Ul a.eval o).run P w=Tv (.enter f args) w)(v)(R:SF->Prop)
 (i:Calls P f args w λe c=>e=SH v/\R c) (h:∀c,R c->K (a.put (some d) v) c):o.wp P a w K Q:=by
 simp[Uw,b];refine i.mono λe g k=> ?_
 grind
def LB{P o a w K Q}(d)(e:o.dst=some d)(v b)(c:(Ul a.eval o).run P w=Tv (.value v) b)(h:K (a.put (some d) v) b):o.wp P a w K Q:=by
 simp_all[Oper.upon_value,Uw]
def zI{P o a w K Q}(d:o.dst=none)(c)(b:(Ul a.eval o).run P w=Tv .skip c)(h:K a c):o.wp P a w K Q:=by
 simp[Uw,b,Oper.upon_skip,d];exact h
def mU(b:Tg)(g:Int)(c:Nat)(d a:Int)(T:cS)(e:Bool):Array Tg:=#[b,Su Sx g,Su Tr c,Su TC d,Su .i32 a,Su TC 0,Su T6 (wz T 0),Su T6 (wz T 1),Su T6 (wz T 2),Su T6 (wz T 3),Ta e]
def Ia{S f}(hC:fh S f){w p x q F tp g d G T e}(C:a7 w p tp #[AS (some ⟨x,0,none⟩)])
 (D:a7 w x 79 (mU (Tb (bn f) (AS (some ⟨q,0,none⟩))) g F d G T e)) (K:Repr w S (Tb (bn f) (AS (some ⟨q,0,none⟩))) f) (hS:∀b,S b->b<w.heap.size) (t:p≠x):
 Calls PM 63 #[AS (some ⟨p,0,none⟩)] w λW c=>W=SH (Td #[])/\a7 c x 79 (mU (Tb (bn f) (AS (some ⟨q,0,none⟩))) g F d G (du co (bj f).1) (bj f).2)/\Kq w.heap.size [x] w c:=by
 have X:w.cell? ⟨p,0,none⟩=some (AS (some ⟨x,0,none⟩)):=C.cell 0;have c1:w.cell? ⟨x,0,none⟩=some (Tb (bn f) (AS (some ⟨q,0,none⟩))):=D.cell 0;have hF:=AI λR(k:Kq w.heap.size [] w R)=>IR hC (K.keep (w':=R) λb N L=>k.kp.2 b L Sw) λb N=>SQ (hS b N) k.kp.1
 replace C:=AI C;replace D:=AI D;replace K:=AI K;go_enter PM.func Tryz.func63 (by decide),Tryz.ntmps63
 go_wp2;refine wp_region_noPanic ?_;refine wp_region_held_drew (S:=λc=>c.cell? ⟨p,0,none⟩=some (AS (some ⟨x,0,none⟩))/\c.cell? ⟨x,0,none⟩=some (Tb (bn f) (AS (some ⟨q,0,none⟩)))) (by rfl) ⟨X,c1⟩ ?_;intro m;refine ci 0 2 (AS (some ⟨x,0,none⟩)) rfl rfl (by kernel_rfl) (by kernel_rfl) (by kernel_rfl) (λ_ _ _ h=>h) (SP ⟨by rfl,λc a=> ?_⟩) m ?_
 .have⟨r,n⟩:=a;go_simp
 simp only[Sy,zq0];refine ci 1 3 (AS (some ⟨x,0,none⟩)) rfl rfl (by kernel_rfl) (by kernel_rfl) (by kernel_rfl) (λ_ _ _ h=>h) (SP ⟨by rfl,λc a=> ?_⟩) m ?_
 .have⟨r,n⟩:=a;go_simp
 simp only[Sy,zq0];refine ci 2 4 (AS (some ⟨x,0,none⟩)) rfl rfl (by kernel_rfl) (by kernel_rfl) (by kernel_rfl) (λ_ _ _ h=>h) (SP ⟨by rfl,λc a=> ?_⟩) m ?_
 .have⟨r,n⟩:=a;go_simp
 simp only[Sy,zq0];refine ci 3 5 (AS (some ⟨x,0,none⟩)) rfl rfl (by kernel_rfl) (by kernel_rfl) (by kernel_rfl) (λ_ _ _ h=>h) (SP ⟨by rfl,λc a=> ?_⟩) m ?_
 .have⟨r,n⟩:=a;go_simp
 simp only[Sy,zq0];refine ci 4 6 (AS (some ⟨x,0,none⟩)) rfl rfl (by kernel_rfl) (by kernel_rfl) (by kernel_rfl) (λ_ _ _ h=>h) (SP ⟨by rfl,λc a=> ?_⟩) m ?_
 .have⟨r,n⟩:=a;go_simp
 simp only[Sy,zq0];refine ci 5 7 (Tb (bn f) (AS (some ⟨q,0,none⟩))) rfl rfl (by kernel_rfl) (by kernel_rfl) (by kernel_rfl) (λ_ _ _ h=>h) (SP ⟨by rfl,λc a=> ?_⟩) m ?_
 .have⟨r,n⟩:=a;go_simp
 simp only[Sy,zq0];refine jz 6 rfl rfl (by kernel_rfl) ?_;refine zJ 8 rfl 64 #[Tb (bn f) (AS (some ⟨q,0,none⟩))] (by go_simp) _ (λc=>Kq w.heap.size [] w c) ((hF.out w.drew (Kq.refl w).drew).mono λW c h=>⟨h.1,(((Kq.refl w).drew).trans h.2:Kq w.heap.size [] w c)⟩) ?_;intro u H;have B:=C.out.kq H C.out.lt Sw;have i:=D.out.kq H D.out.lt Sw;have l:u.cell? ⟨p,0,none⟩=some (AS (some ⟨x,0,none⟩))/\u.cell? ⟨x,0,none⟩=some (Tb (bn f) (AS (some ⟨q,0,none⟩))):=⟨B.cell 0,i.cell 0⟩;refine⟨l,?_⟩;have⟨V,P⟩:∃V,du co (bj f).1=V:=⟨_,rfl⟩;have⟨z,M⟩:∃z,(bj f).2=z:=⟨_,rfl⟩;simp only[P,M];unfold kL;simp only[Sy,zq0];refine ci 7 1 (Td #[.agg #[Su T6 (wz V 0),Su T6 (wz V 1),Su T6 (wz V 2),Su T6 (wz V 3)],Ta z]) rfl rfl (by kernel_rfl) (by kernel_rfl) (by kernel_rfl) (λ_ _ _ h=>h) (SP ⟨by rfl,λc a=> ?_⟩) l ?_
 .have⟨r,n⟩:=a;go_simp
 simp only[Sy,zq0];refine ci 8 9 (.agg #[Su T6 (wz V 0),Su T6 (wz V 1),Su T6 (wz V 2),Su T6 (wz V 3)]) rfl rfl (by kernel_rfl) (by kernel_rfl) (by kernel_rfl) (λ_ _ _ h=>h) (SP ⟨by rfl,λc a=> ?_⟩) l ?_
 .have⟨r,n⟩:=a;go_simp
 simp only[Sy,zq0];refine ci 9 10 (Ta z) rfl rfl (by kernel_rfl) (by kernel_rfl) (by kernel_rfl) (λ_ _ _ h=>h) (SP ⟨by rfl,λc a=> ?_⟩) l ?_
 .have⟨r,n⟩:=a;go_simp
 simp only[Sy,zq0];refine ci 10 11 (AS (some ⟨x,0,none⟩)) rfl rfl (by kernel_rfl) (by kernel_rfl) (by kernel_rfl) (λ_ _ _ h=>h) (SP ⟨by rfl,λc a=> ?_⟩) l ?_
 .have⟨r,n⟩:=a;go_simp
 simp only[Sy,zq0];refine ci 11 12 (AS (some ⟨x,6,none⟩)) rfl rfl (by kernel_rfl) (by kernel_rfl) (by kernel_rfl) (λ_ _ _ h=>h) (SP ⟨by rfl,λc a=> ?_⟩) l ?_
 .have⟨r,n⟩:=a;go_simp
 simp only[Sy,zq0];have fz:∀j,u.frozen? ⟨x,j,none⟩=false:=i.frozen;have x6:=i.cell 6;have x7:=i.cell 7;have Z:=i.cell 8;have x9:=i.cell 9;simp only[mU,Uc,U3,TZ]at x6 x7 Z x9;refine jz 12 rfl rfl (by kernel_rfl) ?_;refine zI rfl ((((u.setCell ⟨x,6,none⟩ (Su T6 (wz V 0))).setCell ⟨x,7,none⟩ (Su T6 (wz V 1))).setCell ⟨x,8,none⟩ (Su T6 (wz V 2))).setCell ⟨x,9,none⟩ (Su T6 (wz V 3))) ?_ ?_
 .go_simp
 have s:a7 ((((u.setCell ⟨x,6,none⟩ (Su T6 (wz V 0))).setCell ⟨x,7,none⟩ (Su T6 (wz V 1))).setCell ⟨x,8,none⟩ (Su T6 (wz V 2))).setCell ⟨x,9,none⟩ (Su T6 (wz V 3))) x 79 (mU (Tb (bn f) (AS (some ⟨q,0,none⟩))) g F d G V e):=(((i.bI 6 (Su T6 (wz V 0))).bI 7 (Su T6 (wz V 1))).bI 8 (Su T6 (wz V 2))).bI 9 (Su T6 (wz V 3));have y:=(((B.far (p:=⟨x,6,none⟩) (by exact t) (Su T6 (wz V 0))).far (p:=⟨x,7,none⟩) (by exact t) (Su T6 (wz V 1))).far (p:=⟨x,8,none⟩) (by exact t) (Su T6 (wz V 2))).far (p:=⟨x,9,none⟩) (by exact t) (Su T6 (wz V 3));have Q:Kq w.heap.size [x] w ((((u.setCell ⟨x,6,none⟩ (Su T6 (wz V 0))).setCell ⟨x,7,none⟩ (Su T6 (wz V 1))).setCell ⟨x,8,none⟩ (Su T6 (wz V 2))).setCell ⟨x,9,none⟩ (Su T6 (wz V 3))):=
  ((((H.mono (Sz _) nofun:Kq w.heap.size [x] w u).setCell (p:=⟨x,6,none⟩) (λ_=>Sv.2 rfl) _).setCell (p:=⟨x,7,none⟩) (λ_=>Sv.2 rfl) _).setCell (p:=⟨x,8,none⟩) (λ_=>Sv.2 rfl) _).setCell (p:=⟨x,9,none⟩) (λ_=>Sv.2 rfl) _
 generalize (((u.setCell ⟨x,6,none⟩ (Su T6 (wz V 0))).setCell ⟨x,7,none⟩ (Su T6 (wz V 1))).setCell ⟨x,8,none⟩ (Su T6 (wz V 2))).setCell ⟨x,9,none⟩ (Su T6 (wz V 3))=E at s y Q ⊢;have v:E.cell? ⟨p,0,none⟩=some (AS (some ⟨x,0,none⟩))/\E.cell? ⟨x,0,none⟩=some (Tb (bn f) (AS (some ⟨q,0,none⟩))):=⟨y.cell 0,s.cell 0⟩;refine⟨v,?_⟩;refine ci 13 13 (AS (some ⟨x,0,none⟩)) rfl rfl (by kernel_rfl) (by kernel_rfl) (by kernel_rfl) (λ_ _ _ h=>h) (SP ⟨by rfl,λc a=> ?_⟩) v ?_
 .have⟨r,n⟩:=a;go_simp
 simp only[Sy,zq0];refine ci 14 14 (AS (some ⟨x,10,none⟩)) rfl rfl (by kernel_rfl) (by kernel_rfl) (by kernel_rfl) (λ_ _ _ h=>h) (SP ⟨by rfl,λc a=> ?_⟩) v ?_
 .have⟨r,n⟩:=a;go_simp
 simp only[Sy,zq0];have I:=s.cell 10;have fz4:∀j,E.frozen? ⟨x,j,none⟩=false:=s.frozen;simp only[mU,Uc,U3,TZ]at I;refine jz 15 rfl rfl (by kernel_rfl) ?_;refine zI rfl (E.setCell ⟨x,10,none⟩ (Ta z)) ?_ ?_
 .go_simp
 have A:a7 (E.setCell ⟨x,10,none⟩ (Ta z)) x 79 (mU (Tb (bn f) (AS (some ⟨q,0,none⟩))) g F d G V z):=s.bI 10 (Ta z);refine⟨⟨(y.far (p:=⟨x,10,none⟩) (by exact t) (Ta z)).cell 0,A.cell 0⟩,?_⟩;refine wpAnyH_done (by kernel_rfl) ?_ _;refine Ux ?_;exact bodyPost_end (results_none rfl ..) rfl ⟨rfl,by rw[P,M];exact A,Q.setCell (p:=⟨x,10,none⟩) (λ_=>Sv.2 rfl) _⟩
end
section
open Go.RowKit Go.Conc
attribute [local instance] fI
def GP{a n w}(b:w.cell? a=some (Su TC n)):(callFunc 129 #[AS (some a)]).run PH w=Tv (.value (Su TC n)) w:=
 run_call_load (PH.func Tryz.func129 (by decide)) (by kernel_rfl) (by kernel_rfl) (by kernel_rfl) TC wU b
def GO{a n u w}(c:w.cell? a=some u)(b:w.frozen? a=false):(callFunc 156 #[AS (some a),Su TC n]).run PH w=Tv (.value (Td #[])) (w.setCell a (Su TC n)):=
 run_call_store (PH.func Tryz.func156 (by decide)) (by kernel_rfl) (by kernel_rfl) (by kernel_rfl) wT c b
def yE{x j b w}(c:w.cell? ⟨x,j,none⟩=some (Su TC (if b then 1 else 0))):Calls PH 93 #[AS (some ⟨x,j,none⟩)] w λe a=>e=SH (Ta b)/\a=w:=by
 have d:=GP c;cases b;all_goals
  go_enter PH.func Tryz.func93 (by decide),Tryz.ntmps93
  go_wp2;go_ret;simp
def MO(w):Calls PH 157 #[Ta true] w λe a=>e=SH (Su TC 1)/\a=w:=by
 go_enter PH.func Tryz.func157 (by decide),Tryz.ntmps157
 go_wp2;go_ret;simp
section
variable{h0:Array Obj}{w:SF}{x j:Nat}
def JO{u}(l:w.cell? ⟨x,j,none⟩=some u)(f:w.frozen? ⟨x,j,none⟩=false):
 tR (br ek h0) 132 #[AS (some ⟨x,j,none⟩),Ta true] w λb=>jw b (w.setCell ⟨x,j,none⟩ (Su TC 1)):=by
 refine rV (bP (by decide)) (PH.func Tryz.func132 (by decide)) rfl rfl ?_;simp only[Tryz.ntmps132,SR,SV,SY,T4,T7,SL,SK,SS,SM,SX,SW];refine bm λe d=> ?_
 have k:=(d.cell _).trans l;have i:=(d.frozen _).trans f;refine wp_region_noPanic ?_;refine wp_region_held_drew (S:=λ_=>True) (by rfl) trivial ?_;intro a;refine ci 0 4 (AS (some ⟨x,j,none⟩)) rfl rfl (by kernel_rfl) (by kernel_rfl) (by kernel_rfl) (λ_ _ _ h=>h) (SP ⟨by rfl,λb c=> ?_⟩) a ?_
 .go_simp
 simp only[Sy,zq0];refine ci 1 5 (AS (some ⟨x,j,none⟩)) rfl rfl (by kernel_rfl) (by kernel_rfl) (by kernel_rfl) (λ_ _ _ h=>h) (SP ⟨by rfl,λb c=> ?_⟩) a ?_
 .go_simp
 simp only[Sy,zq0];refine ci 2 6 (AS (some ⟨x,j,none⟩)) rfl rfl (by kernel_rfl) (by kernel_rfl) (by kernel_rfl) (λ_ _ _ h=>h) (SP ⟨by rfl,λb c=> ?_⟩) a ?_
 .go_simp
 simp only[Sy,zq0];refine ci 3 7 (Ta true) rfl rfl (by kernel_rfl) (by kernel_rfl) (by kernel_rfl) (λ_ _ _ h=>h) (SP ⟨by rfl,λb c=> ?_⟩) a ?_
 .go_simp
 simp only[Sy,zq0];refine jz 4 rfl rfl (by kernel_rfl) ?_;refine zJ 8 rfl 157 #[Ta true] (by go_simp) _ (λb=>b=e.drew) (MO _) ?_;rintro _ rfl;refine⟨trivial,?_⟩;simp only[Sy,zq0];refine jz 5 rfl rfl (by kernel_rfl) ?_;have g:=GO (n:=1) (w:=e.drew) k i;refine LB 9 rfl (Td #[]) (e.drew.setCell ⟨x,j,none⟩ (Su TC 1)) ?_ ?_
 .go_simp
 refine⟨trivial,?_⟩;refine wpAnyH_done (by kernel_rfl) ?_ _;refine Ux ?_;exact⟨.inl rfl,rfl,(⟨d.heap,d.os,d.out⟩:jw e.drew w).set ⟨x,j,none⟩ (Su TC 1)⟩
end
def jw.kq{w w' B X}(h:jw w' w):Kq B X w w':=⟨⟨by simp[h.heap],λb _ _=>by rw[h.heap]⟩,h.os,h.out⟩
def La{w x c b g d f T e}(h:a7 w x 79 (mU b g c d f T e))(a):a7 (w.setCell ⟨x,4,none⟩ (Su .i32 a)) x 79 (mU b g c d a T e):=h.bI 4 (Su .i32 a)
def OI{w x c b g d f T e}(h:a7 w x 79 (mU b g c d f T e))(a):a7 (w.setCell ⟨x,3,none⟩ (Su TC a)) x 79 (mU b g c a f T e):=h.bI 3 (Su TC a)
def Kt{h0 S k}(hC:fh S k){w p x q fl tp g T e}(D:a7 w p tp #[AS (some ⟨x,0,none⟩)])
 (l:a7 w x 79 (mU (Tb (bn k) (AS (some ⟨q,0,none⟩))) g fl 0 0 T e)) (hR:Repr w S (Tb (bn k) (AS (some ⟨q,0,none⟩))) k) (hS:∀b,S b->b<w.heap.size/\b≠x) (s:p≠x):
 cb (br ek h0) 94 #[AS (some ⟨x,3,none⟩),TK (U5 63) #[] #[AS (some ⟨p,0,none⟩)]] w λE w'=>E=SH (Td #[])/\a7 w' x 79 (mU (Tb (bn k) (AS (some ⟨q,0,none⟩))) g fl 1 0 (du co (bj k).1) (bj k).2)/\Kq w.heap.size [x] w w':=by
 refine vl (bP (by decide)) (PH.func Tryz.func94 (by decide)) rfl rfl ?_;simp only[Tryz.ntmps94,SR,SV,SY,T4,T7,SL,SK,SS,SM,SX,SW];refine ac λK m=> ?_
 refine ao ?_;show aV _ _ _ (SG 0 (3+1)) ..;refine bq 0 3 1 (λN hN I e1=> ?_) (by decide);simp only[zq1];have k1:Kq w.heap.size [x] w I:=e1.kq;have z:=l.kq (e1.kq (B:=w.heap.size) (X:=[])) l.lt Sw;have t:=AI (⟨k1,z⟩:_/\_);have z3:I.cell? ⟨x,3,none⟩=some (Su TC 0):=z.cell 3;replace l:=AI l;replace D:=AI D;replace hR:=AI hR;go_wp2;refine hN.out _ _ ?_;refine f9 (f:=130) (i:=3) (rest:=SG 4 0) rfl rfl λu=>by simp[go_sem] (bP (by decide)) (Mo (t.out.2.cell 4) (t.out.2.frozen 4)) (λv M H=> ?_) λch M H=>nomatch H.1
 have⟨hv,e2⟩:=H;cases hv;have hx2:=(La t.out.2 1).kq (e2.kq (B:=I.heap.size) (X:=[])) t.out.2.lt Sw;have k2:Kq w.heap.size [x] w M:=(t.out.1.setCell (p:=⟨x,4,none⟩) (λ_=>Sv.2 rfl) (Su .i32 1)).trans e2.kq;have G:=AI (⟨k2,hx2⟩:_/\_);simp only[Sy,zq0];refine az (m.out _ _ ?_);refine bm λA e3=> ?_
 have C:Kq w.heap.size [x] w A:=G.out.1.trans e3.kq;have n:=G.out.2.kq (e3.kq (B:=M.heap.size) (X:=[])) G.out.2.lt Sw;have y:∀b,b≠x->b∉[x]:=λb h l=>h (Sv.1 l)
 have P:=D.out.kq C D.out.lt (y _ s);have L:=hR.out.keep (w':=A) λb hb R=>C.kp.2 b R (y _ (hS b hb).2)
 have r:w.heap.size<=A.heap.size:=C.kp.1;have hL:=yE (b:=false) (x:=x) (j:=3) (w:=A) (n.cell 3);have hF:=AI (Ia hC P n L (λb hb=>SQ (hS b hb).1 r) s);have A3:=AI C;go_wp2;refine hL.mono ?_;rintro E w4 ⟨rfl,rfl⟩;go_wp2;refine hF.out.mono ?_;rintro E w5 ⟨rfl,a,k5⟩;have F:Kq w.heap.size [x] w w5:=A3.out.trans (k5.mono A3.out.kp.1 λ_ h _=>h);replace a:=AI a;go_wp2;refine⟨_,_,_,_,rfl,λu=>by simp[go_sem],bP (by decide),λc Z K W hm m=>JO (a.out.cell 3) (a.out.frozen 3) c Z K W hm λQ e6=>m Q ?_⟩;have d:=(OI a.out 1).kq (e6.kq (B:=w5.heap.size) (X:=[])) a.out.lt Sw;have k6:Kq w.heap.size [x] w Q:=(F.setCell (p:=⟨x,3,none⟩) (λ_=>Sv.2 rfl) (Su TC 1)).trans e6.kq;refine⟨_,_,_,_,rfl,λu=>by simp[go_sem],bP (by decide),λc Z K W hm m=>Hm (d.cell 4) (d.frozen 4) c Z K W hm λw7 e7=>m w7 ?_⟩;exact⟨(La d 0).kq (e7.kq (B:=Q.heap.size) (X:=[])) d.lt Sw,(k6.setCell (p:=⟨x,4,none⟩) (λ_=>Sv.2 rfl) (Su .i32 0)).trans e7.kq⟩
structure kh(w:SF)(x q fl:Nat)(g:Int)(nd:Nd)(S:Nat->Prop)(dn:Bool)(T:cS)(e:Bool):Prop where
 blk:a7 w x 79 (mU (Tb (bn nd) (AS (some ⟨q,0,none⟩))) g fl (if dn then 1 else 0) 0 T e)
 rep:Repr w S (Tb (bn nd) (AS (some ⟨q,0,none⟩))) nd
 low:∀b,S b->b<w.heap.size/\b≠x
 had:dn=true->T=du co (bj nd).1/\e=(bj nd).2
def kh.kq{w w' x q i g d S f T e}(h:kh w x q i g d S f T e)(k:Kq w.heap.size [] w w'):kh w' x q i g d S f T e:=
 ⟨h.blk.kq k h.blk.lt Sw,h.rep.keep λb a c=>k.kp.2 b c Sw,λb a=>⟨SQ (h.low b a).1 k.kp.1,(h.low b a).2⟩,h.had⟩
def PX{h0 S k}(R:fh S k){w p x q G W g D T e}(m:a7 w p W #[AS (some ⟨x,0,none⟩)])
 (d:kh w x q G g k S D T e) (r:p≠x):
 cb (br ek h0) 62 #[AS (some ⟨x,3,none⟩),TK (U5 63) #[] #[AS (some ⟨p,0,none⟩)]] w λy z=>y=SH (Td #[])/\kh z x q G g k S true (du co (bj k).1) (bj k).2/\Kq w.heap.size [x] w z:=by
 refine bu (bP (by decide)) (λz h=>nomatch h.1) (PH.func Tryz.func62 (by decide)) rfl ?_;simp only[Tryz.ntmps62,SR,SV,SY,T4,T7,SL,SK,SS,SM,SX,SW];refine ac λK H=> ?_
 refine bm λP c=> ?_
 have I:=yE (b:=D) (x:=x) (j:=3) (w:=P) ((c.cell _).trans (d.blk.cell 3));replace c:=AI c;replace d:=AI d;replace m:=AI m;cases D
 .go_wp2;refine I.mono ?_;rintro y M ⟨rfl,rfl⟩;go_wp2;refine H.out _ _ ?_;refine bG rfl ?_;refine ao ?_;show aV _ _ _ (SG 0 (2+1)) ..;refine bq 0 2 1 (λN Q w2 l=> ?_) (by decide);simp only[zq1];replace l:=AI (l.trans c.out);go_wp2;refine Q.out _ _ ?_;have C:=l.out.kq (B:=w.heap.size) (X:=[]);have a:=d.out.kq C;refine f9 (f:=94) (i:=2) (rest:=SG 3 0) rfl rfl λu=>by simp[go_sem] (bP (by decide)) (Kt R (m.out.kq C m.out.lt Sw) a.blk a.rep a.low r) (λv L A=> ?_) λch L A=>nomatch A.1
  have⟨Z,h3,t⟩:=A;cases Z;have s:=C.kp.1;have F:Kq w.heap.size [x] w L:=(l.out.kq).trans (t.mono s λ_ h _=>h);refine az ⟨rfl,_,results_none rfl ..,rfl,⟨h3,a.rep.keep λb n E=>t.kp.2 b E λh=>(a.low b n).2 (Sv.1 h),λb n=>⟨SQ (a.low b n).1 t.kp.1,(a.low b n).2⟩,λ_=>⟨rfl,rfl⟩⟩,F⟩
 .go_wp2;refine I.mono ?_;rintro y M ⟨rfl,rfl⟩;go_wp2;refine H.out _ _ ?_;refine bK rfl ?_;refine fS ?_;have⟨rfl,rfl⟩:=d.out.had rfl;exact⟨rfl,_,results_none rfl ..,rfl,d.out.kq c.out.kq,c.out.kq⟩
end
def or_bit{a b j:Nat}:(a|||b).testBit j=true↔a.testBit j=true\/b.testBit j=true:=by rw[Nat.testBit_or,U7]
def LS{M k a i j}:(dL M (k::a) i).testBit j=true↔∃c,c<320/\(bv M k i).testBit c=true/\(dL M a c).testBit j=true:=by rw[dL,pd]
def Qa{M k a i j}:(iK M (k::a) i).testBit j=true↔(bv M k i).testBit j=true\/(iK M a i).testBit j=true:=by rw[iK,or_bit]
def Q0{g l m f a i j}:(pU g l m (f+1) a i).testBit j=true↔l<=a/\i=j\/(a:Int)≠m/\∃c,c<320/\(g i).testBit c=true/\(i<c\/(a:Int)<l)/\(pU g l m f (bS l m a) c).testBit j=true:=by
 rw[pU,or_bit];refine or_congr ?_ ?_;grind [tN]
 split;next h=>simp[h]
 next h=>
 rw[pd];grind
section
section
variable{M:MT}
def gU(G:Int)(i j:Nat)(a:Notes):Prop:=∀x∈a,0<x.1/\x.1<=G/\i<=x.2.1/\x.2.1<=x.2.2/\x.2.2<=j
def gU.nil{G i j}:gU G i j []:=λ_ h=>nomatch h
def gU.app{G i c j a b}(f:gU G i c a)(e:gU G c j b)(k:i<=c)(g:c<=j):gU G i j (a++b):=λx d=>by
 rcases List.mem_append.1 d with h|h
 have:=f x h;omega;have:=e x h;omega
def uE{G k l m h j}(d:∀i c,i<=M.s.size->(bv M k i).testBit c=true->gU G i c (h i c)):
 ∀f b i,i<=M.s.size->gU G i j (jJ M k l m h j f b i)
 |0,_,_,_=>.nil
 |f+1,b,i,e=>by
  rw[jJ];split;split
  .next c n=>
   rw[j4]at n;have⟨r,q,p,_⟩:=n;rw[TY]at p;have g:=bZ M k i e c q;exact(d i c e q).app (uE d f _ c g.2) g.1 (vz (l:=l) (m:=m) (λi e=>bZ M k i e) _ _ c g.2 j p.2).1
  .exact uE d f _ i e
  exact .nil
mutual
def walk_in{G lo hi}:∀r,be G lo hi r->∀i j,i<=M.s.size->(bv M r i).testBit j=true->gU G i j (de M r i j)
 | .set ..,_,_,_,_,_=>by rw[de];exact .nil
 | .edge ..,_,_,_,_,_=>.nil
 | .seq _ e,f,i,j,hi,h=>zS e f.2 i j hi h
 | .alt _ e,f,i,j,hi,h=>zT e f.2 i j hi
 | .grp _ k z,f,i,j,hi,h=>by
  intro x s;rcases T5.1 s with rfl|s
  exact⟨f.2.1,f.2.2.1,Sz _,(bZ M k i hi j h).1,Sz _⟩;exact walk_in k f.2.2.2 i j hi h x s
 | .rep _ k l m,f,i,j,hi,h=>uE (λi c hi w=>walk_in k f.2.2.2.2 i c hi w) _ 0 i hi
def zS{G lo hi:Int}:∀(e:List Nd),bV G lo hi e->∀i j,i<=M.s.size->(dL M e i).testBit j=true->gU G i j (jI M e i j)
 |[],_,_,_,_,_=>.nil
 |k::e,f,i,j,hi,h=>by
  have⟨v,g,n⟩:=f;rw[jI];split
  .next c p=>
   rw[j4]at p;have⟨y,t,u,_⟩:=p;have q:=bZ M k i hi c t;exact(walk_in k g i c hi t).app (zS e n c j q.2 u) q.1 (qH M e c q.2 j u).1
  .next p=>
   rw[oX]at p;have⟨c,y,t,u⟩:=LS.1 h<;>grind
def zT{G lo hi:Int}:∀(e:List Nd),bV G lo hi e->∀i j,i<=M.s.size->gU G i j (oq M e i j)
 |[],_,_,_,_=>.nil
 |k::e,f,i,j,hi=>by
  have⟨v,g,n⟩:=f;rw[oq];split;next h=>exact walk_in k g i j hi h
  exact zT e n i j hi
end
def Du(g:Nat)(a):(∀x∈a,x.1≠(g:Int))/\nn a g=(-1,-1)\/∃x∈a,x.1=(g:Int)/\nn a g=((x.2.1:Int),(x.2.2:Int)):=by
 unfold nn;generalize (-1,-1)=u;induction a generalizing u<;>grind
def Je{c}{G:Nat}{lo d}(k:be G lo d c)(i:0<=lo){b j}(l:b<=M.s.size)(h:(bv M c b).testBit j=true):
 nn (((0:Int),b,j)::de M c b j) 0=((b:Int),(j:Int))/\∀g,0<g->nn (((0:Int),b,j)::de M c b j) g=(-1,-1)\/∃x y,b<=x/\x<=y/\y<=j/\nn (((0:Int),b,j)::de M c b j) g=((x:Int),(y:Int)):=by
 have f:=walk_in c k b j l h;constructor;rcases Du 0 ((0,b,j)::de M c b j)with⟨a,_⟩|⟨x,a,m,e⟩<;>first |exact absurd rfl (a _ TN)|(rw[e];rcases T5.1 a with rfl|a<;>first |rfl|(have:=f x a;omega))
 intro g n;rcases Du g ((0,b,j)::de M c b j)with⟨_,a⟩|⟨x,a,m,e⟩<;>first |exact .inl a|(refine .inr ⟨x.2.1,x.2.2,?_⟩;rcases T5.1 a with rfl|a<;>first |omega |(have:=f x a;grind))
end
end
section
open Go.RowKit Go.Conc
attribute [local instance] fI
theorem yF(g:Nat):∀b L c,(∀n∈b,0<=n.1)->(dH b L)[g]?=some (b.foldl (λx n=>if n.1=(g:Int)then((n.2.1:Int),(n.2.2:Int))else x) L[g])
 |[],L,c,_=>by simp[dH]
 |n::b,L,c,h=>by
  have:=yF g b (L.set n.1.toNat (n.2.1,n.2.2)) (by simpa using c) λm d=>h m (TH _ d)
  refine(show _=_ from this).trans ?_;grind
def Fa{a G}(h:∀n∈a,0<=n.1):dH a (SD (G+1) dM)=(List.range (G+1)).map (nn a):=by
 apply List.ext_getElem?;grind [yF,nn,oZ]
def J1{w x c b g d a T e}(h:a7 w x 79 (mU b g c d a T e)):w.cell? ⟨x,6,none⟩=some (Su T6 (wz T 0))/\w.cell? ⟨x,7,none⟩=some (Su T6 (wz T 1))/\w.cell? ⟨x,8,none⟩=some (Su T6 (wz T 2))/\w.cell? ⟨x,9,none⟩=some (Su T6 (wz T 3)):=⟨h.cell 6,h.cell 7,h.cell 8,h.cell 9⟩
def P0(b:SF)(a:Nat)(G:Nat)(v:Tg):Option (List (Int×Int))->Prop
 |none=>v=SE none 0 0
 |some L=>∃g,a<=g/\v=SE (some ⟨g,0,none⟩) (G+1) (G+1)/\a7 b g 35 (dw L)
structure za(E:ME)(w:SF)(x q fl:Nat)(g:Int)(nd:Nd)(S:Nat->Prop)(B G p:Nat)(wr:SF):Prop where
 mem:cI E wr
 rx:kh wr x q fl g nd S true (du co (bj nd).1) (bj nd).2
 sp:∃L:Sp,L.length=G+1/\a7 wr (B+1) 35 (dw L)
 box:a7 wr p 23 #[AS (some ⟨x,0,none⟩)]
 kq:Kq w.heap.size [x] w wr
def za.NE{E w d u x q i B G p g j S}(h:za E w x q i g j S B G p d){X}(k:Kq d.heap.size X d u)(hX:∀b∈X,B<=b)(e:x<B)(l:p<B)(n:∀b,S b->b<B)(m:w.heap.size<=B)
 (r:cI E u) (hs:∃L,L.length=G+1/\a7 u (B+1) 35 (dw L)):za E w x q i g j S B G p u:=by
 have f:∀b,b<B->b∉X:=λb a e=>by have:=hX b e;omega
 exact⟨r,⟨h.rx.blk.kq k h.rx.blk.lt (f _ e),h.rx.rep.keep λb a c=>k.kp.2 b c (f _ (n b a)),λb a=>⟨SQ (h.rx.low b a).1 k.kp.1,(h.rx.low b a).2⟩,h.rx.had⟩,hs,h.box.kq k h.box.lt (f _ l),
  h.kq.trans (k.mono h.kq.kp.1 λb a c=>by have:=hX b a;omega)⟩
def za.Hv{E w c u x q d B G p g e S}(h:za E w x q d g e S B G p c)(k:Kq c.heap.size [] c u)(n:x<B)(i:p<B)(m:∀b,S b->b<B)(a:w.heap.size<=B):za E w x q d g e S B G p u:=by
 have⟨L,j,f⟩:=h.sp;exact h.NE k (λb l=>nomatch l) n i m a (h.mem.kq k) ⟨L,j,f.kq k f.lt Sw⟩
def HZ{h0 S d w}{x q A ev G:Nat}{dn T e}{s:ByteArray}{i}(hx:kh w x q A G d S dn T e)(hT:je d G)(hs:s.size<=300)(hfl:A<256)(hev:ev<256)(hi:i<=s.size):
 cb (br ek h0) 49 #[AS (some ⟨x,0,none⟩),SC s,Su Tr ev,Su Sx i] w λe' w'=>∃v,e'=SH v/\P0 w' w.heap.size G v (fj ⟨s,A,ev⟩ d G (s.size+1-i) i)/\kh w' x q A G d S true (du co (bj d).1) (bj d).2/\Kq w.heap.size [x] w w':=by
 have hC:fh S d:=first_any (E:=uT s A ev G d S 0) (yI hT) (λi k l m h=>by
  obtain⟨hi,hh,hw⟩:=hT.w;obtain⟨_,_,_,_,hn⟩:=be.sub d hw _ h;simp only[be]at hn;have:=p9 (n:=l.toNat) (by omega);rwa [show((l.toNat:Nat):Int)=l from by omega]at this) (λi ks h=>by
  obtain⟨hi,hh,hw⟩:=hT.w;obtain⟨lo,h',_,_,hn⟩:=be.sub d hw _ h;simp only[be]at hn;have:=bV.le ks hn.2;have:=be.ids d hw _ h;simp only[Nd.id]at this;omega) d λa h=>h
 refine bu (bP (by decide)) (λw' ⟨v,h,_⟩=>nomatch h) (PH.func Tryz.func49 (by decide)) rfl ?_;simp only[Tryz.ntmps49,SR,SV,SY,T4,T7,SL,SK,SS,SM,SX,SW];refine ac λK hK=> ?_
 refine bm λw1 e1=> ?_
 replace e1:=AI e1;replace hx:=AI hx;go_wp2;refine hK.out _ _ ?_;obtain⟨p,hp⟩:∃p,p=w1.heap.size:=⟨_,rfl⟩;have hpw:p=w.heap.size:=by rw[hp,e1.out.heap]
 have hkW:Kq w1.heap.size [] w1 (w1.alloc (SJ #[AS (some ⟨x,0,none⟩)] 23)):=(Kq.refl w1).alloc (Sz _) _;have hx1:=(hx.out.kq e1.out.kq).kq hkW;have hb1:a7 (w1.alloc (SJ #[AS (some ⟨x,0,none⟩)] 23)) p 23 #[AS (some ⟨x,0,none⟩)]:=hp▸a7.new w1 ..;have hk1:Kq w.heap.size [x] w (w1.alloc (SJ #[AS (some ⟨x,0,none⟩)] 23)):=(e1.out.kq).alloc (by rw[hpw.symm.trans hp];exact Sz _) _;rw[<- hp];generalize w1.alloc (SJ #[AS (some ⟨x,0,none⟩)] 23)=W at *;have hpx:p≠x:=by have:=hx.out.blk.lt;omega
 replace hpw:=AI hpw;clear hkW hx e1 hp;refine ac λK hK=> ?_
 refine ao ?_;show aV _ _ _ (SG 0 (4+1)) ..;refine bq 0 4 1 (λN hN w2 e2=> ?_) (by decide);simp only[zq1];have hx2:=hx1.kq e2.kq;have hb2:=hb1.kq (e2.kq (B:=W.heap.size) (X:=[])) hb1.lt Sw;have hk2:Kq w.heap.size [x] w w2:=hk1.trans e2.kq;have v0:w2.cell? ⟨p,0,none⟩=some (AS (some ⟨x,0,none⟩)):=hb2.cell 0;have A2:=AI (⟨hx2,hb2,hk2⟩:_/\_/\_);go_wp2;refine hN.out _ _ ?_;refine f9 (f:=62) (i:=4) (rest:=SG 5 0) rfl rfl λu=>by simp[go_sem] (bP (by decide)) (PX hC A2.out.2.1 A2.out.1 hpx) (λv w3 hr=> ?_) λch w3 hr=>nomatch hr.1
 obtain⟨R,hx3,k3⟩:=hr;cases R;have hb3:=A2.out.2.1.kq k3 A2.out.2.1.lt λh=>hpx (Sv.1 h)
 have hk3:Kq w.heap.size [x] w w3:=A2.out.2.2.trans (k3.mono A2.out.2.2.kp.1 λ_ h _=>h);have A3:=AI (⟨hx3,hb3,hk3⟩:_/\_/\_);simp only[SU,SO,SN];simp only[Sy,zq0];refine az (hK.out _ _ ?_);refine bm λF e4=> ?_
 have hx4:=A3.out.1.kq e4.kq;have hb4:=A3.out.2.1.kq (e4.kq (B:=w3.heap.size) (X:=[])) A3.out.2.1.lt Sw;have hk4:Kq w.heap.size [x] w F:=A3.out.2.2.trans e4.kq;have v0:F.cell? ⟨p,0,none⟩=some (AS (some ⟨x,0,none⟩)):=hb4.cell 0;have v1:F.cell? ⟨x,1,none⟩=some (Su Sx G):=hx4.blk.cell 1;have v2:F.cell? ⟨x,2,none⟩=some (Su Tr A):=hx4.blk.cell 2;have A4:=AI (⟨hx4,hb4,hk4⟩:_/\_/\_);have hN:=AI (MX s A ev G (by have:=hT.g9;omega) F.drew);go_wp2;go_still_tail 10,by kernel_rfl
 change wpList _ _ _ _ _ F.drew;go_wp2;refine hN.out.mono ?_;rintro e' w5 ⟨rfl,hm5,hr5,hs5,k5⟩;have hz4:F.drew.heap.size=F.heap.size:=rfl;rw[hz4]at hm5 hr5 hs5 k5;rw[hz4];obtain⟨B,hB⟩:∃B,F.heap.size=B:=⟨_,rfl⟩;have k45:Kq F.heap.size [] F w5:=((Kq.refl F).drew).trans k5;have C:w.heap.size<=B:=hB▸A4.out.2.2.kp.1;have hSB:∀b,S b->b<F.heap.size:=λb hb=>(A4.out.1.low b hb).1
 have hE:=Mm (s:=s) (f:=A) (e:=ev) (G:=G) hs hfl hev hT hSB;have hW:=yI (s:=s) (f:=A) (e:=ev) (G:=G) (S:=S) (B:=F.heap.size) hT;have hG:=Ml (s:=s) (f:=A) (e:=ev) (G:=G) hT hSB;have hM5:=JQ (s:=s) (f:=A) (e:=ev) (G:=G) (w':=w5) A4.out.1.rep hSB hm5 hr5 k45;have P:x<B:=hB▸A4.out.1.blk.lt;have H:p<B:=hB▸A4.out.2.1.lt;have I5:za (uT s A ev G d S F.heap.size) w x q A G d S F.heap.size G p w5:=⟨hM5,A4.out.1.kq k45,⟨_,by simp,hs5⟩,A4.out.2.1.kq k45 A4.out.2.1.lt Sw,A4.out.2.2.trans (k45.mono A4.out.2.2.kp.1 nofun)⟩;rw[hB]at hE hW hG I5;rw[hB];have h9:=hT.g9;have y:=AI (hB▸hSB:∀b,S b->b<B);replace I5:=AI I5;replace hB:=AI hB;replace C:=AI C;replace h9:=AI h9;go_wp2;go_loopw [10] (λc wr=>∃n:Nat,i<=n/\n<=s.size+1/\c=Su Sx n/\za (uT s A ev G d S B) w x q A G d S B G p wr/\fj ⟨s,A,ev⟩ d G (s.size+1-n) n=fj ⟨s,A,ev⟩ d G (s.size+1-i) i) λc _=>s.size+1- (intOf c).toNat
 case atStart=>exact⟨i,Sz _,by omega,rfl,I5.out,rfl⟩
 case round=>
  obtain⟨n,hin,hns,rfl,I,g⟩:=hrel;by_cases hle:n<=s.size
  .have v0:wr.cell? ⟨p,0,none⟩=some (AS (some ⟨x,0,none⟩)):=I.box.cell 0;have vE:wr.cell? ⟨x,10,none⟩=some (Ta (bj d).2):=I.rx.blk.cell 10;have v6:=J1 I.rx.blk;have hd1:decide (n<=s.size)=true:=by simpa using hle
   have hd2:(n:Int)<=(s.size:Int):=by omega
   have hfm:∃f,s.size+1-n=f+1/\s.size+1- (n+1)=f:=⟨s.size-n,by omega,by omega⟩;obtain⟨f,hf1,hf2⟩:=hfm;rw[hf1,fj]at g;have hmay:JU ⟨s,A,ev⟩ d n=((bj d).2||decide (n<s.size)&&du co (bj d).1 (s.get! n).toNat):=by simp[JU,du,co]
   rw[hmay]at g;obtain⟨V,hV⟩:∃V,du co (bj d).1=V:=⟨_,rfl⟩;obtain⟨z,hz⟩:∃z,(bj d).2=z:=⟨_,rfl⟩;rw[hV]at v6 g;rw[hz]at vE g;replace I:=AI I;replace g:=AI g;replace hV:=AI hV;replace hz:=AI hz;replace hf1:=AI hf1;replace hf2:=AI hf2;have hc:=(s.get! n).toNat_lt;obtain⟨c,Z⟩:∃c,(s.get! n).toNat=c:=⟨_,rfl⟩;rw[Z]at g hc;have hH:=BU V c hc;unfold kL at hH;have vN:wr.cell? ⟨x,0,none⟩=some (Tb (bn d) (AS (some ⟨q,0,none⟩))):=I.out.rx.blk.cell 0;have hcase:Hid (z=true)\/Hid (z=false/\n<s.size/\V c=true)\/Hid (z=false/\n<s.size/\V c=false)\/Hid (z=false/\n=s.size):=by
    cases z
    .by_cases h:n=s.size
     .exact .inr (.inr (.inr (AI ⟨rfl,h⟩)))
     .cases R:V c
      .exact .inr (.inr (.inl (AI ⟨rfl,by omega,rfl⟩)))
      .exact .inr (.inl (AI ⟨rfl,by omega,rfl⟩))
    .exact .inl (AI rfl)
   replace Z:=AI Z;obtain⟨v60,v61,v62,v63⟩:=v6;rcases hcase with h|h|h|h
   case inr.inr.inr=>
    obtain⟨rfl,rfl⟩:=h.out;go_wp2;go_quiet (fail)
    go_wp2;go_roundw
    case rel=>exact⟨s.size+1,by omega,by omega,by push_cast;rfl,I.out.Hv ((Kq.refl wr).drewN nq) P H y.out C.out,by rw[hf2.out];simpa using g.out⟩
    case measure=>first |(simp[intOf];done)|(simp[intOf];omega)
   case inr.inr.inl=>
    obtain⟨rfl,hlt,R⟩:=h.out;have hd3:decide ((n:Int)=(s.size:Int))=false:=by simp;omega
    have hd4:((n:Int)==(s.size:Int))=false:=by simp;omega
    replace R:=AI R;go_wp2;go_still_tail 18,by kernel_rfl
    change wpList _ _ _ _ _ wr.drew;have hcs:s[n].toNat=c:=by
     rw[<- Z.out,show s.get! n=s[n]from by show s.data[n]! =_;rw[getElem!_pos s.data n hlt];rfl]
    rw[hcs]at *;go_wp2_with (first |(go_at_call 66;refine(hH _).mono ?_;rintro e' u ⟨rfl,Q⟩;replace Q:=AI (show Kq wr.heap.size [] wr u from⟨Q.kp,Q.os,Q.out⟩);rw[R.out])|fail)
    go_roundw
    case rel=>exact⟨n+1,by omega,by omega,by push_cast;rfl,I.out.Hv Q.out P H y.out C.out,by rw[hf2.out];have:=g.out;rw[R.out]at this;simpa using this⟩
    case measure=>first |(simp[intOf];done)|(simp[intOf];omega)
   case' inl=>
    obtain rfl:=h.out;have t:=g.out;rw[Bool.true_or,if_pos rfl]at t;replace t:=AI t;go_wp2;go_quiet (fail)
    have Q:=AI ((Kq.refl wr).drewN nq:Kq wr.heap.size [] wr (wr.drewN nq));replace v0:=show(wr.drewN nq).cell? ⟨p,0,none⟩=_ from v0;replace vN:=show(wr.drewN nq).cell? ⟨x,0,none⟩=_ from vN;generalize wr.drewN nq=u at *;go_wp2
   case' inr.inl=>
    obtain⟨rfl,hlt,R⟩:=h.out;have hd3:decide ((n:Int)=(s.size:Int))=false:=by simp;omega
    have hd4:((n:Int)==(s.size:Int))=false:=by simp;omega
    have t:=g.out;rw[R,decide_eq_true hlt,Bool.false_or,Bool.true_and,if_pos rfl]at t;replace t:=AI t;replace R:=AI R;go_wp2;go_still_tail 18,by kernel_rfl
    change wpList _ _ _ _ _ wr.drew;have hcs:s[n].toNat=c:=by
     rw[<- Z.out,show s.get! n=s[n]from by show s.data[n]! =_;rw[getElem!_pos s.data n hlt];rfl]
    rw[hcs]at *;go_wp2_with (first |(go_at_call 66;refine(hH _).mono ?_;rintro e' u ⟨rfl,Q⟩;replace Q:=AI (show Kq wr.heap.size [] wr u from⟨Q.kp,Q.os,Q.out⟩);rw[R.out];replace v0:u.cell? ⟨p,0,none⟩=some (AS (some ⟨x,0,none⟩)):=(I.out.Hv Q.out P H y.out C.out).box.cell 0;replace vN:u.cell? ⟨x,0,none⟩=some (Tb (bn d) (AS (some ⟨q,0,none⟩))):=(I.out.Hv Q.out P H y.out C.out).rx.blk.cell 0)|fail)
   all_goals
    have IU:=AI (I.out.Hv Q.out P H y.out C.out);have⟨L,hL,hLb⟩:=IU.out.sp;have hA:=Oo hE hW hG (w:=u) (q:=q) (i:=n) (L:=L) IU.out.mem IU.out.rx.rep hle hL hLb;refine hA.mono ?_;rintro e' w7 ⟨hM7,h7⟩;replace h7:match df (λ_=>true) (bv ⟨s,A,ev⟩ d n) 320 with|none=>e'=SH (SE none 0 0)/\Kq u.heap.size [B] u w7|some j=>e'=SH (SE (some ⟨B+1,0,none⟩) (G+1) (G+1))/\a7 w7 (B+1) 35 (dw (dH (((0:Int),n,j)::de ⟨s,A,ev⟩ d n j) (SD (G+1) dM)))/\Kq u.heap.size [B,B+1] u w7:=h7
    have r:=t.out;rw[DR]at r;cases hpk:df (λ_=>true) (bv ⟨s,A,ev⟩ d n) 320
    .rw[hpk]at h7 r;have⟨rfl,k7⟩:=h7;have I7:=AI (IU.out.NE k7 (λb hb=>by rw[Sv.1 hb];exact Sz _) P H y.out C.out hM7 ⟨L,hL,hLb.kq k7 hLb.lt λh=>by have:=Sv.1 h;omega⟩);replace r:=AI r;go_wp2;go_roundw
     case rel=>exact⟨n+1,by omega,by omega,by push_cast;rfl,I7.out,by rw[hf2.out];exact r.out⟩
     case measure=>first |(simp[intOf];done)|(simp[intOf];omega)
    .rename_i j;rw[hpk]at h7 r;have⟨rfl,hb7,k7⟩:=h7;have I7:=AI (IU.out.NE k7 λb hb=>by simp only[T5,Sw,or_false]at hb;omega P H y.out C.out hM7 ⟨_,by rw[oZ];simp,hb7⟩);have hbit:=(j4.1 hpk).2.1;have hwn:∀m∈((0:Int),n,j)::de ⟨s,A,ev⟩ d n j,0<=m.1:=λm hm=>by
      rcases T5.1 hm with rfl|hm
      .exact Int.le_refl _
      .have⟨hi9,hh9,hw9⟩:=hT.w;have:=(walk_in (M:=⟨s,A,ev⟩) d hw9 n j hle hbit m hm).1;omega
     rw[Fa hwn]at hb7;replace hb7:=AI hb7;replace r:=AI r;go_wp2;go_ret;refine⟨_,rfl,?_,I7.out.rx,I7.out.kq⟩;rw[<- r.out];exact⟨B+1,by have:=C.out;omega,rfl,hb7.out⟩
  .obtain rfl:n=s.size+1:=by omega
   have hd1:decide (s.size+1<=s.size)=false:=by simp
   have hd2:¬ ((s.size+1:Nat):Int)<=(s.size:Int):=by omega
   rw[show s.size+1- (s.size+1)=0 from by omega,fj]at g;replace I:=AI I;replace g:=AI g;go_wp2;go_ret;refine⟨_,rfl,?_,I.out.rx,I.out.kq⟩;rw[<- g.out];rfl
def iM(w b:SF)(x q c:Nat)(G:Nat)(a:Nd)(S:Nat->Prop):Prop:=kh b x q c G a S true (du co (bj a).1) (bj a).2/\Kq w.heap.size [x] w b
section
variable{h0:Array Obj}{S:Nat->Prop}{nd:Nd}{w:SF}{x q fl ev G:Nat}{dn:Bool}{T:cS}{e:Bool}{s:ByteArray}
def GM(D:kh w x q fl G nd S dn T e)(X:je nd G)(hs:s.size<=300)(C:fl<256)(z:ev<256):
 cb (br ek h0) 31 #[AS (some ⟨x,0,none⟩),SC s,Su Tr ev] w λe' F=>e'=SH (Td #[Ta (fj ⟨s,fl,ev⟩ nd G (s.size+1) 0).isSome,Te])/\iM w F x q fl G nd S:=by
 refine bu (bP (by decide)) (λF h=>nomatch h.1) (PH.func Tryz.func31 (by decide)) rfl ?_;simp only[Tryz.ntmps31,SR,SV,SY,T4,T7,SL,SK,SS,SM,SX,SW];have Q:decide (300<s.size)=false:=by simpa using hs
 have hd2:¬ (300:Int)<(s.size:Int):=by omega
 refine ac λK k=> ?_
 refine bm λw1 A=> ?_
 replace A:=AI A;replace D:=AI D;go_wp2;refine k.out _ _ ?_;refine ac λK k=> ?_
 refine bm λw2 y=> ?_
 replace y:=AI (y.trans A.out);go_wp2;refine k.out _ _ ?_;refine ac λK k=> ?_
 refine ao ?_;show aV _ _ _ (SG 0 (3+4)) ..;refine bq 0 3 4 (λN r w3 d=> ?_) (by decide);simp only[zq1];replace d:=AI (d.trans y.out);go_wp2;refine r.out _ _ ?_;have B:=D.out.kq d.out.kq;refine f9 (f:=49) (i:=3) (rest:=SG 4 (3+0)) rfl rfl λu=>by simp[go_sem] (bP (by decide)) (HZ (i:=0) (ev:=ev) (s:=s) B X hs C z (Tf _)) (λv H n=> ?_) λch H n=>by have⟨_,h,_⟩:=n;cases h
 have⟨v',j,l,p,W⟩:=n;cases j;have m:iM w H x q fl G nd S:=⟨p,d.out.kq.trans (W.mono (by rw[d.out.heap];exact Sz _) λ_ h _=>h)⟩;replace m:=AI m;rw[Uk]at l;simp only[SU,SO,SN];simp only[Sy,zq0];refine bq 4 3 0 (λN r P M=> ?_) (by decide);simp only[zq1];have a:iM w P x q fl G nd S:=⟨m.out.1.kq M.kq,m.out.2.trans M.kq⟩;replace a:=AI a;have j:∃b,(fj ⟨s,fl,ev⟩ nd G (s.size+1) 0).isSome=b/\(b=false/\v=SE none 0 0\/b=true/\∃g,v=SE (some ⟨g,0,none⟩) (G+1) (G+1)):=by
  cases E:fj ⟨s,fl,ev⟩ nd G (s.size+1) 0 with
  |none=>rw[E]at l;exact⟨false,rfl,.inl ⟨rfl,l⟩⟩
  |some L=>rw[E]at l;have⟨g,_,Z,_⟩:=l;exact⟨true,rfl,.inr ⟨rfl,g,Z⟩⟩
 have⟨b,t,j⟩:=j;replace t:=AI t;rcases j with⟨rfl,rfl⟩|⟨rfl,g,rfl⟩
 all_goals
  go_wp2;refine r.out _ _ (az (k.out _ _ ?_));refine bm λR I=> ?_
  have c:iM w R x q fl G nd S:=⟨a.out.1.kq I.kq,a.out.2.trans I.kq⟩;replace c:=AI c;go_wp2;go_ret2
  exact⟨by rw[t.out];rfl,c.out⟩
end
end
section
open Go.RowKit
def CO{P}(w n q u c g b m a d l p e t f)
 (A:P.underlying n=some (.slice c)) (hs:(P.info? c).map (·.size)=some p) (r:w.heap[g]?=some (SJ e t (0,0))) (B:f.length=Ub d b*p)
 (h:∀j v,f[j]?=some v->w.cell? (a.add j)=some v) (k:f.length<=e.size) (y:∀v∈f,v.oneCell'=true):
 (Uh #[n,q] u #[SE (some ⟨g,0,none⟩) b m,SE (some a) d l]).run P w=Tv (goInt (Ub d b)) (w.setRow g (f++e.toList.drop f.length).toArray):=by
 have z:=run_loadCells_list (P:=P) w a f h;have s:=run_storeCells_at P g 0 t f 0 e w r (by simpa using k) y;cases x:P.info? c with
 |none=>simp[x]at hs
 |some i=>
  simp_all[Uh,run_underlying,Builtin.lenOf,Builtin.firstCells,sizeOf,typeInfo]
def LJ(a b):eY (a++b)=eY a++eY b:=by simp[eY]
def Aa:∀L n,eY (L.take n)=(eY L).take (n*2)
 |[],n=>by simp[eY]
 |p::L,0=>by simp[eY]
 |p::L,n+1=>by
  have:=Aa L n;rw[show(n+1)*2=n*2+1+1 from by omega];show Su Sx p.1::Su Sx p.2::eY (L.take n)=List.take (n*2+1+1) (Su Sx p.1::Su Sx p.2::eY L);rw[Ts,Ts,this]
def Ab:∀L n,eY (L.drop n)=(eY L).drop (n*2)
 |[],n=>by simp[eY]
 |p::L,0=>by simp[eY]
 |p::L,n+1=>by
  have:=Ab L n;rw[show(n+1)*2=n*2+1+1 from by omega];show eY (L.drop n)=List.drop (n*2+1+1) (Su Sx p.1::Su Sx p.2::eY L);rw[Tt,Tt,this]
def jV(n:Nat)(L:Sp):Sp:=L.take n++SD (n-L.length) dM
def FG{w g b G n L}(d:L.length=G+1)(k:a7 w g 35 (dw (SD n dM)))(hs:a7 w b 35 (dw L))(f):
 (Uh #[28,28] f #[SE (some ⟨g,0,none⟩) n n,SE (some ⟨b,0,none⟩) (G+1) (G+1)]).run PM w=Tv (goInt (Ub (G+1) n)) (w.setRow g (dw (jV n L))):=by
 have l:(PM.info? 35).map (·.size)=some 2:=by
  have:=uJ;rw[Ty]at this;grind
 have a:(eY (L.take n)).length=Ub (G+1) n*2:=by
  rw[Dw,List.length_take,d,Nat.mul_comm,Nat.min_comm]
 have h:=CO (P:=PM) w 28 28 f 35 g n n ⟨b,0,none⟩ (G+1) (G+1) 2 (dw (SD n dM)) 35 (eY (L.take n)) ((congrFun (aK ..) _).trans Tryz.underlying28) l k a
  (λj v c=>by
   rw[Aa]at c;have m:(eY L)[j]?=some v:=by
    grind
   have e:(⟨b,0,none⟩:Addr).add j=⟨b,j,none⟩:=by simp_all[Addr.add]
   rw[e,hs.cell j];simp_all[dw])
  (by grind [Dw,dw])
  (λv c=>by
   simp only[eY,List.mem_flatMap]at c;have⟨p,_,i⟩:=c;simp[T5]at i;rcases i with rfl|rfl<;>rfl)
 have e:(eY (L.take n)++(dw (SD n dM)).toList.drop (eY (L.take n)).length).toArray=dw (jV n L):=by
  simp[a,dw,jV,<- Ab,<- LJ,d];have:n-Ub (G+1) n=n- (G+1):=by
   have:Ub (G+1) n=min (G+1) n:=rfl;omega
  rw[this]
 rw[h,e]
def sO{M c G}:∀f i{L},fj M c G f i=some L->L.length=G+1
 |0,_,_,h=>by cases h
 |f+1,i,L,h=>by
  rw[fj]at h;split at h;cases b:DR M c G i with
  |none=>rw[b]at h;exact sO f _ h
  |some l=>
   rw[b]at h;unfold DR at b;grind
  exact sO f _ h
end
section
open Go.RowKit Go.Conc
attribute [local instance] fI
def iM.eqv{w a b x q e G d S}(h:iM w a x q e G d S)(k:Kq a.heap.size [] a b)(c:w.heap.size<=a.heap.size):iM w b x q e G d S:=⟨h.1.kq k,h.2.trans (k.mono c nofun)⟩
def iM.far{w a b x q i G g f S}(h:iM w a x q i G f S)(k:Kq a.heap.size [g] a b)(j:w.heap.size<=g)(l:x<g)(n:∀b,S b->b<g):iM w b x q i G f S:=by
 have e:∀b,b<g->b∉[g]:=λb c m=>by have:=Sv.1 m;omega
 exact⟨⟨h.1.blk.kq k h.1.blk.lt (e _ l),h.1.rep.keep λb c d=>k.kp.2 b d (e _ (n b c)),λb c=>⟨SQ (h.1.low b c).1 k.kp.1,(h.1.low b c).2⟩,h.1.had⟩,
  h.2.trans (k.mono h.2.kp.1 λb c d=>by have:=Sv.1 c;omega)⟩
def xl(b:SF)(a:Nat)(n:Nat)(v:Tg):Option (List (Int×Int))->Prop
 |none=>v=SE none 0 0
 |some L=>∃g,a<=g/\v=SE (some ⟨g,0,none⟩) n n/\a7 b g 35 (dw (jV n L))
def Ht(w g a):Kq w.heap.size [g] w (w.setRow g a):=⟨⟨by simp,λb c d=>by
 unfold World.setRow;grind⟩,rfl,rfl⟩
def tJ(a l c u):(binOp .eql 28 (SE a l c) (SE none 0 0)).run PH u=Tv (Ta a.isNone) u:=by
 have h:=run_equal_slice_nil (P:=PH) u 28 35 a l c ((congrFun (aK ..) _).trans Tryz.underlying28);rw[binOp.eq_def];simp_all
section
variable{h0:Array Obj}{S:Nat->Prop}{nd:Nd}{w:SF}{x q fl ev G n:Nat}{dn:Bool}{T:cS}{e:Bool}{s:ByteArray}
def Js(hx:kh w x q fl G nd S dn T e)(hT:je nd G)(hs:s.size<=300)(hfl:fl<256)(hev:ev<256)(hn1:1<=n)(hn2:n<=20):
 cb (br ek h0) 29 #[AS (some ⟨x,0,none⟩),SC s,Su Tr ev,Su Sx n] w λe' w'=>∃v,e'=SH (Td #[v,Te])/\xl w' w.heap.size n v (fj ⟨s,fl,ev⟩ nd G (s.size+1) 0)/\iM w w' x q fl G nd S:=by
 refine bu (bP (by decide)) (λw' ⟨v,h,_⟩=>nomatch h) (PH.func Tryz.func29 (by decide)) rfl ?_;simp only[Tryz.ntmps29,SR,SV,SY,T4,T7,SL,SK,SS,SM,SX,SW];have hd1:decide (300<s.size)=false:=by simpa using hs
 have hd2:¬ (300:Int)<(s.size:Int):=by omega
 have hd3:decide ((n:Int)<1)=false:=by simp;omega
 have hd4:decide ((20:Int)<(n:Int))=false:=by simp;omega
 have hd5:¬ (n:Int)<1:=by omega
 have hd6:¬ (20:Int)<(n:Int):=by omega
 refine ac λK W=> ?_
 refine bm λw1 e1=> ?_
 replace e1:=AI e1;replace hx:=AI hx;go_wp2;refine W.out _ _ ?_;refine ac λK W=> ?_
 refine bm λw2 e2=> ?_
 replace e2:=AI (e2.trans e1.out);go_wp2;refine W.out _ _ ?_;refine ac λK W=> ?_
 refine ao ?_;show aV _ _ _ (SG 0 (3+2)) ..;refine bq 0 3 2 (λN hN w3 e3=> ?_) (by decide);simp only[zq1];replace e3:=AI (e3.trans e2.out);go_wp2;refine hN.out _ _ ?_;have hx3:=hx.out.kq e3.out.kq;have hz3:w3.heap.size=w.heap.size:=by rw[e3.out.heap]
 refine f9 (f:=49) (i:=3) (rest:=SG 4 (1+0)) rfl rfl λu=>by simp[go_sem] (bP (by decide)) (HZ (i:=0) (ev:=ev) (s:=s) hx3 hT hs hfl hev (Tf _)) (λv w4 hr=> ?_) λch w4 hr=>by obtain⟨_,h,_⟩:=hr;cases h
 obtain⟨v',hv,hf,hx4,k4⟩:=hr;cases hv;have F:iM w w4 x q fl G nd S:=⟨hx4,e3.out.kq.trans (k4.mono (by rw[hz3];exact Sz _) λ_ h _=>h)⟩;rw[hz3,Uk]at hf;have y:=F.2.kp.1;replace F:=AI F;replace y:=AI y;simp only[SU,SO,SN];simp only[Sy,zq0];refine bq 4 1 0 (λN hN w5 e5=> ?_) (by decide);simp only[zq1];have l:=F.out.eqv e5.kq y.out;have a:w.heap.size<=w5.heap.size:=l.2.kp.1;have h45:∀{b:Nat}{t cs},a7 w4 b t cs->a7 w5 b t cs:=λh=>h.kq (e5.kq (B:=w4.heap.size) (X:=[])) h.lt Sw
 replace l:=AI l;replace a:=AI a;cases D:fj ⟨s,fl,ev⟩ nd G (s.size+1) 0 with
 |none=>
  rw[D]at hf;obtain rfl:=hf;replace D:=AI D;go_wp2;refine hN.out _ _ (az (W.out _ _ ?_));refine bm λr e6=> ?_
  have m:=AI (l.out.eqv e6.kq a.out);have hq:=tJ none 0 0;go_wp2;go_ret2
  exact⟨_,rfl,by rw[D.out];rfl,m.out⟩
 |some L=>
  rw[D]at hf;obtain⟨gs,hgs,rfl,hb4⟩:=hf;have hL:=sO _ _ D;have hb5:=AI (h45 hb4);replace D:=AI D;replace hgs:=AI hgs;replace hL:=AI hL;go_wp2;refine hN.out _ _ (az (W.out _ _ ?_));refine bm λr e6=> ?_
  have m:=AI (l.out.eqv e6.kq a.out);have R:=AI (hb5.out.kq (e6.kq (B:=w5.heap.size) (X:=[])) hb5.out.lt Sw);have d:=AI (T0 a.out (by rw[e6.heap];exact Sz _:w5.heap.size<=r.heap.size));obtain⟨i,hi,hsz,hz,hb⟩:∃i,PM.info? 35=some i/\i.size=2/\i.zero=some (.agg #[Su Sx 0,Su Sx 0])/\i.bytes=16:=by
   have:=uJ;rw[Ty]at this;have⟨i,h1,h2⟩:=this;simp only[Prod.mk.injEq]at h2;exact⟨i,h1,h2.1,h2.2.1,h2.2.2⟩
  have hmk:=run_make (P:=PH) r 28 35 i _ ((congrFun (aK ..) _).trans Tryz.underlying28) hi hz Sx Sx (n:Int) (n:Int) (by omega) (by omega) (by rw[hb];omega) (by omega);rw[Tx,hsz,show(Value.agg #[Su Sx 0,Su Sx 0]).cells=#[Su Sx 0,Su Sx 0]from rfl,DO]at hmk;have A:=a7.new r 35 (dw (SD n (0,0)));have kg:Kq r.heap.size [] r (r.alloc (SJ (dw (SD n (0,0))) 35)):=(Kq.refl r).alloc (Sz _) _;have hS7:=AI (m.out.eqv kg d.out);have hb7:=AI (R.out.kq kg R.out.lt Sw);have C:gs<r.heap.size:=R.out.lt;replace A:=AI A;replace kg:=AI kg;replace C:=AI C;have I:=AI λb(hb:S b)=>(m.out.1.low b hb).1
  have M:=AI m.out.1.blk.lt;have hq:=tJ (some ⟨gs,0,none⟩) (G+1) (G+1);go_wp2;have⟨g,hgN⟩:∃g,r.heap.size=g:=⟨_,rfl⟩;rw[hgN]at A C I M d ⊢;generalize r.alloc (SJ (dw (SD n (0,0))) 35)=w7 at *;go_loopw [36] (λc wr=>∃k:Nat,k<=n/\c=Su Sx k/\a7 wr g 35 (dw (SD k dM++(SD n (0,0)).drop k))/\iM w wr x q fl G nd S/\a7 wr gs 35 (dw L)) λc _=>n- (intOf c).toNat
  case atStart=>exact⟨0,Tf _,rfl,by simpa using A.out,hS7.out,hb7.out⟩
  case round=>
   obtain⟨k,hkn,rfl,Z,F,H⟩:=hrel;by_cases hlt:k<n
   .have hlen:k<(SD k dM++(SD n (0,0)).drop k).length:=by simp;omega
    have⟨s0,s1⟩:=qm Z hlen;have E:=vK (n:=k) (u:=dM) Z;rw[xM (by simpa using hlt)]at E;have fz:∀j,wr.frozen? ⟨g,j,none⟩=false:=Z.frozen;have kB:Kq wr.heap.size [g] wr ((wr.setCell ⟨g,k*2,none⟩ (Su Sx (-1))).setCell ⟨g,k*2+1,none⟩ (Su Sx (-1))):=((Kq.refl wr).setCell (p:=⟨g,k*2,none⟩) (λ_=>Sv.2 rfl) _).setCell (p:=⟨g,k*2+1,none⟩) (λ_=>Sv.2 rfl) _;have Q:=F.far kB (T0 d.out (Sz _)) M.out I.out;have hbn:=H.kq kB H.lt λh=>by have:=Sv.1 h;have:=C.out;omega
    have A2:=AI (⟨E,Q,hbn⟩:a7 _ g 35 _/\iM w _ x q fl G nd S/\a7 _ gs 35 _);go_wp2;go_roundw
    case rel=>exact⟨k+1,by omega,by push_cast;rfl,A2.out⟩
    case measure=>first |(simp[intOf];done)|(simp[intOf];omega)
   .obtain rfl:k=n:=by omega
    rw[Ua (by simp),Uu]at Z;have hcp:=FG hL.out Z H 3;have kc:=Ht wr g (dw (jV k L));have hc:a7 (wr.setRow g (dw (jV k L))) g 35 (dw (jV k L)):=setRow_heap wr g _ _ 35 (0,0) Z;have Q:=AI (F.far kc d.out M.out I.out);replace hc:=AI hc;go_wp2;go_ret2
    exact⟨_,rfl,by rw[D.out];exact⟨g,d.out,rfl,hc.out⟩,Q.out⟩
end
def xl.kq{a b c n v m}(h:xl a c n v m)(k:Kq a.heap.size [] a b):xl b c n v m:=by
 cases m with
 |none=>exact h
 |some L=>have⟨g,e,f,d⟩:=h;exact⟨g,e,f,d.kq k d.lt Sw⟩
def LV{c i x d e}{g:Int}{G:Nat}{k}{l:FV}(m:g=G)(a:c.heap[x]?=some (.cells (#[k,.int .i64 g,.int .u8 d]++l.1) 79 (0,0)))(j:Repr c (λb=>i<=b/\b≠x) k e):
 ∃q,kh c x q d G e (λb=>i<=b/\b≠x/\b<c.heap.size) false co false:=by
 obtain⟨q,rfl⟩:=ed j;refine⟨q,?_,j.mono (S':=λb=>i<=b/\b≠x/\b<c.heap.size) λb a f=>⟨a.1,a.2,f⟩,λb a=>⟨a.2.2,a.2.1⟩,λh=>nomatch h⟩;obtain⟨t,rfl⟩:=l;subst m;have:mU (.iface (bn e) (.pointer (some ⟨q,0,none⟩))) G d (if false then 1 else 0) 0 co false=#[.iface (bn e) (.pointer (some ⟨q,0,none⟩)),.int .i64 G,.int .u8 d]++ #[.int .u32 0,.int .i32 0,.int .u32 0,.int .u64 0,.int .u64 0,.int .u64 0,.int .u64 0,.bool false]:=by
  simp[mU,qd]
 rw[this];exact a
section
variable{h0:Array Obj}{S:Nat->Prop}{nd:Nd}{w:SF}{x q fl ev G n:Nat}{dn:Bool}{T:cS}{e:Bool}{s:ByteArray}
def GY(M:kh w x q fl G nd S dn T e)(hT:je nd G)(hs:s.size<=300)(I:fl<256)(F:ev<256):
 cb (br ek h0) 16 #[AS (some ⟨x,0,none⟩),SC s,Su Tr ev] w λX Q=>X=SH (Td #[Ta (fj ⟨s,fl,ev⟩ nd G (s.size+1) 0).isSome,Su Sx 0])/\iM w Q x q fl G nd S:=by
 refine bu (bP (by decide)) (λQ h=>nomatch h.1) (PH.func Tryz.func16 (by decide)) rfl ?_;simp only[Tryz.ntmps16,SR,SV,SY,T4,T7,SL,SK,SS,SM,SX,SW];refine ac λK L=> ?_
 refine bm λw1 B=> ?_
 replace B:=AI B;replace M:=AI M;go_wp2;refine L.out _ _ ?_;refine ac λK L=> ?_
 refine ao ?_;show aV _ _ _ (SG 0 (3+6)) ..;refine bq 0 3 6 (λN E w3 d=> ?_) (by decide);simp only[zq1];replace d:=AI (d.trans B.out);go_wp2;refine E.out _ _ ?_;have C:=M.out.kq d.out.kq;have H:w3.heap.size=w.heap.size:=by rw[d.out.heap]
 refine f9 (f:=31) (i:=3) (rest:=SG 4 (5+0)) rfl rfl λu=>by simp[go_sem] (bP (by decide)) (GM (ev:=ev) (s:=s) C hT hs I F) (λv c A=> ?_) λch c A=>nomatch A.1
 have⟨hv,m⟩:=A;cases hv;generalize l:(fj ⟨s,fl,ev⟩ nd G (s.size+1) 0).isSome=b;replace l:=AI l;have t:iM w c x q fl G nd S:=⟨m.1,d.out.kq.trans (m.2.mono (by rw[H];exact Sz _) λ_ h _=>h)⟩;have a:=t.2.kp.1;replace t:=AI t;replace a:=AI a;simp only[SU,SO,SN];simp only[Sy,zq0];refine bq 4 5 0 (λN E w5 W=> ?_) (by decide);simp only[zq1];have g:=AI (t.out.eqv W.kq a.out);have r:=AI g.out.2.kp.1;have D:=AI (W.kq:Kq c.heap.size [] c w5);go_wp2;refine E.out _ _ (az (L.out _ _ ?_));refine bm λz e6=> ?_
 have j:=AI (g.out.eqv e6.kq r.out);have k:=AI (D.out.trans e6.kq:Kq c.heap.size [] c z);have p:=AI j.out.2.kp.1;have hL:=uF z;go_wp2;refine hL.mono ?_;rintro X Z ⟨rfl,y⟩;have R:Kq z.heap.size [] z Z:=⟨⟨y.size,λb l _=>y.block b l⟩,y.os,y.output⟩;have P:=AI (j.out.eqv R p.out);have hk7:=AI (k.out.trans (R.mono k.out.kp.1 nofun):Kq c.heap.size [] c Z);go_wp2;go_ret2
 exact⟨by rw[l.out];rfl,P.out⟩
def JA(M:kh w x q fl G nd S dn T e)(hT:je nd G)(hs:s.size<=300)(H:fl<256)(F:ev<256)(I:1<=n)(D:n<=20):
 cb (br ek h0) 14 #[AS (some ⟨x,0,none⟩),SC s,Su Tr ev,Su Sx n] w λZ E=>∃v,Z=SH (Td #[v,Su Sx 0])/\xl E w.heap.size n v (fj ⟨s,fl,ev⟩ nd G (s.size+1) 0)/\iM w E x q fl G nd S:=by
 refine bu (bP (by decide)) (λE h=>by have⟨_,h,_⟩:=h;cases h) (PH.func Tryz.func14 (by decide)) rfl ?_;simp only[Tryz.ntmps14,SR,SV,SY,T4,T7,SL,SK,SS,SM,SX,SW];refine ac λK W=> ?_
 refine bm λw1 X=> ?_
 replace X:=AI X;replace M:=AI M;go_wp2;refine W.out _ _ ?_;refine ac λK W=> ?_
 refine ao ?_;show aV _ _ _ (SG 0 (4+6)) ..;refine bq 0 4 6 (λN Q w3 k=> ?_) (by decide);simp only[zq1];replace k:=AI (k.trans X.out);go_wp2;refine Q.out _ _ ?_;have P:=M.out.kq k.out.kq;have m:w3.heap.size=w.heap.size:=by rw[k.out.heap]
 refine f9 (f:=29) (i:=4) (rest:=SG 5 (5+0)) rfl rfl λu=>by simp[go_sem] (bP (by decide)) (Js (ev:=ev) (s:=s) (n:=n) P hT hs H F I D) (λv c L=> ?_) λch c L=>by have⟨_,h,_⟩:=L;cases h
 have⟨v',hv,y,p⟩:=L;cases hv;rw[m]at y;replace y:=AI y;have t:iM w c x q fl G nd S:=⟨p.1,k.out.kq.trans (p.2.mono (by rw[m];exact Sz _) λ_ h _=>h)⟩;have a:=t.2.kp.1;replace t:=AI t;replace a:=AI a;simp only[SU,SO,SN];simp only[Sy,zq0];refine bq 5 5 0 (λN Q w5 e5=> ?_) (by decide);simp only[zq1];have j:=AI (t.out.eqv e5.kq a.out);have r:=AI j.out.2.kp.1;have B:=AI (e5.kq:Kq c.heap.size [] c w5);go_wp2;refine Q.out _ _ (az (W.out _ _ ?_));refine bm λz e6=> ?_
 have l:=AI (j.out.eqv e6.kq r.out);have d:=AI (B.out.trans e6.kq:Kq c.heap.size [] c z);have g:=AI l.out.2.kp.1;have hL:=uF z;go_wp2;refine hL.mono ?_;rintro Z w7 ⟨rfl,A⟩;have k7:Kq z.heap.size [] z w7:=⟨⟨A.size,λb hb _=>A.block b hb⟩,A.os,A.output⟩;have R:=AI (l.out.eqv k7 g.out);have C:=AI (d.out.trans (k7.mono d.out.kp.1 nofun):Kq c.heap.size [] c w7);go_wp2;go_ret2
 exact⟨_,rfl,y.out.kq C.out,R.out⟩
end
end
section
def Ob(x:mP):Prop:=∀w,x.wr=some w->0<w.1
def tz(g b l e c):∀f first S p x,jk g b l e c f first S p=some x->Ob x
 |0,_,_,_,_,h=>by cases h
 |f+1,first,S,p,x,h=>by
  unfold jk at h;split at h;cases h;intro w d;cases d;simp;split at h;cases h;intro w d;cases d;split at h;split at h<;>first |(cases h;intro w d;cases d;simp)|exact tz g b l e c f _ _ _ _ h
  split at h;split at h<;>first |(cases h;intro w d;cases d;simp)|exact tz g b l e c f _ _ _ _ h
  exact tz g b l e c f _ _ _ _ h
def G6(c p rest):Ob (dS c p rest):=by
 intro w a;unfold dS at a;grind
def Dq{d c l p x}(a:eB d c l p=some x):Ob x:=by
 unfold eB at a;split at a;cases a;intro w b;cases b;split at a;cases a;intro w b;cases b;split at a;cases a;exact G6 _ _ _;split at a;exact tz _ _ _ _ _ _ _ _ _ _ a;split at a;cases a;intro w b;cases b;split at a;split at a;cases a;intro w b;cases b;simp;split at a;cases a;intro w b;cases b;simp;split at a;cases a;intro w b;cases b;simp;cases a;intro w b;cases b;cases a;intro w b;cases b
def KE:Option (g8 Nd)->Prop
 |some (.err k _)=>0<k
 |_=>True
def tH{x f}(b:KE x)(c:∀a s,KE (f a s)):KE (mb x f):=by
 cases x with
 |none=>trivial
 |some r=>cases r with|ok a s=>exact c a s|err k a=>exact b
section
variable{ln fold:Bool}{l:List UInt8}
def NH(f):(∀d s,KE (qY ln fold l f d s))/\(∀d a b s,KE (lV ln fold l f d a b s))/\(∀d s,KE (sL ln fold l f d s))/\(∀d a b s,KE (lU ln fold l f d a b s))/\(∀d s,KE (oe ln fold l f d s))/\(∀k s,KE (iC ln fold l f k s))/\(∀d s,KE (oU ln fold l f d s))/\∀d s,KE (og ln fold l f d s):=by
 induction f with
 |zero=>exact⟨λ_ _=>trivial,λ_ _ _ _=>trivial,λ_ _=>trivial,λ_ _ _ _=>trivial,λ_ _=>trivial,λ_ _=>trivial,λ_ _=>trivial,λ_ _=>trivial⟩
 |succ f j=>
  have⟨r,h,i,g,n,m,p,q⟩:=j;refine⟨λd s=>h ..,λd a b s=>tH (i d s) λk s=> ?_,λd s=>g ..,λd a b s=> ?_,λd s=>tH (p d s) λk s=>m k s,λk s=> ?_,λd s=> ?_,λd s=> ?_⟩
  .split <;>first |trivial|split <;>first |exact h .. |trivial
  .unfold lU;split;trivial;split;split;exact(by decide:(0:Int)<11);split <;>first |exact(by decide:(0:Int)<9)|trivial
   split <;>first |exact(by decide:(0:Int)<8)|exact tH (n d s) λk s=>g ..
  .unfold iC;split;trivial;next x c=>
   split;split;next w e=>exact Dq c _ e
   grind
   trivial
  .unfold oU;split;trivial;next x c=>
   split;next w e=>exact Dq c _ e
   split;exact q d s;split;trivial;split <;>trivial
  .unfold og;split <;>first |trivial|split <;>first |exact(by decide:(0:Int)<12)|(refine tH (r ..) λk s=> ?_;split <;>first |trivial|split <;>first |trivial|exact(by decide:(0:Int)<10))
end
def Kn{ln fold l k a}(h:xP ln fold l=some (.err k a)):0<k:=by
 have:=(NH (ln:=ln) (fold:=fold) (l:=l) (deep+8)).1 0 ⟨0,0,0⟩;unfold xP at h;rw[h]at this;exact this
end
section
open Go.RowKit Go.Conc
attribute [local instance] fI
def FU:ByteArray:=⟨#[97]⟩
def PU:∃b a,gK FU 0=some (.ok b a):=by
 have h:(match gK FU 0 with |some (.ok ..)=>true|_=>false)=true:=by rfl
 grind
def HS{s b k a}(h:gK s b=some (.err k a)):0<k:=by
 unfold gK at h;split at h;grind
 exact Kn h
def KT(e:Nat)(d:SF)(g:Nat)(r:Option (g8 Nd))(v:Tg):Prop:=match r with|some (.ok i f)=>∃x c,∃h:FV,v=Td #[vp x,Ta true]/\e<=x/\d.heap[x]?=some (SJ (#[c,Su Sx f.g,Su Tr g]++h.1) 79 (0,0))/\Repr d (λb=>e<=b/\b≠x) c i|some (.err k a)=>v=Td #[AS none,Ta true]|none=>False
def Nl{h0 w s}{fl:Nat}(C:fl<256)(t:Under h0 w)(M:fx w)(R:gI w):
 cb (br ek h0) 12 #[SC s,Su Tr fl] w λe E=>∃v,e=SH v/\Old w E/\KT w.heap.size E fl (gK s fl) v:=by
 refine bu (bP (by decide)) (λE ⟨v,h,_⟩=>nomatch h) (PH.func Tryz.func12 (by decide)) rfl ?_;simp only[Tryz.ntmps12,SR,SV,SY,T4,T7,SL,SK,SS,SM,SX,SW];refine ac λK A=> ?_
 refine bm λw1 T=> ?_
 go_wp2;refine A.out _ _ ?_;refine ac λK A=> ?_
 refine ao ?_;show aV _ _ _ (SG 0 (2+8)) ..;refine bq 0 2 8 (λN n w2 e2=> ?_) (by decide);simp only[zq1];have B:=AI ((AI T.old).out.eqv e2);go_wp2;refine n.out _ _ ?_;refine bF (f:=18) (i:=2) (rest:=SG 3 (7+0)) rfl rfl λu=>by simp[go_sem] (bP (by decide)) (wl (s:=s) C (t.ea B.out) (M.ea B.out) (R.ea B.out)) (λv S a=> ?_) λZ S a=>by have⟨_,h,_⟩:=a;cases h
 obtain⟨v,e,F,j⟩:=a;cases e;have y:=AI (B.out.trans F);have z:=AI B.out.size;cases a:gK s fl with
 |none=>rw[a]at j;exact j.elim
 |some r=>
 rw[a]at j;cases r with
 |ok nd O=>
  obtain⟨x,Q,P,rfl,hx,m,c⟩:=j;replace c:=AI c;replace m:=AI m;replace a:=AI a;simp only[Sy,zq0];refine bq 3 7 0 (λN n w4 g=> ?_) (by decide);simp only[zq1];replace g:=AI g;go_wp2;refine n.out _ _ (az (A.out _ _ ?_));refine bm λL d=> ?_
  replace d:=AI d;go_wp2;go_ret2
  have q:L.heap=S.heap:=d.out.heap.trans g.out.heap;refine⟨_,rfl,(AI ((AI (y.out.eqv g)).out.eqv d)).out,?_⟩;rw[a.out];exact⟨x,Q,P,rfl,T0 z.out hx,by rw[q];exact m.out,(c.out.mono (S':=λb=>w.heap.size<=b/\b≠x) λb G D=>⟨T0 z.out G.1,G.2⟩).keep λb G D=>by rw[q]⟩
 |err k W=>
  obtain rfl:=j;have hk:=HS a;have H:(k !=0)=true:=by simpa using by omega
  replace a:=AI a;simp only[Sy,zq0];refine bq 3 7 0 (λN n w4 g=> ?_) (by decide);simp only[zq1];go_wp2;refine n.out _ _ (az (A.out _ _ ?_));refine ac λK A=> ?_
  refine ac λK2 l=> ?_
  refine bm λL d=> ?_
  go_wp2;refine l.out _ _ ?_;refine bG rfl ?_;refine ac λK2 l=> ?_
  refine ao ?_;show aV _ _ _ (SG 0 (1+7)) ..;refine bF (f:=18) (i:=0) (rest:=SG 1 (7+0)) rfl rfl λu=>by simp[go_sem];try rfl (bP (by decide)) (wl (s:=FU) (fl:=0) (by decide) (AI ((AI ((AI (t.ea y.out)).out.ea g.old)).out.ea d.old)).out (AI ((AI ((AI (M.ea y.out)).out.ea g.old)).out.ea d.old)).out (AI ((AI ((AI (R.ea y.out)).out.ea g.old)).out.ea d.old)).out) (λv w6 p=> ?_) λZ w6 p=>by have⟨_,h,_⟩:=p;cases h
  have⟨v,e,I,j⟩:=p;cases e;have⟨nd,O,X⟩:=PU;rw[X]at j;obtain⟨x,Q,P,rfl,_,_,_⟩:=j;simp only[SU,SO,SN];simp only[Sy,zq0];refine bq 1 7 0 (λN n w7 e7=> ?_) (by decide);simp only[zq1];go_wp2;refine n.out _ _ (az (l.out _ _ ?_));refine bm λw8 e8=> ?_
  go_wp2;go_ret2
  exact⟨_,rfl,(AI ((AI ((AI ((AI ((AI (y.out.eqv g)).out.eqv d)).out.trans I)).out.eqv e7)).out.eqv e8)).out,by
   rw[a.out];first |rfl|(show Value.tuple #[Value.pointer none,Ta (k !=0)]=_;rw[(AI H).out])⟩
class oA(I:SF->Prop):Prop where
 old:∀{a b:SF},Old a b->I a->I b
instance{I U2}[hI:oA I][a:oA U2]:oA λw=>I w/\U2 w:=⟨λh k=>⟨hI.old h k.1,a.old h k.2⟩⟩
instance{A}:oA λ_=>A:=⟨λ_ k=>k⟩
instance{a}:oA (Old a):=⟨λh k=>k.trans h⟩
instance:oA fx:=⟨λh k=>k.ea h⟩
instance:oA gI:=⟨λh k=>k.ea h⟩
instance{h0}:oA (Under h0):=⟨λh k=>k.ea h⟩
def Old.kq{a b}(h:Old a b){X}:Kq a.heap.size X a b:=⟨⟨h.size,λi c _=>h.old i c⟩,h.os,h.out⟩
instance{g t a}:oA λw=>a7 w g t a:=⟨λh k=>k.kq (h.kq (X:=[])) k.lt Sw⟩
structure da(w:SF)(lo hi x fl G:Nat)(nd:Nd):Prop where
 lw:lo<=x
 up:x<hi
 sz:hi<=w.heap.size
 tree:je nd G
 rx:∃q dn T e,kh w x q fl G nd (λb=>lo<=b/\b≠x/\b<hi) dn T e
instance{g f x d G b}:oA λw=>da w g f x d G b:=⟨λh k=>by
 have⟨q,c,T,e,a⟩:=k.rx;exact⟨k.lw,k.up,T0 k.sz h.size,k.tree,q,c,T,e,a.kq h.kq⟩⟩
def da.far{w j d g x y i G l}(k:da w d g x i G l)(h:Kq w.heap.size [y] w j)(n:y<d\/g<=y):da j d g x i G l:=by
 have⟨q,m,T,e,a⟩:=k.rx;refine⟨k.lw,k.up,T0 k.sz h.kp.1,k.tree,q,m,T,e,a.blk.kq h a.blk.lt λe=>by have:=Sv.1 e;have:=k.lw;have:=k.up;omega,a.rep.keep λb c f=>h.kp.2 b f λe=> ?_,λb c=>⟨SQ (a.low b c).1 h.kp.1,(a.low b c).2⟩,a.had⟩;have:=Sv.1 e;omega
def da.R5{w f a e x d G q c}(k:da w a e x d G c)(h:iM w f x q d G c λb=>a<=b/\b≠x/\b<e):da f a e x d G c:=
 ⟨k.lw,k.up,T0 k.sz h.2.kp.1,k.tree,_,_,_,_,h.1⟩
def Old.far{a b c}(h:Old a b){x}(k:Kq b.heap.size [x] b c)(f:a.heap.size<=x):Old a c:=
 ⟨λi d=>(k.kp.2 i (SQ d h.size) λe=>by have:=Sv.1 e;omega).trans (h.old i d),T0 h.size k.kp.1,k.os.trans h.os,k.out.trans h.out⟩
def mx(I:SF->Prop)(w:SF):Prop:=I w
def mx.mk{I w}(h:I w):mx I w:=h
def mx.out{I w}(h:mx I w):I w:=h
def mx.old{I a b}(H:mx I a)[hI:oA I](h:Old a b):mx I b:=hI.old h H
def mx.also{I w}(U2:SF->Prop)(H:mx I w)(h:U2 w):mx (λu=>I u/\U2 u) w:=⟨H,h⟩
section
variable{P:Program}{D:dZ P}{c:Code}{Q:Exit->Act->SF->Prop}{a:Act}{w:SF}{I:SF->Prop}
def ey[hI:oA I](h:∀b,mx I b->c.wp P Q a b)(H:mx I w):cL D c Q a w:=bm λb e=>h b (H.old e.old)
def cx[hI:oA I]{l:List Oper}(s n m)(h:∀N,Hid (∀f d,aV D l.toArray Q (SG (s+n) m) f d->N f d)->∀b,mx I b->wpList P l.toArray (Exit.then N Q) ((l.drop s).take n) a b)(i:s+n<=l.length)(H:mx I w):
 aV D l.toArray Q (SG s (n+m)) a w:=bq s n m (λN g b e=>h N g b (H.old e.old)) i
end
def Qf{s c b a}(h:gK s c=some (.ok b a)):je b a.g:=by
 unfold gK at h;split at h;cases h;exact N9 (by rw[show s.data.toList.length=s.size from by simp];omega) h
def Qy{a c x f d}{g:Int}{G:Nat}{i}{m:FV}(j:g=G)(n:je d g)(l:c<=x)(e:a.heap[x]?=some (.cells (#[i,.int .i64 g,.int .u8 f]++m.1) 79 (0,0)))(k:Repr a (λb=>c<=b/\b≠x) i d):
 da a c a.heap.size x f G d:=by
 have⟨q,h⟩:=LV j e k;exact⟨l,(SI.1 e).1,Sz _,j▸n,q,_,_,_,h⟩
theorem KT.at{f w' b s v}(h:KT f w' b (gK s b) v):
 (v=Td #[AS none,Ta true]/\∃k a,gK s b=some (.err k a))\/∃x c O G,v=Td #[vp x,Ta true]/\gK s b=some (.ok c O)/\O.g=((G:Nat):Int)/\da w' f w'.heap.size x b G c:=by
 cases d:gK s b with
 |none=>rw[d]at h;exact h.elim
 |some r=>
  rw[d]at h;cases r with
  |err k a=>exact .inl ⟨h,k,a,rfl⟩
  |ok c O=>
   obtain⟨x,m,n,rfl,j,l,i⟩:=h;have g:=Qf d;have e:O.g=O.g.toNat:=by have:=g.g0;omega
   exact .inr ⟨x,c,O,O.g.toNat,rfl,rfl,e,Qy e g j l i⟩
def tK(s:ByteArray)(n:Nat):ByteArray:=if n<s.size then s.extract 0 n else s
def FJ(s n):(tK s n).size<=n:=by
 grind [Th,tK]
def KI(s)(n:Nat)(w):Calls PH 11 #[SC s,Su Sx n] w λe b=>e=SH (SC (tK s n))/\b=w:=by
 by_cases h:n<s.size<;>first |(have a:tK s n=s.extract 0 n:=if_pos h;replace a:=AI a;go_enter PH.func Tryz.func11 (by decide),Tryz.ntmps11;go_wp2;go_ret;exact⟨by simp[a.out],rfl⟩)|(have a:tK s n=s:=if_neg h;replace a:=AI a;go_enter PH.func Tryz.func11 (by decide),Tryz.ntmps11;go_wp2;go_ret;exact⟨by simp[a.out],rfl⟩)
def N7:∀n:Nat,n<256->bits .and Tr (n:Int) 3=((n%4:Nat):Int):=by decide+kernel
def Kf(a):∃b:Nat,b<4/\bits .and Tr (a%256) 3=b:=by
 have⟨n,c⟩:∃n:Nat,a%256=n:=⟨(a%256).toNat,by omega⟩;refine⟨n%4,by omega,?_⟩;rw[c];exact N7 n (by omega)
def HP{w}{x q a G:Nat}{b S c T e}(h:kh w x q a G b S c T e):Calls PH 13 #[vp x] w λd f=>d=SH (Su Sx G)/\f=w:=by
 have g:w.cell? ⟨x,1,none⟩=some (Su Sx G):=h.blk.cell 1;go_enter PH.func Tryz.func13 (by decide),Tryz.ntmps13
 go_wp2;go_ret;simp
theorem IL.at{f:Nat}{w':SF}{b:Nat}{s:ByteArray}{v:Tg}(h:IL f w' b (gK s b) v):
 (∃k a,v=Td #[AS none,Su Sx k,Su Sx a]/\gK s b=some (.err k a)/\(k !=0)=true)\/∃x c O G,v=Td #[vp x,Su Sx 0,Su Sx 0]/\gK s b=some (.ok c O)/\O.g=((G:Nat):Int)/\da w' f w'.heap.size x b G c:=by
 cases d:gK s b with
 |none=>rw[d]at h;exact h.elim
 |some r=>
  rw[d]at h;cases r with
  |err k a=>
   have p:=HS d;exact .inl ⟨k,a,h,rfl,by simp;omega⟩
  |ok c O=>
   obtain⟨x,m,n,rfl,l,j,i⟩:=h;have g:=Qf d;have e:O.g=(O.g.toNat:Int):=by have:=g.g0;omega
   exact .inr ⟨x,c,O,O.g.toNat,rfl,rfl,e,Qy e g l j i⟩
def da.groups{w:SF}{a g x d G:Nat}{c:Nd}(h:da w a g x d G c):Calls PH 13 #[vp x] w λb f=>b=SH (Su Sx G)/\f=w:=by
 have⟨q,i,T,e,h⟩:=h.rx;exact HP h
instance{a n:Nat}{v:Tg}{m:Option (List (Int×Int))}:oA λw=>xl w a n v m:=⟨λh k=>k.kq h.kq⟩
def xl.far{a b:SF}{c n x:Nat}{v:Tg}{m:Option (List (Int×Int))}(h:xl a c n v m)(k:Kq a.heap.size [x] a b)(j:x<c):xl b c n v m:=by
 cases m with
 |none=>exact h
 |some L=>
  have⟨g,i,f,d⟩:=h;exact⟨g,i,f,d.kq k d.lt λe=>by have:=Sv.1 e;omega⟩
def da.find{h0:Array Obj}{w:SF}{m l x b G ev n:Nat}{f:Nd}{s:ByteArray}(h:da w m l x b G f)(hs:s.size<=300)(g:b<256)(c:ev<256)(d:1<=n)(i:n<=20):
 cb (br ek h0) 14 #[AS (some ⟨x,0,none⟩),SC s,Su Tr ev,Su Sx n] w λk a=>∃v,k=SH (Td #[v,Su Sx 0])/\xl a w.heap.size n v (fj ⟨s,b,ev⟩ f G (s.size+1) 0)/\da a m l x b G f/\Kq w.heap.size [x] w a:=by
 have⟨q,u,T,e,p⟩:=h.rx;refine(JA p h.tree hs g c d i).mono ?_;rintro k a ⟨v,t,r,j⟩;exact⟨v,t,r,h.R5 j,j.2⟩
def da.match_{h0:Array Obj}{w:SF}{lo hi x fl G ev:Nat}{nd:Nd}{s:ByteArray}(h:da w lo hi x fl G nd)(hs:s.size<=300)(hfl:fl<256)(hev:ev<256):
 cb (br ek h0) 16 #[AS (some ⟨x,0,none⟩),SC s,Su Tr ev] w λe' w'=>e'=SH (Td #[Ta (fj ⟨s,fl,ev⟩ nd G (s.size+1) 0).isSome,Su Sx 0])/\da w' lo hi x fl G nd/\Kq w.heap.size [x] w w':=by
 obtain⟨q,dn,T,e,h1⟩:=h.rx;refine(GY h1 h.tree hs hfl hev).mono ?_;rintro e' w' ⟨h2,h4⟩;exact⟨h2,h.R5 h4,h4.2⟩
end
structure Sq(n G:Nat)(L:List (Int×Int)):Prop where
 len:L.length=G+1
 all:∃b j:Nat,b<=j/\j<=n/\L[0]?=some ((b:Int),(j:Int))/\∀k,1<=k->k<=G->L[k]?=some (-1,-1)\/∃x y:Nat,b<=x/\x<=y/\y<=j/\L[k]?=some ((x:Int),(y:Int))
def bs(M:MT)(d:Nd)(G:Nat):Nat->Nat->Int->List (List (Int×Int))
 |0,_,_=>[]
 |f+1,i,l=>match fj M d G (M.s.size+1-i) i with
  |none=>[]
  |some L=>
   let b:=(L.headD (0,0)).1
   let j:=(L.headD (0,0)).2
   if b=j/\j=l then bs M d G f (j.toNat+1) l else L::bs M d G f (if b=j then j.toNat+1 else j.toNat) j
def Goes(n G:Nat):Nat->Int->List (List (Int×Int))->Prop
 |_,_,[]=>True
 |e,l,L::m=>∃b j:Nat,L.length=G+1/\L[0]?=some ((b:Int),(j:Int))/\e<=b/\b<=j/\j<=n/\(b=j->l<b)/\Goes n G j j m
def ef{M d}{G:Nat}(g:je d G):∀f i,i+f<=M.s.size+1->∀{L},fj M d G f i=some L->∃b j:Nat,L.length=G+1/\L[0]?=some ((b:Int),(j:Int))/\i<=b/\b<=j/\j<=M.s.size
 |0,_,_,_,h=>by cases h
 |f+1,i,s,L,h=>by
  rw[fj]at h;split at h;cases c:DR M d G i with
  |none=>
   rw[c]at h;obtain⟨b,j,h1,h2,h3,h4⟩:=ef g f (i+1) (by omega) h;exact⟨b,j,h1,h2,by omega,h4⟩
  |some l=>
   rw[c]at h;cases h;unfold DR at c;cases e:df (λ_=>true) (bv M d i) 320 with
   |none=>rw[e]at c;cases c
   |some j=>
    rw[e]at c;cases c;have b:=(j4.1 e).2.1;have m:=bZ M d i (by omega) j b;have⟨u,t,p⟩:=g.w;have⟨n,v⟩:=Je (M:=M) (G:=G) p (Int.le_refl _) (by omega) b;exact⟨i,j,by simp,by rw[List.getElem?_map,List.getElem?_range (by omega),Option.map_some,n],Sz _,m.1,m.2⟩
  obtain⟨b,j,h1,h2,h3,h4⟩:=ef g f (i+1) (by omega) h;exact⟨b,j,h1,h2,by omega,h4⟩
def eP{L:List (Int×Int)}{x:Int×Int}(h:L[0]?=some x):L.headD (0,0)=x:=by
 cases L<;>simp_all
def fp{M d}{G:Nat}(g:je d G):∀f(i:Nat)(l:Int)(e:Nat),i<=M.s.size+1->e<=i->l<=(i:Int)->Goes M.s.size G e l (bs M d G f i l)
 |0,_,_,_,_,_,_=>trivial
 |f+1,i,l,e,h0,h1,h2=>by
  rw[bs];split
  .trivial
  next L h=>
  obtain⟨b,j,h3,h4,h5,h6,h7⟩:=ef g _ i (by omega) h;rw[eP h4];dsimp only;split
  .exact fp g f _ l e (by omega) (by omega) (by omega)
  .refine⟨b,j,h3,h4,by omega,h6,h7,λh=>by omega,?_⟩;refine fp g f _ j j ?_ ?_ ?_<;>split <;>omega
def el{M d}{G:Nat}:∀f(i:Nat)(l:Int),(bs M d G f i l).length<=f
 |0,_,_=>Sz _
 |f+1,i,l=>by
  rw[bs];split
  .simp
  .dsimp only;split
   .exact Nat.le_succ_of_le (el f _ _)
   .exact Nat.succ_le_succ (el f _ _)
def la{M d}{G:Nat}(g:je d G)(f):(fj M d G (M.s.size+1) 0).isSome=decide (0<(bs M d G (f+1) 0 (-1)).length):=by
 have e:bs M d G (f+1) 0 (-1)=[]/\fj M d G (M.s.size+1) 0=none\/∃L m,bs M d G (f+1) 0 (-1)=L::m/\fj M d G (M.s.size+1) 0=some L:=by
  rw[bs,Uk];cases h:fj M d G (M.s.size+1) 0 with
  |none=>exact .inl ⟨rfl,rfl⟩
  |some L=>
   obtain⟨b,j,h3,h4,h5,h6,h7⟩:=ef g _ 0 (by omega) h;exact .inr ⟨L,_,by dsimp only;rw[eP h4,if_neg (by omega)],rfl⟩
 rcases e with⟨e,h⟩|⟨L,m,e,h⟩<;>simp[e,h]
def dT(s w:ByteArray):List (List (Int×Int))->ByteArray->Nat->ByteArray
 |[],a,e=>a++s.extract e s.size
 |L::m,a,e=>dT s w m (a++s.extract e (L.headD (0,0)).1.toNat++w) (L.headD (0,0)).2.toNat
section
section
variable{P:Program}{D:dZ P}{w:SF}{a:Act}{Q:Exit->Act->SF->Prop}{R:Ending->SF->Prop}
def mI(D:dZ P)(s:Sem Next)(w:SF)(R:Ending->SF->Prop):Prop:=
 (∃f args,(∀Y d,s.run P (ah w Y d)=Tv (.enter f args) (ah w Y d))/\D.okF f/\cb D f args w R)\/
 ∃n,∀Y d,∃l f tmps x y,s.run P (ah w Y d)=Tv (.round l f tmps x y) (ah w Y d)/\RoundIn Fence.wide n P l f tmps x y (ah w Y d) R
def kE{g i rest o}{s:Sem Next}(hs:g[i]?=some o)(x:Uf o (yielded g a.tmps)=true)(E:∀u,(Ul a.eval o).run P u=s.run P u)(h:mI D s w R)(no:∀j,¬ R .outgrown j)
 (A:∀v j,R (SH v) j->aV D g Q rest (a.put o.dst v) j) (z:∀ch j,R (U4 ch) j->Q (.panic ch) a j):aV D g Q (i::rest) a w:=λb k cs K l B t=>by
 have F:=λu=>stepG_op (P:=P) (b:=b) (k:=k) (cs:=cs) (w:=u) (rest:=rest) hs x
 have m:∀v,(b.at a (TL g (i::rest)::k)).finish v=b.at (a.put o.dst v) (TL g rest::k):=λv=>by
  simp[Frame.finish_at,hs]
 rcases h with⟨f,args,e,C,h⟩|⟨n,h⟩
 .refine D.step (f:=id) (fr':=Tz P f args TJ) (cs':=b.at a (TL g (i::rest)::k)::cs) (λY d=>step_lone_go (by have:=(E _).trans (e Y d);simp_all[stepG.apply,Frame.at])) C λY d=>D.er (w:=w) ?_ Y d
  refine h _ K λe j fr p n y q=> ?_
  cases e with
  |returned v=>
   refine D.go λr d=>dD (Ui (step_leave_returned (ut q r d))) ⟨⟨rfl,l⟩,?_⟩
   rw[m];exact D.er (A v j p b k cs K l B t) r d
  |panicked ch=>exact D.one (λu=>step_leave_panicked (w:=u) q) l (t _ _ _ (z ch j p) _)
  |outgrown=>exact absurd rfl n
 .refine D.go λY d=> ?_
  obtain⟨lp,f,tmps,y,v,e,h⟩:=h Y d;obtain⟨e',w',hR,st⟩:=h.2 (b.at a (TL g (i::rest)::k)) cs (room_wide _);have s1:step P (lone (b.at a (TL g (i::rest)::k)) cs (ah w Y d))= .next (lone (Frame.round lp f tmps y v TJ) (b.at a (TL g (i::rest)::k)::cs) (ah w Y d)):=
   step_lone_go (by have:=(E _).trans e;simp_all[stepG.apply,Frame.at])
  cases e' with
  |returned v=>
   refine dD ((Ui s1).trans (stepsIn_wide.1 st)) ?_;rw[m];exact⟨⟨rfl,l⟩,A v w' hR b k cs K l B t⟩
  |panicked ch=>
   refine dD ((Ui s1).trans (stepsIn_wide.1 st)) ?_;exact⟨⟨rfl,l⟩,t _ _ _ (z ch w' hR) _⟩
  |outgrown=>exact(no _ hR).elim
def nm(D:dZ P)(l:Nat)(Q:Exit->Act->SF->Prop)(a:Act):Ending->SF->Prop
 |SH _,w=>∃r:Loop,w.heap[l]?=some (Tc r)/\r.state≠U6/\
  match r.pending with
  |none=>Q .normal a (w.putObj l (Tc {r with state:=Tw}))
  |some c=>cL D c Q a (w.putObj l (Tc {r with state:=Tw}))
 |U4 ch,w=>Q (.panic ch) a w
 | .outgrown,_=>False
def fA(fn:FuncId)(t:Array Tg)(ps:Array Tmp)(x y:Code)(r:Nat):Loop:= {state:=Ti,pending:=none,fn,tmps:=t,params:=ps,assign:=x,body:=y,defers:=r}
def g5{g ps x y}(h:∀fn,∃dd f args,(∀u,(resolve a.eval (rangeCall g (w.heap.size+1)) 0).run P u=Tv dd u)/\(∀u,(invoke dd.target dd.args).run P u=Tv (.enter f args) u)/\D.okF f/\
 cb D f args ((w.alloc (SZ (some []))).alloc (Tc (fA fn a.tmps ps x y w.heap.size))) (nm D (w.heap.size+1) Q {a with defers:= {target:=Tj w.heap.size,args:=#[]}::a.defers})):
 cL D (.rangeFunc g ps x y) Q a w:=λb k cs K l B t=>by
 obtain⟨dd,f,args,e,e',C,h⟩:=h b.fn;refine D.step (f:=λu=>(u.alloc (SZ (some []))).alloc (Tc (fA b.fn a.tmps ps x y w.heap.size))) (fr':=Tz P f args TJ) (cs':=b.at {a with defers:= {target:=Tj w.heap.size,args:=#[]}::a.defers} (.inRangeFunc (w.heap.size+1)::k)::cs) (λY d=> ?_) C λY d=>D.er (w:=(w.alloc (SZ (some []))).alloc (Tc (fA b.fn a.tmps ps x y w.heap.size))) ?_ Y d
 .exact stepR_rangeFunc (b:= {b with roundOf:=none}) (run_enterLoop_outer (P:=P) (w:=ah w Y d) b.fn a.tmps ps x y) (e _) (e' _)
 .refine h _ K λe j fr p n y' q=> ?_
  cases e with
  |returned v=>
   obtain⟨r,p1,p2,p3⟩:=p;have s2:∀Y d,step P (lone (b.at {a with defers:= {target:=Tj w.heap.size,args:=#[]}::a.defers} (.endRangeFunc (w.heap.size+1)::k)) cs (ah j Y d))= .next (lone (b.at {a with defers:= {target:=Tj w.heap.size,args:=#[]}::a.defers} ((r.pending.map Item.code).toList++k)) cs (ah (j.putObj (w.heap.size+1) (Tc {r with state:=Tw})) Y d)):=λY d=>
    stepR_endRangeFunc (b:= {b with roundOf:=none}) (run_endLoop (P:=P) (w:=ah j Y d) p1 p2)
   have s1:∀Y d,step P (lone fr (b.at {a with defers:= {target:=Tj w.heap.size,args:=#[]}::a.defers} (.inRangeFunc (w.heap.size+1)::k)::cs) (ah j Y d))= .next (lone (b.at {a with defers:= {target:=Tj w.heap.size,args:=#[]}::a.defers} (.endRangeFunc (w.heap.size+1)::k)) cs (ah j Y d)):=λY d=>by
    rw[step_leave_returned (ut q Y d)];rfl
   refine D.go λY d=>dD ((Ui (s1 Y d)).trans (Ui (s2 Y d))) ⟨⟨rfl,l⟩,D.er ?_ Y d⟩
   cases hp:r.pending with
   |none=>rw[hp]at p3;exact t _ _ _ p3
   |some c=>rw[hp]at p3;exact p3 b k cs K l B t
  |panicked ch=>exact D.one (λu=>step_leave_panicked (w:=u) q) l (t _ _ _ p _)
  |outgrown=>exact absurd rfl n
def fb(P:Program)(fn:Func)(t:Array Tg)(R:Ending->SF->Prop):List Deferred->FrameMode->SF->Prop
 |[],Tp,w=>∃v,(results fn t).run P w=Tv v w/\R (SH v) w
 |[],Ue ch,w=>R (U4 ch) w
 |[],.run,_=>False
 |d::ds,u,w=>u≠.run/\((∃r,d.target=Tj r/\w.heap[r]?=some (SZ (some []))/\fb P fn t R ds u (w.putObj r (SZ none)))\/
  ∃fv cap f args,d.target= .fn fv cap/\(∀u,(invoke d.target d.args).run P u=Tv (.enter f args) u)/\∀Y i,CallsD P f args u (ah w Y i) λe u' w'=>match e with|SH _=>fb P fn t R ds (settle u') w'|_=>False)
def lc(P:Program)(fn:Func)(R:Ending->SF->Prop):Exit->Act->SF->Prop
 | .normal,a,w| .ret,a,w=>fb P fn a.tmps R a.defers Tp w
 | .panic ch,a,w=>fb P fn a.tmps R a.defers (Ue ch) w
 |_,_,_=>False
def en{f fn c args}(n:D.okF f)(hf:P.funcs[f]?=some fn)(hb:fn.body=some c)
 (h:cL D c (lc P fn R) {tmps:=args++U8 (fn.ntmps-args.size) undef,defers:=[]} w):cb D f args w R:=λv K G=>by
 let b:= {(default:Frame)with fn:=f,kind:=TJ}
 have i:Tz P f args TJ=b.at {tmps:=args++U8 (fn.ntmps-args.size) undef,defers:=[]} [.code c]:=by
  grind [Tz,Frame.at]
 have p:∀(l:List Deferred)(j:Frame)(k:SF) u,j.mode=u->j.defers=l->j.fn=f->j.kind=TJ->fb P fn j.tmps R l u k->D.H K (bO j v) k:=by
  intro l;induction l with
  |nil=>
   intro j k u m x q s C;cases u with
   |run=>exact C.elim
   |returning=>
    obtain⟨r,C,e⟩:=C;exact G _ _ _ e (by simp) q ⟨m,x,s,fn,by rw[q];exact hf,C⟩
   |panicking ch=>exact G _ _ _ C (by simp) q ⟨m,x,fn,by rw[q];exact hf⟩
  |cons d l H=>
   intro j k u m x q s ⟨hu,C⟩;rcases C with⟨r,T,L,C⟩|⟨fv,cap,g,gs,T,I,C⟩
   .exact D.step (f:=λu=>u.putObj r (SZ none)) (fr':= {j with defers:=[]++l}) (λY i=>step_collected (by rw[m];exact hu) x T (run_takeDeferred (w:=ah k Y i) L)) (q▸n) λY i=>D.er (w:=k.putObj r (SZ none)) (H {j with defers:=[]++l} _ u m rfl q s C) Y i
   .refine D.go λY i=> ?_
    obtain⟨e,u',w',fr,hR,hs,hk,hg⟩:=C Y i {j with defers:=l} v m;cases e with
    |returned z=>
     refine dD ((Ui (step_defer (by rw[m];exact hu) x T (I _))).trans (Steps.trans hs (Ui (step_going_returned hk hg)))) ⟨⟨rfl,q▸n⟩,?_⟩;exact H _ _ _ rfl rfl q s hR
    |panicked ch=>exact hR.elim
    |outgrown=>exact hR.elim
 rw[i];refine h b [] v K n (by simp[b]) λe M k r=> ?_
 cases e with
 |normal=>exact D.one (λu=>step_end) n (p _ {b.at M []with mode:=Tp} k Tp rfl rfl rfl rfl r)
 |ret=>exactλy=>p _ {b.at M y with mode:=Tp} k Tp rfl rfl rfl rfl r
 |panic ch=>exactλy=>p _ {b.at M y with mode:=Ue ch} k (Ue ch) rfl rfl rfl rfl r
 |exit z=>exact r.elim
 |goto l=>exact r.elim
 |outgrown=>exact r.elim
end
end
section
open Go.RowKit Go.Conc
attribute [local instance] fI
instance{n:Nat}:oA λu=>n<=u.heap.size:=⟨λh k=>T0 k h.size⟩
def da.pp{h0 w lo hi' x fl G nd i}{s:ByteArray}(h:da w lo hi' x fl G nd)(hs:s.size<=300)(hfl:fl<256)(hi:i<=s.size):
 cb (br ek h0) 49 #[vp x,SC s,Su Tr 0,Su Sx i] w λe w'=>∃v,e=SH v/\P0 w' w.heap.size G v (fj ⟨s,fl,0⟩ nd G (s.size+1-i) i)/\da w' lo hi' x fl G nd/\Kq w.heap.size [x] w w':=by
 obtain⟨q,dn,T,e,hr⟩:=h.rx;refine(HZ (ev:=0) hr h.tree hs hfl (by decide) hi).mono ?_;rintro e' w' ⟨v,h1,h2,h3,h4⟩;exact⟨v,h1,h2,h.R5 ⟨h3,h4⟩,h4⟩
def mK(n):Un #[Su Sx 0,Su Sx 0] n=dw (SD n (0,0)):=by
 rw[<- DO];simp[Un,madeCells]
def clone_any{w:SF}{g n:Nat}{L:Sp}(hb:a7 w g 35 (dw L))(hn:L.length=n)(h0:0<n)(hn2:n<=100):
 Calls PH 84 #[SE (some ⟨g,0,none⟩) n n] w λe W=>∃g' Z,e=SH (SE (some ⟨g',0,none⟩) n (n+Z.length:Nat))/\w.heap.size<=g'/\a7 W g' 35 (dw (L++Z))/\Old w W:=by
 have hq:=tJ (some ⟨g,0,none⟩) n n;have hl:(loadCellsFrom ⟨g,0,none⟩ 0 (n*2) #[]).run PH (w.alloc (SJ #[] 35)).drew=Tv (dw L) (w.alloc (SJ #[] 35)).drew:=by
  have e:(eY L).length=n*2:=by rw[Dw,hn,Nat.mul_comm]
  have:=run_loadCells_list (P:=PH) (w:=(w.alloc (SJ #[] 35)).drew) ⟨g,0,none⟩ (eY L) λj v hj=>by
   have h1:=hb.kq ((Kq.refl w).alloc (Sz _) (SJ #[] 35):Kq w.heap.size [] w _) hb.lt Sw;have h2:=h1.cell j;rw[Addr.add_lit,TG];exact h2.trans (by simpa[dw]using hj)
  rw[e]at this;exact this
 have hc:=grownCap_ge w n 0 35;have hnc:Builtin.nextslicecap n 0=n:=nextslicecap_zero h0;unfold grownCap at hc;have hb16:¬ (281474976710656<n*Tryz.t35.bytes):=by rw[show Tryz.t35.bytes=16 from by kernel_rfl];omega
 go_enter PH.func Tryz.func84 (by decide),Tryz.ntmps84
 go_wp2;go_ret;rw[mK];generalize (Question.appendCap n 0 35).cut _=c at hc;refine⟨w.heap.size+1,SD (c-n) (0,0),?_,by omega,?_,?_⟩
 .rw[List.length_replicate,show n+(c-n)=c from by omega];rfl
 .have e:dw L++dw (SD (c-n) (0,0))=dw (L++SD (c-n) (0,0)):=by simp[dw,eY]
  rw[e];have:=a7.new (w.alloc (SJ #[] 35)) 35 (dw (L++SD (c-n) (0,0)));rw[Tn]at this;exact this
 .exact(((Old.refl w).alloc _).alloc _).eqv ⟨rfl,rfl,rfl⟩
def o0(v0 v1 v2 v4 v5:Tg)(a:Act):Prop:=a.defers=[]/\a.tmps.size=51/\a.tmps.getD 0 undef=v0/\a.tmps.getD 1 undef=v1/\a.tmps.getD 2 undef=v2/\a.tmps.getD 4 undef=v4/\a.tmps.getD 5 undef=v5
def o0.out{v0 v1 v2 v4 v5:Tg}{a:Act}(h:o0 v0 v1 v2 v4 v5 a):∃u:Nat->Tg,a= {tmps:=(v0::v1::v2::u 3::v4::v5::u 6::u 7::u 8::u 9::u 10::u 11::u 12::u 13::u 14::u 15::u 16::u 17::u 18::u 19::u 20::u 21::u 22::u 23::u 24::u 25::u 26::u 27::u 28::u 29::u 30::u 31::u 32::u 33::u 34::u 35::u 36::u 37::u 38::u 39::u 40::u 41::u 42::u 43::u 44::u 45::u 46::u 47::u 48::u 49::u 50::[]).toArray,defers:=[]}:=by
 obtain⟨hd,hn,rfl,rfl,rfl,rfl,rfl⟩:=h;obtain⟨ts,ds⟩:=a;dsimp only at hd hn ⊢;subst hd;refine⟨λi=>ts.getD i undef,?_⟩;exact congrArg (λt=>({tmps:=t,defers:=[]}:Act)) (dp 51 ts hn)
def nA(v0 v1 v2 v4 v5 v6 v7:Tg)(a:Act):Prop:=a.defers=[]/\a.tmps.size=51/\a.tmps.getD 0 undef=v0/\a.tmps.getD 1 undef=v1/\a.tmps.getD 2 undef=v2/\a.tmps.getD 4 undef=v4/\a.tmps.getD 5 undef=v5/\a.tmps.getD 6 undef=v6/\a.tmps.getD 7 undef=v7
def nA.out{v0 v1 v2 v4 v5 v6 v7:Tg}{a:Act}(h:nA v0 v1 v2 v4 v5 v6 v7 a):∃u:Nat->Tg,a= {tmps:=(v0::v1::v2::u 3::v4::v5::v6::v7::u 8::u 9::u 10::u 11::u 12::u 13::u 14::u 15::u 16::u 17::u 18::u 19::u 20::u 21::u 22::u 23::u 24::u 25::u 26::u 27::u 28::u 29::u 30::u 31::u 32::u 33::u 34::u 35::u 36::u 37::u 38::u 39::u 40::u 41::u 42::u 43::u 44::u 45::u 46::u 47::u 48::u 49::u 50::[]).toArray,defers:=[]}:=by
 obtain⟨hd,hn,rfl,rfl,rfl,rfl,rfl,rfl,rfl⟩:=h;obtain⟨ts,ds⟩:=a;dsimp only at hd hn ⊢;subst hd;refine⟨λi=>ts.getD i undef,?_⟩;exact congrArg (λt=>({tmps:=t,defers:=[]}:Act)) (dp 51 ts hn)
def nx(v0 v1 v2 v5 v6 v7:Tg)(a:Act):Prop:=a.defers=[]/\a.tmps.size=51/\a.tmps.getD 0 undef=v0/\a.tmps.getD 1 undef=v1/\a.tmps.getD 2 undef=v2/\a.tmps.getD 5 undef=v5/\a.tmps.getD 6 undef=v6/\a.tmps.getD 7 undef=v7
def nx.out{v0 v1 v2 v5 v6 v7:Tg}{a:Act}(h:nx v0 v1 v2 v5 v6 v7 a):∃u:Nat->Tg,a= {tmps:=(v0::v1::v2::u 3::u 4::v5::v6::v7::u 8::u 9::u 10::u 11::u 12::u 13::u 14::u 15::u 16::u 17::u 18::u 19::u 20::u 21::u 22::u 23::u 24::u 25::u 26::u 27::u 28::u 29::u 30::u 31::u 32::u 33::u 34::u 35::u 36::u 37::u 38::u 39::u 40::u 41::u 42::u 43::u 44::u 45::u 46::u 47::u 48::u 49::u 50::[]).toArray,defers:=[]}:=by
 obtain⟨hd,hn,rfl,rfl,rfl,rfl,rfl,rfl⟩:=h;obtain⟨ts,ds⟩:=a;dsimp only at hd hn ⊢;subst hd;refine⟨λi=>ts.getD i undef,?_⟩;exact congrArg (λt=>({tmps:=t,defers:=[]}:Act)) (dp 51 ts hn)
def hY{w g k t D a c}(h:a7 w g t (dw D))(e:D[k]?=some (a,c)):w.cell? ⟨g,k*2,none⟩=some (Su Sx a)/\w.cell? ⟨g,k*2+1,none⟩=some (Su Sx c):=by
 have⟨b,d⟩:=T9.1 e;have:=qm h b;rw[d]at this;exact this
def kP(M:MT)(d:Nd)(G f i:Nat)(l:Int):bs M d G (f+1) i l=match fj M d G (M.s.size+1-i) i with
 |none=>[]
 |some L=>if(L.headD (0,0)).1=(L.headD (0,0)).2/\(L.headD (0,0)).2=l then bs M d G f ((L.headD (0,0)).2.toNat+1) l else L::bs M d G f (if(L.headD (0,0)).1=(L.headD (0,0)).2 then(L.headD (0,0)).2.toNat+1 else(L.headD (0,0)).2.toNat) (L.headD (0,0)).2:=rfl
def drop_cons{α}{l:List α}{k a m}(h:l.drop k=a::m):l[k]?=some a/\l.drop (k+1)=m/\k<l.length:=by
 have e:(l.drop k)[0]?=some a:=by rw[h];rfl
 rw[List.getElem?_drop]at e;refine⟨by simpa using e,?_,?_⟩
 .have:(l.drop k).drop 1=m:=by rw[h];rfl
  rw[List.drop_drop]at this;exact this
 .have:=(T9.1 e).1;omega
def nu{h0:Array Obj}{w:SF}{lo hi x fl G:Nat}{nd:Nd}{s:ByteArray}{y:Tg}{bt bR:Nat}{N:List PanicEntry->SF->Prop}(I:Nat->SF->Prop)(U2:SF->Prop){Ls:List Sp}(hLs:bs ⟨s,fl,0⟩ nd G (s.size+2) 0 (-1)=Ls)
 (hs:s.size<=300) (hfl:fl<256) (hI:∀k W W',I k W->Kq W.heap.size [x] W W'->I k W')
 (hJ:∀W W',U2 W->Old W W'->U2 W') (hB:∀k W,I k W->W.cell? ⟨bt,0,none⟩=some (SC s)/\W.cell? ⟨bR,0,none⟩=some (vp x))
 (hy:∀k W0 W L g Z,Ls[k]?=some L->I k W0->Kq W0.heap.size [x] W0 W->da W lo hi x fl G nd->a7 W g 35 (dw (L++Z))->W0.heap.size<=g->w.heap.size<=W0.heap.size->
  mI (br ek h0) (do let d <- TX y #[SE (some ⟨g,0,none⟩) (G+1:Nat) (G+1+Z.length:Nat)];invoke d.target d.args) W λe W'=>
   (∃b,e=SH (Ta b)/\da W' lo hi x fl G nd/\w.heap.size<=W'.heap.size/\if b then I (k+1) W' else U2 W')\/∃ch,e=U4 ch/\N ch W')
 (X:da w lo hi x fl G nd) (H0:I 0 w):
 cb (br ek h0) 83 #[y,AS (some ⟨bt,0,none⟩),AS (some ⟨bR,0,none⟩)] w λe W=>
  (e=SH (Td #[])/\da W lo hi x fl G nd/\(I Ls.length W\/U2 W))\/∃ch,e=U4 ch/\N ch W:=by
 refine bu (bP (by decide)) (λw' h=>by rcases h with⟨h,_⟩|⟨_,h,_⟩<;>cases h) (PH.func Tryz.func83 (by decide)) rfl ?_;simp only[Tryz.ntmps83,SR,SV,SY,T4,T7,SL,SK,SS,SM,SX,SW];have K1:∀k,oA (I k):=λk=>⟨λh i=>hI _ _ _ i h.kq⟩
 have KJ:oA U2:=⟨λh i=>hJ _ _ i h⟩;have hT:=X.tree;have H:mx (λu=>I 0 u/\da u lo hi x fl G nd/\w.heap.size<=u.heap.size) w:=⟨H0,X,Sz _⟩;clear H0 X;refine ac λK hK=> ?_
 revert H;refine ey λw1 H=> ?_
 have⟨c1,c2⟩:=hB _ _ H.out.1;have hd:decide ((300:Int)<(s.size:Int))=false:=by simp;omega
 go_wp2;refine hK.out _ _ ?_;clear hK K c1 c2 hd;refine ac (λK hK=> ?_);revert H;refine ey λw2 H=> ?_
 go_wp2;refine hK.out _ _ ?_;clear hK K;refine ac λK hK=> ?_
 revert H;refine ey λw3 H=> ?_
 go_wp2;refine hK.out _ _ ?_;clear hK K;refine ec ?_;refine m9 (λn a u=>∃(k p:Nat)(l:Int),o0 y (AS (some ⟨bt,0,none⟩)) (AS (some ⟨bR,0,none⟩)) (Su Sx l) (Su Sx p) a/\bs ⟨s,fl,0⟩ nd G n p l=Ls.drop k/\k<=Ls.length/\s.size+2<=n+p/\p<=s.size+1/\mx (λu=>I k u/\da u lo hi x fl G nd/\w.heap.size<=u.heap.size) u) (s.size+2) ⟨0,0,-1,⟨rfl,rfl,rfl,rfl,rfl,rfl,rfl⟩,hLs,Tf _,by omega,by omega,H⟩ ?_;clear H hLs;rintro n a W5 ⟨k,p,l,hF,hg,hk,hn,hp,H⟩;obtain⟨u,rfl⟩:=hF.out;clear hF;refine ac λK hK=> ?_
 revert H;refine ey λw6 H=> ?_
 have⟨c1,c2⟩:=hB _ _ H.out.1;obtain⟨m,rfl⟩:∃m,n=m+1:=⟨n-1,by omega⟩;rw[kP]at hg;by_cases hle:p<=s.size
 .have hd:decide ((p:Int)<=(s.size:Int))=true:=by simp;omega
  replace hg:=AI hg;replace hn:=AI hn;go_wp2;refine hK.out _ _ ?_;clear hK c1 c2 hd;refine ec ?_;refine ac λK hK=> ?_
  refine ao ?_;show aV _ _ _ (SG 0 (3+2)) ..;revert H;refine cx 0 3 2 (λN hN w7 H=> ?_) (by decide);simp only[zq1];have⟨c1,c2⟩:=hB _ _ H.out.1;go_wp2;refine hN.out _ _ ?_;clear hN c1 c2;refine bF (f:=49) (i:=3) (rest:=SG 4 (1+0)) rfl rfl (λu=>by simp[go_sem]) (bP (by decide)) (H.out.2.1.pp hs hfl hle) (λv w8 z=> ?_) λch w8 z=>by obtain⟨_,h,_⟩:=z;cases h
  obtain⟨v0,e,hv,hr,hq⟩:=z;obtain rfl:=(Ending.returned.inj e).symm;clear e;have hz7:=H.out.2.2;replace H:mx (λu=>I k u/\da u lo hi x fl G nd/\w.heap.size<=u.heap.size) w8:=⟨hI _ _ _ H.out.1 hq,hr,T0 H.out.2.2 hq.kp.1⟩;clear hr hq;simp only[SU,SO,SN];cases hm:fj ⟨s,fl,0⟩ nd G (s.size+1-p) p with
  |none=>
   rw[hm]at hv hg;obtain rfl:v0=SE none 0 0:=hv;have hkl:k=Ls.length:=by
    have:Ls.drop k=[]:=hg.out.symm;have:=List.drop_eq_nil_iff.1 this;omega
   subst hkl;clear hg hm;simp only[Sy,zq0];revert H;refine cx 4 1 0 (λN hN w9 H=> ?_) (by decide);simp only[zq1];go_wp2;refine hN.out _ _ (az (hK.out _ _ ?_));clear hN N hK K;revert H;refine ey λw10 H=> ?_
   have hq:=tJ none 0 0;go_wp2;try simp only[TW,Exit.then]
   exact bodyPost_ret (results_none rfl ..) rfl (.inl ⟨rfl,H.out.2.1,.inl H.out.1⟩)
  |some L=>
   rw[hm]at hv hg;obtain⟨g,hgz,rfl,hb⟩:=hv;obtain⟨b,j,hL,hL0,hpb,hbj,hjs⟩:=ef hT _ p (by dsimp only;omega) hm;replace H:mx (λu=>I k u/\da u lo hi x fl G nd/\w.heap.size<=u.heap.size/\a7 u g 35 (dw L)) w8:=⟨H.out.1,H.out.2.1,H.out.2.2,hb⟩;clear hb hgz hm;dsimp only at hg;have hhd:=eP hL0;rw[hhd]at hg;replace hL0:=AI hL0;simp only[Sy,zq0];revert H;refine cx 4 1 0 (λN hN w9 H=> ?_) (by decide);simp only[zq1];go_wp2;refine hN.out _ _ (az (hK.out _ _ ?_));clear hN N hK K;refine ac λK hK=> ?_
   revert H;refine ey λw10 H=> ?_
   have hq:=tJ (some ⟨g,0,none⟩) (G+1) (G+1);go_wp2;refine hK.out _ _ ?_;clear hK hq;refine ac λK hK=> ?_
   revert H;refine ey λw11 H=> ?_
   have⟨c1,c2⟩:=hY H.out.2.2.2 hL0.out;rw[TF]at c1 c2;rw[TG]at c2;go_wp2;refine hK.out _ _ ?_;clear hK c1 c2;have hnb:=H.out.2.2.1;obtain⟨nb,hnbe⟩:∃nb,w11.heap.size=nb:=⟨_,rfl⟩;replace H:mx (λu=>I k u/\da u lo hi x fl G nd/\w.heap.size<=u.heap.size/\a7 u g 35 (dw L)/\a7 u nb 35 #[Su Sx b,Su Sx j]) (w11.alloc (SJ #[Su Sx b,Su Sx j] 35)):=by
    have h2:=H.old ((Old.refl w11).alloc (SJ #[Su Sx b,Su Sx j] 35));exact⟨h2.out.1,h2.out.2.1,h2.out.2.2.1,h2.out.2.2.2,hnbe▸a7.new w11 35 _⟩
   rw[hnbe]at hnb ⊢;clear hnbe;generalize w11.alloc _=w12 at H ⊢;refine ac λK hK=> ?_
   revert H;refine ey λw13 H=> ?_
   have c1:=H.out.2.2.2.2.cell 1;go_wp2;refine hK.out _ _ ?_;clear hK c1;refine ac λK hK=> ?_
   have key:∀(p':Nat) a u',p'=(if b=j then j+1 else j)->nA y (AS (some ⟨bt,0,none⟩)) (AS (some ⟨bR,0,none⟩)) (Su Sx l) (Su Sx p') (SE (some ⟨g,0,none⟩) (G+1) (G+1)) (AS (some ⟨nb,0,none⟩)) a->
    mx (λu=>I k u/\da u lo hi x fl G nd/\w.heap.size<=u.heap.size/\a7 u g 35 (dw L)/\a7 u nb 35 #[Su Sx b,Su Sx j]) u'->K a u':=by
    clear H;intro p' a u' hp' hF H;refine hK.out _ _ ?_;clear hK;obtain⟨u2,rfl⟩:=hF.out;clear hF;replace hp':=AI hp';refine ac λK hK=> ?_
    revert H;refine ey λw14 H=> ?_
    have c0:=H.out.2.2.2.2.cell 0;have c1:=H.out.2.2.2.2.cell 1;by_cases hs2:b=j/\(j:Int)=l
    .obtain⟨rfl,hl2⟩:=hs2;rw[if_pos ⟨rfl,hl2⟩]at hg;have e1:((b:Int)==(b:Int))=true:=by simp
     have e2:((b:Int)==l)=true:=by simp[hl2]
     replace hl2:=AI hl2;go_wp2;refine⟨m,TD m,k,p',l,⟨rfl,rfl,rfl,rfl,rfl,rfl,rfl⟩,?_,hk,?_,?_,H.out.1,H.out.2.1,H.out.2.2.1⟩
     .rw[hp'.out,if_pos trivial];exact hg.out
     .have:=hn.out;rw[hp'.out,if_pos trivial];omega
     .rw[hp'.out,if_pos trivial];omega
    .have hg2:=hg.out;rw[if_neg (show¬ ((b:Int)=(j:Int)/\(j:Int)=l)fromλh=>hs2 ⟨by omega,h.2⟩)]at hg2;obtain⟨g1,g2,g3⟩:=drop_cons hg2.symm;replace g2:=AI g2;clear hg2 hg;have key2:∀a u',nx y (AS (some ⟨bt,0,none⟩)) (AS (some ⟨bR,0,none⟩)) (Su Sx p') (SE (some ⟨g,0,none⟩) (G+1) (G+1)) (AS (some ⟨nb,0,none⟩)) a->
      mx (λu=>I k u/\da u lo hi x fl G nd/\w.heap.size<=u.heap.size/\a7 u g 35 (dw L)/\a7 u nb 35 #[Su Sx b,Su Sx j]) u'->K a u':=by
      clear H c0 c1;intro a u' hF H;refine hK.out _ _ ?_;clear hK;obtain⟨u3,rfl⟩:=hF.out;clear hF;refine ac λK hK=> ?_
      revert H;refine ey λw15 H=> ?_
      have c1:=H.out.2.2.2.2.cell 1;go_wp2;refine hK.out _ _ ?_;clear hK c1;refine ac λK hK=> ?_
      refine ao ?_;show aV _ _ _ (SG 0 (3+2)) ..;revert H;refine cx 0 3 2 (λN hN w16 H=> ?_) (by decide);simp only[zq1];have hcl:=clone_any H.out.2.2.2.1 hL (Nat.succ_pos _) (by have:=hT.g9;omega);go_wp2;refine hcl.mono ?_;rintro e' w17 ⟨g',Z,rfl,hg',hb',hO⟩;have hz:=H.out.2.2.1;have hI16:=H.out.1;replace H:=H.old hO;clear hcl;go_wp2;refine hN.out _ _ ?_;clear hN;refine kE (i:=3) (rest:=SG 4 1) (s:=do let d <- TX y #[SE (some ⟨g',0,none⟩) (G+1) (G+1+Z.length)];invoke d.target d.args) rfl rfl (λu=>by simp[Ul,resolve];rfl) (hy k w16 w17 L g' Z g1 hI16 hO.kq H.out.2.1 hb' hg' hz) (λj h=>by rcases h with⟨_,h,_⟩|⟨_,h,_⟩<;>cases h) (λv W' hr=> ?_) λch W' hr=> ?_
      .rcases hr with⟨bb,h,r1,r2,r3⟩|⟨_,h,_⟩
       .cases h;clear H;cases bb with
        |true=>
         have H:mx (λu=>I (k+1) u/\da u lo hi x fl G nd/\w.heap.size<=u.heap.size) W':=⟨r3,r1,r2⟩;clear r1 r2 r3;simp only[Sy,zq0];revert H;refine cx 4 1 0 (λN hN w18 H=> ?_) (by decide);simp only[zq1];go_wp2;refine hN.out _ _ (az (hK.out _ _ ?_));revert H;refine ey λw19 H=> ?_
         go_wp2;refine⟨m,TD m,k+1,p',j,⟨rfl,rfl,rfl,rfl,rfl,rfl,rfl⟩,?_,g3,?_,?_,H.out⟩
         .rw[g2.out,hp'.out,Tx];simp only[Int.natCast_inj]
         .have:=hn.out;rw[hp'.out];split <;>omega
         .rw[hp'.out];split <;>omega
        |false=>
         have H:mx (λu=>U2 u/\da u lo hi x fl G nd) W':=⟨r3,r1⟩;clear r1 r2 r3;simp only[Sy,zq0];revert H;refine cx 4 1 0 (λN hN w18 H=> ?_) (by decide);simp only[zq1];go_wp2;refine hN.out _ _ (az (hK.out _ _ ?_));revert H;refine ey λw19 H=> ?_
         go_wp2;exact bodyPost_ret (results_none rfl ..) rfl (.inl ⟨rfl,H.out.2,.inr H.out.1⟩)
       .cases h
      .rcases hr with⟨_,h,_⟩|⟨_,h,r⟩
       .cases h
       .cases h;exact⟨rfl,.inr ⟨_,rfl,r⟩⟩
     rcases Nat.lt_or_eq_of_le hbj with hlt|rfl
     .have e1:((b:Int)==(j:Int))=false:=by simp;omega
      go_wp2;exact key2 _ _ ⟨rfl,rfl,rfl,rfl,rfl,rfl,rfl,rfl⟩ H
     .have e1:((b:Int)==(b:Int))=true:=by simp
      have e2:((b:Int)==l)=false:=by simp;omega
      go_wp2;exact key2 _ _ ⟨rfl,rfl,rfl,rfl,rfl,rfl,rfl,rfl⟩ H
   revert H;refine ey λw14 H=> ?_
   have c0:=H.out.2.2.2.2.cell 0;have c1:=H.out.2.2.2.2.cell 1;rcases Nat.lt_or_eq_of_le hbj with hlt|rfl
   .have e1:((b:Int)==(j:Int))=false:=by simp;omega
    go_wp2;exact key j _ _ (by rw[if_neg (by omega)]) ⟨rfl,rfl,rfl,rfl,rfl,rfl,rfl,rfl,rfl⟩ H
   .have e1:((b:Int)==(b:Int))=true:=by simp
    go_wp2;exact key (b+1) _ _ (by rw[if_pos trivial]) ⟨rfl,rfl,rfl,rfl,rfl,rfl,rfl,rfl,rfl⟩ H
 .have hd:decide ((p:Int)<=(s.size:Int))=false:=by simp;omega
  have hkl:k=Ls.length:=by
   rw[show(MT.s ⟨s,fl,0⟩).size+1-p=0 from by dsimp only;omega]at hg;have:=List.drop_eq_nil_iff.1 (hg.symm:Ls.drop k=[]);omega
  subst hkl;go_wp2;exact bodyPost_end (results_none rfl ..) rfl (.inl ⟨rfl,H.out.2.1,.inl H.out.1⟩)
def fB(x:Nat)(s:ByteArray)(w:SF):Calls PH 56 #[vp x,SC s] w λe W=>
 e=SH (TK (U5 83) #[] #[AS (some ⟨w.heap.size+1,0,none⟩),AS (some ⟨w.heap.size,0,none⟩)])/\W=(w.alloc (SJ #[vp x] 23)).alloc (SJ #[SC s] 9):=by
 go_enter PH.func Tryz.func56 (by decide),Tryz.ntmps56
 go_wp2;go_ret;exact⟨rfl,rfl⟩
def sx(lo hi x fl G:Nat)(nd:Nd)(d:Nat)(W:SF)(U1:SF->Prop)(Z:Code->SF->Prop):Exit->Act->SF->Prop
 | .normal,_,u=>u.heap[d]?=W.heap[d]?/\u.heap[d+1]?=W.heap[d+1]?/\W.heap.size<=u.heap.size/\da u lo hi x fl G nd/\U1 u
 | .ret,_,u=>u.heap[d]?=W.heap[d]?/\u.heap[d+1]?=W.heap[d+1]?/\W.heap.size<=u.heap.size/\da u lo hi x fl G nd/\Z .ret u
 | .exit c,_,u=>u.heap[d]?=W.heap[d]?/\u.heap[d+1]?=W.heap[d+1]?/\W.heap.size<=u.heap.size/\da u lo hi x fl G nd/\Z (.exit c) u
 |_,_,_=>False
def da.same{w u lo hi x fl G nd}(h:da w lo hi x fl G nd)(k:∀b,b<hi->u.heap[b]?=w.heap[b]?)(z:w.heap.size<=u.heap.size):da u lo hi x fl G nd:=by
 have⟨q,c,T,e,a⟩:=h.rx;exact⟨h.lw,h.up,T0 h.sz z,h.tree,q,c,T,e,(k x h.up).trans a.blk,a.rep.keep λb c _=>k b c.2.2,λb c=>⟨SQ (a.low b c).1 z,(a.low b c).2⟩,a.had⟩
def da.put{w lo hi x fl G nd l o}(h:da w lo hi x fl G nd)(hl:hi<=l):da (w.putObj l o) lo hi x fl G nd:=
 h.same (λb hb=>T8 (by omega)) (by simp[TU])
def fc{h0:Array Obj}{a:Act}{w:SF}{Q:Exit->Act->SF->Prop}{t n lo hi x fl G bt bR:Nat}{nd:Nd}{s:ByteArray}{g assign body}{Ls:List Sp}
 (hg:a.eval g=TK (U5 83) #[] #[AS (some ⟨bt,0,none⟩),AS (some ⟨bR,0,none⟩)]) (hs:s.size<=300) (hfl:fl<256) (hLs:bs ⟨s,fl,0⟩ nd G (s.size+2) 0 (-1)=Ls)
 (I:Nat->SF->Prop) (Z:Code->SF->Prop)
 (hI:∀k W W',I k W->(∃r,W.heap[w.heap.size+1]?=some (Tc r))->Kq W.heap.size [x,w.heap.size+1] W W'->I k W')
 (hZ:∀c W W',Z c W->(∃r,W.heap[w.heap.size+1]?=some (Tc r))->Kq W.heap.size [w.heap.size+1] W W'->Z c W')
 (hB:∀k W,I k W->W.cell? ⟨bt,0,none⟩=some (SC s)/\W.cell? ⟨bR,0,none⟩=some (vp x))
 (a1:Tg->Act) (hassign:∀l v W K,K (a1 v) W->assign.wpIn (Fence.wide.inRound l) n PH (Exit.then K λ_ _ _=>False) {tmps:=a.tmps.setIfInBounds t v,defers:=[]} W)
 (hbody:∀k W L g' Zs,Ls[k]?=some L->I k W->da W lo hi x fl G nd->a7 W g' 35 (dw (L++Zs))->(∃W0,I k W0/\W0.heap.size<=g')->w.heap.size+2<=g'->w.heap.size+2<=W.heap.size->(∃r,W.heap[w.heap.size+1]?=some (Tc r))->W.heap[w.heap.size]?=some (SZ (some []))->
  body.wpIn (Fence.wide.inRound (w.heap.size+1)) n PH (sx lo hi x fl G nd w.heap.size W (I (k+1)) Z) (a1 (SE (some ⟨g',0,none⟩) (G+1) (G+1+Zs.length))) W)
 (X:da w lo hi x fl G nd) (H0:∀r,I 0 ((w.alloc (SZ (some []))).alloc (Tc r)))
 (hdone:∀W,da W lo hi x fl G nd->W.heap[w.heap.size]?=some (SZ (some []))->(I Ls.length W->Q .normal {a with defers:= {target:=Tj w.heap.size,args:=#[]}::a.defers} W)/\
  ∀c,Z c W->cL (br ek h0) c Q {a with defers:= {target:=Tj w.heap.size,args:=#[]}::a.defers} W):
 cL (br ek h0) (.rangeFunc g #[t] assign body) Q a w:=by
 refine g5 λfn=> ?_
 refine⟨{target:= .fn (U5 83) #[AS (some ⟨bt,0,none⟩),AS (some ⟨bR,0,none⟩)],args:=#[TK (.yield (w.heap.size+1)) #[] #[]]},83,#[TK (.yield (w.heap.size+1)) #[] #[],AS (some ⟨bt,0,none⟩),AS (some ⟨bR,0,none⟩)],λu=> ?_,λu=> ?_,bP (by decide),?_⟩
 .simp only[resolve,hg];simp[go_sem]
 .simp[go_sem]
 have⟨f,j⟩:∃f:LoopState->Option Code->Loop,f=λst pe=> {state:=st,pending:=pe,fn,tmps:=a.tmps,params:=#[t],assign,body,defers:=w.heap.size}:=⟨_,rfl⟩
 have⟨A,hA⟩:∃A,(w.alloc (SZ (some []))).alloc (Tc (fA fn a.tmps #[t] assign body w.heap.size))=A:=⟨_,rfl⟩;have hsz:A.heap.size=w.heap.size+2:=by rw[<- hA];simp
 have hL1:A.heap[w.heap.size+1]?=some (Tc (f Ti none)):=by
  rw[<- hA];have:=Ud (w.alloc (SZ (some []))) (Tc (f Ti none));rw[Tn]at this;rw[j]at this ⊢;exact this
 have hK1:A.heap[w.heap.size]?=some (SZ (some [])):=by
  rw[<- hA];exact(Below.heap_alloc _ _ _ (by simp)).trans (Ud w _)
 have hX1:da A lo hi x fl G nd:=by
  rw[<- hA];exact oA.old (I:=λw=>da w lo hi x fl G nd) (((Old.refl w).alloc _).alloc _) X
 have hI0:I 0 A:=by rw[<- hA];exact H0 _
 have hxw:x<w.heap.size:=SQ X.up X.sz;have hhw:hi<=w.heap.size:=X.sz;rw[hA];clear hA X H0;refine(nu (h0:=h0) (w:=A) (y:=TK (.yield (w.heap.size+1)) #[] #[]) (N:=λ_ _=>False)
  (λk W=>I k W/\W.heap[w.heap.size+1]?=some (Tc (f Ti none))/\W.heap[w.heap.size]?=some (SZ (some [])))
  (λW=>∃c,Z c W/\W.heap[w.heap.size+1]?=some (Tc (f TR (some c)))/\W.heap[w.heap.size]?=some (SZ (some [])))
  hLs hs hfl ?_ ?_ ?_ ?_ hX1 ⟨hI0,hL1,hK1⟩).mono ?_
 .rintro k W W' ⟨h1,h2,h3⟩ q;have k1:∀{b:Nat}{o},b≠x->W.heap[b]?=some o->W'.heap[b]?=some o:=λhb h=>(q.kp.2 _ (SI.1 h).1 λe=>hb (Sv.1 e)).trans h
  exact⟨hI _ _ _ h1 ⟨_,h2⟩ (q.mono (Sz _) λy hy _=>T5.2 (.inl (Sv.1 hy))),k1 (by omega) h2,k1 (by omega) h3⟩
 .rintro W W' ⟨c,h1,h2,h3⟩ o;have k1:∀{b:Nat}{y},W.heap[b]?=some y->W'.heap[b]?=some y:=λh=>(o.old _ (SI.1 h).1).trans h
  exact⟨c,hZ _ _ _ h1 ⟨_,h2⟩ o.kq,k1 h2,k1 h3⟩
 .exactλk W h=>hB k W h.1
 .rintro k W0 W L g' Zs hk ⟨i1,i2,i3⟩ q hr hb hg' hw0;have k1:∀{b:Nat}{o},b≠x->W0.heap[b]?=some o->W.heap[b]?=some o:=λhb h=>(q.kp.2 _ (SI.1 h).1 λe=>hb (Sv.1 e)).trans h
  have hl:=k1 (by omega) i2;have hd:=k1 (by omega) i3;have hIW:=hI _ _ _ i1 ⟨_,i2⟩ (q.mono (Sz _) λy hy _=>T5.2 (.inl (Sv.1 hy)));have hzW:=T0 hw0 q.kp.1;refine .inr ⟨n,λY d=>⟨w.heap.size+1,fn,a.tmps.setIfInBounds t (SE (some ⟨g',0,none⟩) (G+1) (G+1+Zs.length)),assign,body,?_,roundIn_of_wpIn trivial (hassign _ _ (ah W Y d) _ ?_)⟩⟩
  .have:=run_yield (P:=PH) (w:=ah W Y d) (args:=#[SE (some ⟨g',0,none⟩) (G+1) (G+1+Zs.length)]) hl (by rw[j];rfl);rw[j]at this;simp only[TX,Sem.run_bind,Sem.run_pure,Result.andThen,invoke];simp at this;exact this
  .refine⟨_,run_beginRound (w:=ah W Y d) hl (by rw[j]),?_⟩;have T:((ah W Y d).putObj (w.heap.size+1) (Tc {f Ti none with state:=U6})).heap[w.heap.size+1]?=some (Tc {f Ti none with state:=U6}):=U9 (SI.1 hl).1;have S:((ah W Y d).putObj (w.heap.size+1) (Tc {f Ti none with state:=U6})).heap[w.heap.size]?=some (SZ (some [])):=(T8 (by omega)).trans hd;have sz:((ah W Y d).putObj (w.heap.size+1) (Tc {f Ti none with state:=U6})).heap.size=W.heap.size:=by simp[TU,ah]
   have k0:Kq W.heap.size [w.heap.size+1] W (ah W Y d):=⟨⟨Sz _,λ_ _ _=>rfl⟩,rfl,rfl⟩;have kk:=k0.put (l:=w.heap.size+1) (λ_=>Sv.2 rfl) (Tc {f Ti none with state:=U6});have I2:=hI _ _ _ hIW ⟨_,hl⟩ (kk.mono (Sz _) λy hy _=>T5.2 (.inr hy));have R2:da ((ah W Y d).putObj (w.heap.size+1) (Tc {f Ti none with state:=U6})) lo hi x fl G nd:=da.put (w:=ah W Y d) (oA.old (I:=λw=>da w lo hi x fl G nd) (⟨λ_ _=>rfl,Sz _,rfl,rfl⟩:Old W (ah W Y d)) hr) (by omega);have hb2:a7 ((ah W Y d).putObj (w.heap.size+1) (Tc {f Ti none with state:=U6})) g' 35 (dw (L++Zs)):=(T8 (by omega)).trans hb;generalize (ah W Y d).putObj (w.heap.size+1) (Tc {f Ti none with state:=U6})=W2 at *;refine wpIn_mono (hbody k W2 L g' Zs hk I2 R2 hb2 ⟨W0,i1,hg'⟩ (by omega) (by omega) ⟨_,T⟩ S) ?_;have C:∀(dd:Option Code)(u:SF),u.heap[w.heap.size]?=W2.heap[w.heap.size]?->u.heap[w.heap.size+1]?=W2.heap[w.heap.size+1]?->da u lo hi x fl G nd->
    (Instr.endRound (w.heap.size+1) dd).run PH u=Tv (Ta dd.isNone) (u.putObj (w.heap.size+1) (Tc (f (if dd.isNone then Ti else TR) dd)))/\
    (u.putObj (w.heap.size+1) (Tc (f (if dd.isNone then Ti else TR) dd))).heap[w.heap.size+1]?=some (Tc (f (if dd.isNone then Ti else TR) dd))/\
    (u.putObj (w.heap.size+1) (Tc (f (if dd.isNone then Ti else TR) dd))).heap[w.heap.size]?=some (SZ (some []))/\
    Kq u.heap.size [w.heap.size+1] u (u.putObj (w.heap.size+1) (Tc (f (if dd.isNone then Ti else TR) dd)))/\da (u.putObj (w.heap.size+1) (Tc (f (if dd.isNone then Ti else TR) dd))) lo hi x fl G nd:=λdd u h1 h2 h3=>by
    have H:=h2.trans T;have:=run_endRound (P:=PH) dd H;rw[j]at this ⊢;exact⟨this,U9 (SI.1 H).1,(T8 (by omega)).trans (h1.trans S),(Kq.refl u).put (λ_=>Sv.2 rfl) _,h3.put (by omega)⟩
   have szp:∀(u:SF) o,(u.putObj (w.heap.size+1) o).heap.size=u.heap.size:=λu o=>by simp[TU]
   rintro e a3 u F;cases e with
   |normal=>
    obtain⟨h1,h2,h3,h4,h5⟩:=F;obtain⟨N1,N2,N3,N4,N5⟩:=C none u h1 h2 h4;exact⟨_,_,N1,.inl ⟨true,rfl,N5,by rw[szp];omega,hI _ _ _ h5 ⟨_,h2.trans T⟩ (N4.mono (Sz _) λy hy _=>T5.2 (.inr hy)),N2,N3⟩⟩
   |ret=>
    obtain⟨h1,h2,h3,h4,h5⟩:=F;obtain⟨N1,N2,N3,N4,N5⟩:=C (some .ret) u h1 h2 h4;exact⟨_,_,N1,.inl ⟨false,rfl,N5,by rw[szp];omega,_,hZ _ _ _ h5 ⟨_,h2.trans T⟩ N4,N2,N3⟩⟩
   |exit c=>
    obtain⟨h1,h2,h3,h4,h5⟩:=F;obtain⟨N1,N2,N3,N4,N5⟩:=C (some (.exit c)) u h1 h2 h4;exact⟨_,_,N1,.inl ⟨false,rfl,N5,by rw[szp];omega,_,hZ _ _ _ h5 ⟨_,h2.trans T⟩ N4,N2,N3⟩⟩
   |goto t=>exact F.elim
   |panic ch=>exact F.elim
   |outgrown=>exact F.elim
 .rintro e W (⟨rfl,hr,h⟩|⟨_,_,h⟩)
  .rcases h with⟨i1,i2,i3⟩|⟨c,i1,i2,i3⟩
   .have kk:Kq W.heap.size [w.heap.size+1] W (W.putObj (w.heap.size+1) (Tc {f Ti none with state:=Tw})):=(Kq.refl W).put (λ_=>Sv.2 rfl) _;refine⟨f Ti none,i2,by rw[j];simp,?_⟩;have:=(hdone (W.putObj (w.heap.size+1) (Tc {f Ti none with state:=Tw})) (hr.put (by omega)) ((T8 (by omega)).trans i3)).1 (hI _ _ _ i1 ⟨_,i2⟩ (kk.mono (Sz _) λy hy _=>T5.2 (.inr hy)));rw[j]at this ⊢;exact this
   .have kk:Kq W.heap.size [w.heap.size+1] W (W.putObj (w.heap.size+1) (Tc {f TR (some c)with state:=Tw})):=(Kq.refl W).put (λ_=>Sv.2 rfl) _;refine⟨f TR (some c),i2,by rw[j];simp,?_⟩;have:=(hdone (W.putObj (w.heap.size+1) (Tc {f TR (some c)with state:=Tw})) (hr.put (by omega)) ((T8 (by omega)).trans i3)).2 c (hZ _ _ _ i1 ⟨_,i2⟩ kk);rw[j]at this ⊢;exact this
  .exact h.elim
end
section
open Go.RowKit Go.Conc
attribute [local instance] fI
attribute [local go_sem] TE
def aE(u:SF)(d G:Nat)(Ls:List Sp)(v:Tg):Prop:=∃vs:List Tg,u.ownsRow d 28 1 v Ls.length vs/\vs.length=Ls.length/\
 ∀(i:Nat)(L:Sp)(y:Tg),Ls[i]?=some L->vs[i]?=some y->∃(g:Nat)(Z:Sp),y=SE (some ⟨g,0,none⟩) (G+1) (G+1+Z.length)/\d<=g/\a7 u g 35 (dw (L++Z))
def aE.keep{u u':SF}{d G Ls v}(h:aE u d G Ls v)(k:∀b,d<=b->b<u.heap.size->v.ownBlock≠some b->u'.heap[b]?=u.heap[b]?)(kv:∀b,v.ownBlock=some b->u'.heap[b]?=u.heap[b]?):aE u' d G Ls v:=by
 obtain⟨vs,h1,h2,h3⟩:=h;refine⟨vs,bt h1 λb hb _=>kv b hb,h2,λi L y a b=> ?_⟩;obtain⟨g,Z,e,hg,hb⟩:=h3 i L y a b;refine⟨g,Z,e,hg,?_⟩;by_cases hv:v.ownBlock=some g
 .exact(kv g hv).trans hb
 .exact(k g hg hb.lt hv).trans hb
def aE.kept{u u':SF}{d G Ls v}(h:aE u d G Ls v)(k:∀b,d<=b->b<u.heap.size->u'.heap[b]?=u.heap[b]?):aE u' d G Ls v:=
 h.keep (λb h1 h2 _=>k b h1 h2) λb hb=>by
  obtain⟨vs,h1,_⟩:=h;exact k b (eU h1 hb).2 (eU h1 hb).1
instance{d G Ls v}:oA λu=>aE u d G Ls v:=⟨λh k=>k.kept λb _ hb=>h.old b hb⟩
instance{w X}:oA (Kq w.heap.size X w):=⟨λh k=>k.trans (h.kq.mono k.kp.1 λ_ h _=>h)⟩
def takeN(n:Int)(Ls:List Sp):List Sp:=if n<0 then Ls else Ls.take n.toNat
def i4{u:SF}{d e v n vs}(h:u.ownsRow d e 1 v n vs):∃o c,v=SE o n c:=by
 rcases h.2 with⟨rfl,rfl⟩|⟨g,c,f,rfl,_⟩<;>exact⟨_,_,rfl⟩
def jB:(PH.info? 28).map (λi=>(i.zero,i.size,i.bytes))=some (some (SE none 0 0),1,24):=by kernel_rfl
def lb{h0:Array Obj}{w:SF}{lo hi x fl G:Nat}{nd:Nd}{s:ByteArray}{n:Int}{Ls:List Sp}(h:da w lo hi x fl G nd)(hs:s.size<=300)(hfl:fl<256)(hLs:bs ⟨s,fl,0⟩ nd G (s.size+2) 0 (-1)=Ls):
 cb (br ek h0) 45 #[vp x,SC s,Su Sx n] w λe W=>∃v d,e=SH (Td #[v,Te])/\w.heap.size<=d/\aE W d G (takeN n Ls) v/\da W lo hi x fl G nd/\Kq w.heap.size [x] w W:=by
 refine en (bP (by decide)) (PH.func Tryz.func45 (by decide)) rfl ?_;simp only[Tryz.ntmps45,SR,SV,SY,T4,T7,SL,SK,SS,SM,SX,SW];have hxw:x<w.heap.size:=SQ h.up h.sz;have hhi:hi<=w.heap.size:=h.sz;have H:mx (λu=>Kq w.heap.size [x] w u/\da u lo hi x fl G nd) w:=⟨Kq.refl w,h⟩;clear h;refine ac λK hK=> ?_
 revert H;refine ey λw1 H=> ?_
 go_wp2;refine hK.out _ _ ?_;clear hK;have hz1:=H.out.1.kp.1;obtain⟨b5,hb5⟩:∃b,w1.heap.size=b:=⟨_,rfl⟩;replace H:mx (λu=>Kq w.heap.size [x] w u/\da u lo hi x fl G nd/\a7 u b5 3 #[Su Sx n]) (w1.alloc (SJ #[Su Sx n] 3)):=by
  have h2:=H.old ((Old.refl w1).alloc (SJ #[Su Sx n] 3));exact⟨h2.out.1,h2.out.2,hb5▸a7.new w1 3 _⟩
 rw[hb5]at hz1 ⊢;clear hb5;generalize w1.alloc _=w2 at H ⊢;refine ac λK hK=> ?_
 revert H;refine ey λw3 H=> ?_
 have hd:decide ((300:Int)<(s.size:Int))=false:=by simp;omega
 go_wp2;refine hK.out _ _ ?_;clear hK hd;refine ac λK hK=> ?_
 revert H;refine ey λw4 H=> ?_
 go_wp2;refine hK.out _ _ ?_;clear hK;have hz4:=H.out.1.kp.1;have hb54:=H.out.2.2.lt;obtain⟨b8,hb8⟩:∃b,w4.heap.size=b:=⟨_,rfl⟩;replace H:mx (λu=>Kq w.heap.size [x] w u/\da u lo hi x fl G nd/\a7 u b5 3 #[Su Sx n]/\a7 u b8 51 #[SE none 0 0]) (w4.alloc (SJ #[SE none 0 0] 51)):=by
  have h2:=H.old ((Old.refl w4).alloc (SJ #[SE none 0 0] 51));exact⟨h2.out.1,h2.out.2.1,h2.out.2.2,hb8▸a7.new w4 51 _⟩
 rw[hb8]at hz4 hb54 ⊢;clear hb8;generalize w4.alloc _=w5 at H ⊢;refine ac λK hK=> ?_
 refine ac λK2 hK2=> ?_
 revert H;refine ey λw6 H=> ?_
 have hcl:=fB x s w6;go_wp2;refine hcl.mono ?_;rintro e' w7 ⟨rfl,rfl⟩;clear hcl;have hb86:=H.out.2.2.2.lt;obtain⟨bR,hbr⟩:∃b,w6.heap.size=b:=⟨_,rfl⟩;replace H:mx (λu=>Kq w.heap.size [x] w u/\da u lo hi x fl G nd/\a7 u b5 3 #[Su Sx n]/\a7 u b8 51 #[SE none 0 0]/\a7 u bR 23 #[vp x]/\a7 u (bR+1) 9 #[SC s]/\bR+2<=u.heap.size) ((w6.alloc (SJ #[vp x] 23)).alloc (SJ #[SC s] 9)):=by
  have h2:=H.old (((Old.refl w6).alloc (SJ #[vp x] 23)).alloc (SJ #[SC s] 9));refine⟨h2.out.1,h2.out.2.1,h2.out.2.2.1,h2.out.2.2.2,?_,?_,by simp;omega⟩
  .exact hbr▸(a7.new w6 23 #[vp x]).kq ((Kq.refl _).alloc (Sz _) _) (a7.new w6 23 #[vp x]).lt Sw
  .have:=a7.new (w6.alloc (SJ #[vp x] 23)) 9 #[SC s];rw[Tn,hbr]at this;exact this
 rw[hbr]at hb86 ⊢;clear hbr;generalize Tm (Tm w6 _) _=w8 at H ⊢;go_wp2;refine hK2.out _ _ ?_;clear hK2;refine ec ?_;obtain⟨B,hB⟩:∃b,w8.heap.size=b:=⟨_,rfl⟩;have hBr:=H.out.2.2.2.2.2.2;rw[hB]at hBr;refine fc (n:=4) (bt:=bR+1) (bR:=bR) (x:=x) (lo:=lo) (hi:=hi) (fl:=fl) (G:=G) (nd:=nd) (s:=s) rfl hs hfl hLs
  (λk u=>Kq w.heap.size [x] w u/\a7 u b5 3 #[Su Sx n]/\a7 u bR 23 #[vp x]/\a7 u (bR+1) 9 #[SC s]/\(n<0\/(k:Int)<=n)/\∃v,a7 u b8 51 #[v]/\aE u (B+2) G (Ls.take k) v/\k<=Ls.length)
  (λc u=>c= .exit 0/\Kq w.heap.size [x] w u/\∃v,a7 u b8 51 #[v]/\aE u (B+2) G (takeN n Ls) v) ?hI ?hZ ?hB ?a1 ?hassign ?hbody H.out.2.1 ?h0 ?hdone
 case hassign=>
  intro l v W K hK;gi_wp2
  exact hK
 case hI=>
  rintro k W W' ⟨h1,h2,h3,h4,h5,v,h6,h7,h8⟩ hl q;rw[hB]at q hl;have e1:=h1.kp.1;have ne:∀{b},w.heap.size<=b->b<B->b∉[x,B+1]:=λh1 h2 h=>by simp at h;omega
  exact⟨⟨⟨T0 h1.kp.1 q.kp.1,λb hb hn=>(q.kp.2 b (SQ hb h1.kp.1) λh=>by simp at h hn;omega).trans (h1.kp.2 b hb hn)⟩,q.os.trans h1.os,q.out.trans h1.out⟩,h2.kq q h2.lt (ne (by omega) (by omega)),h3.kq q h3.lt (ne (by omega) (by omega)),h4.kq q h4.lt (ne (by omega) (by omega)),h5,v,h6.kq q h6.lt (ne (by omega) (by omega)),h7.kept λb hb1 hb2=>q.kp.2 b hb2 λh=>by simp at h;omega,h8⟩
 case hZ=>
  rintro c W W' ⟨rfl,h1,v,h6,h7⟩ hl q;rw[hB]at q hl;have e1:=h1.kp.1;exact⟨rfl,⟨⟨T0 h1.kp.1 q.kp.1,λb hb hn=>(q.kp.2 b (SQ hb h1.kp.1) λh=>by simp at h hn;omega).trans (h1.kp.2 b hb hn)⟩,q.os.trans h1.os,q.out.trans h1.out⟩,v,h6.kq q h6.lt λh=>by simp at h;omega,h7.kept λb hb1 hb2=>q.kp.2 b hb2 λh=>by simp at h;omega⟩
 case hB=>exactλk W h=>⟨h.2.2.2.1.cell 0,h.2.2.1.cell 0⟩
 case h0=>
  intro r;have o:Old w8 ((w8.alloc (SZ (some []))).alloc (Tc r)):=((Old.refl w8).alloc _).alloc _;have h2:=H.old o;exact⟨h2.out.1,h2.out.2.2.1,h2.out.2.2.2.2.1,h2.out.2.2.2.2.2.1,by omega,_,h2.out.2.2.2.1,⟨[],World.ownsRow_nil ..,rfl,λi L y h=>by simp at h⟩,Tf _⟩
 case hdone=>
  intro W hr hd;rw[hB]at hd ⊢;have key:∀v,mx (λu=>Kq w.heap.size [x] w u/\da u lo hi x fl G nd/\u.heap[B]?=some (SZ (some []))/\a7 u b8 51 #[v]/\aE u (B+2) G (takeN n Ls) v) W->K {tmps:=#[vp x,SC s,Su Sx n,undef,undef,AS (some ⟨b5,0,none⟩),SE none 0 0,Te,AS (some ⟨b8,0,none⟩),undef,SC s,Su Sx s.size,Ta false,undef,vp x,SC s,TK (U5 83) #[] #[AS (some ⟨bR+1,0,none⟩),AS (some ⟨bR,0,none⟩)],undef,undef,undef,undef,undef,undef,undef,undef,undef,undef],defers:=[{target:=Tj B,args:=#[]}]} W:=by
   clear H;intro v H;refine hK.out _ _ ?_;clear hK;refine ac λK hK=> ?_
   have KD:oA λu:SF=>u.heap[B]?=some (SZ (some [])):=⟨λh k=>(h.old _ (SI.1 k).1).trans k⟩
   revert H;refine ey λw9 H=> ?_
   have c8:=H.out.2.2.2.1.cell 0;go_wp2;refine hK.out _ _ ?_;revert H;refine ey λw10 H=> ?_
   go_wp2;have hd2:=H.out.2.2.1;have hBx:B≠x:=by omega
   have o2:∀b,b≠B->(w10.putObj B (SZ none)).heap[b]?=w10.heap[b]?:=λb hb=>T8 (by omega)
   have z2:(w10.putObj B (SZ none)).heap.size=w10.heap.size:=by simp[TU]
   refine⟨by simp,.inl ⟨B,rfl,hd2,_,results_tmp2 rfl ..,v,B+2,rfl,by omega,?_,?_,?_⟩⟩
   .exact H.out.2.2.2.2.kept λb hb _=>o2 b (by omega)
   .exact H.out.2.1.same (λb hb=>o2 b (by omega)) (by rw[z2];exact Sz _)
   .exact H.out.1.put (λh=>by omega) _
  constructor
  .rintro⟨h1,h2,h3,h4,h5,v,h6,h7,h8⟩;refine key v ⟨h1,hr,hd,h6,?_⟩;have:takeN n Ls=Ls.take Ls.length:=by
    rw[List.take_length];unfold takeN;split
    .rfl
    .rw[List.take_of_length_le (by omega)]
   rw[this];exact h7
  .rintro c ⟨rfl,h1,v,h6,h7⟩;refine J0 ?_;exact key v ⟨h1,hr,hd,h6,h7⟩
 case hbody=>
  rintro k W L g' Zs hk ⟨h1,h2,h3,h4,h5,v,h6,h7,h8⟩ hr hb ⟨W0,hW0,hg0⟩ hg' hzW ⟨r,hl⟩ hd;rw[hB]at hg' hzW hl hd ⊢;obtain⟨vs,r1,r2,r3⟩:=h7;have hkl:(Ls.take k).length=k:=by simp;omega
  rw[hkl]at r1;obtain⟨o,c,rfl⟩:=i4 r1;have c8:=h6.cell 0;have c5:=h2.cell 0;by_cases hkn:(k:Int)=n
  .have e1:((k:Int)==n)=true:=by simp[hkn]
   replace hkn:=AI hkn;gi_wp2
   refine⟨rfl,rfl,Sz _,hr,rfl,h1,_,h6,vs,?_,?_,?_⟩<;>rw[show takeN n Ls=Ls.take k from by unfold takeN;rw[if_neg (by have:=hkn.out;omega),<- hkn.out];rfl]
   .rw[hkl];exact r1
   .exact r2
   .exact r3
  .have e1:((k:Int)==n)=false:=by simp[hkn]
   obtain⟨i0,hi0,hz0,hz1,hz2⟩:=info_parts jB;have hSp:PH.underlying 51=some (.slice 28):=by kernel_rfl
   replace hkn:=AI hkn;have hk50:k<=400:=by have:=el (M:=⟨s,fl,0⟩) (d:=nd) (G:=G) (s.size+2) 0 (-1);rw[hLs]at this;omega
   gi_wp2_with (first |(gi_at_builtin;refine wpListIn_append_own_at _ rfl (.tmp 22) (.tmp 24) 51 rfl (B+2) 28 i0 (SE none 0 0) 1 24 hSp hi0 hz0 hz1 hz2 rfl (by decide) (SE o k c) k vs rfl ?c0 ⟨W.heap.size,0,none⟩ 1 1 [SE (some ⟨g',0,none⟩) (G+1) (G+1+Zs.length)] rfl rfl ?c1 ?c2 ?c3 ?c4 ?c5 ?_)|fail)
   case c0=>exact bt r1 λb _ hb=>Below.heap_alloc _ _ _ hb
   case c1=>exact lw W 28 _
   case c2=>exact one_one rfl
   case c3=>unfold maxLen;omega
   case c4=>omega
   case c5=>simp;omega
   intro v' w1 hown hgrow _ hat;have ob:∀b,o.map (·.block)=some b->B+2<=b/\W.heap[b]?≠none/\∀cs,¬ a7 W b 35 cs:=λb e=>by
    rcases r1.2 with⟨h,_⟩|⟨g,cp,cur,h,hg,hc,_⟩
    .cases h;cases e
    .cases h;cases e;refine⟨hg,by rw[hc];simp,λcs hb=> ?_⟩;unfold a7 at hb;rw[hc]at hb;simp at hb
   have ow:(SE o k c).ownBlock=o.map (·.block):=by cases o<;>rfl
   have hsz:=hgrow.size;simp only[Tn]at hsz;have hk1:∀b,b<W.heap.size->o.map (·.block)≠some b->w1.heap[b]?=W.heap[b]?:=λb hb hn=>(hgrow.block b (by simp;omega) (by rw[ow];exactλe=>hn e.symm)).trans (Below.heap_alloc _ _ _ hb)
   have hlow:∀b,b<B+2->w1.heap[b]?=W.heap[b]?:=λb hb=>hk1 b (by omega) λe=>by have:=(ob b e).1;omega
   obtain⟨o2,c2,rfl⟩:=i4 hown;have e8:w1.heap[b8]?=W.heap[b8]?:=hlow b8 (by omega);have h68:a7 w1 b8 51 _:=e8.trans h6;have c82:=h68.cell 0;have f82:=h68.frozen 0;have hnew:a7 (w1.setCell ⟨b8,0,none⟩ (SE o2 (k+1) c2)) b8 51 #[SE o2 (k+1) c2]:=by
    have:=h68.bI 0 (SE o2 (k+1) c2);simpa using this
   have hset:∀b,b≠b8->(w1.setCell ⟨b8,0,none⟩ (SE o2 (k+1) c2)).heap[b]?=w1.heap[b]?:=λb hb=>Below.heap_setCell w1 ⟨b8,0,none⟩ _ b hb
   have hss:(w1.setCell ⟨b8,0,none⟩ (SE o2 (k+1) c2)).heap.size=w1.heap.size:=by simp
   have hOs:=hgrow.os;have hOu:=hgrow.output;gi_wp2
   have hfar:∀b,b<B+2->b≠b8->(w1.setCell ⟨b8,0,none⟩ (SE o2 (k+1) c2)).heap[b]?=W.heap[b]?:=λb h1 h2=>(hset b h2).trans (hlow b h1)
   have hcl:∀g cs,B+2<=g->a7 W g 35 cs->a7 (w1.setCell ⟨b8,0,none⟩ (SE o2 (k+1) c2)) g 35 cs:=λg cs hg h=>(hset g (by omega)).trans ((hk1 g h.lt λe=>(ob g e).2.2 _ h).trans h)
   have hkl2:(Ls.take (k+1)).length=k+1:=by have:=(T9.1 hk).1;simp;omega
   have hk2:=(T9.1 hk).1;refine⟨hfar B (by omega) (by omega),hfar (B+1) (by omega) (by omega),by rw[hss];omega,hr.same (λb hb=>hfar b (by omega) (by omega)) (by rw[hss];omega),
    ⟨⟨by rw[hss];have:=h1.kp.1;omega,λb hb hn=>(hfar b (by omega) (by omega)).trans (h1.kp.2 b hb hn)⟩,hOs.trans h1.os,hOu.trans h1.out⟩,
    (hfar b5 (by omega) (by omega)).trans h2,(hfar bR (by omega) (by omega)).trans h3,(hfar (bR+1) (by omega) (by omega)).trans h4,by have:=hkn.out;omega,_,hnew,⟨vs++[SE (some ⟨g',0,none⟩) (G+1) (G+1+Zs.length)],?_,?_,?_⟩,by omega⟩
   .rw[hkl2];exact bt hown λb hb _=>hset b λe=>by have:=eU hown hb;omega
   .rw[hkl2];simp[r2,hkl]
   .intro i L' y hi hy;by_cases hik:i<k
    .rw[TP,if_pos (by omega)]at hi;rw[Tu (by omega)]at hy;obtain⟨g,Z,rfl,hg,hb0⟩:=r3 i L' y (by rw[TP,if_pos hik];exact hi) hy;exact⟨g,Z,rfl,hg,hcl g _ hg hb0⟩
    .have hi2:=(T9.1 hi).1;obtain rfl:i=k:=by omega
     rw[TP,if_pos (by omega),hk]at hi;cases hi;rw[List.getElem?_append_right (by omega)]at hy;have:i-vs.length=0:=by omega
     rw[this]at hy;cases hy;exact⟨g',Zs,rfl,hg',hcl g' _ hg' hb⟩
end
section
open Go.RowKit Go.Conc
attribute [local instance] fI
def iE{h0:Array Obj}{w:SF}{lo hi x fl G:Nat}{nd:Nd}{s:ByteArray}{n:Int}{Ls:List Sp}(h:da w lo hi x fl G nd)(hs:s.size<=300)(hfl:fl<256)(hLs:bs ⟨s,fl,0⟩ nd G (s.size+2) 0 (-1)=Ls):
 cb (br ek h0) 25 #[vp x,SC s,Su Sx n] w λe W=>∃v d,e=SH (Td #[v,Su Sx 0])/\w.heap.size<=d/\aE W d G (takeN n Ls) v/\da W lo hi x fl G nd/\Kq w.heap.size [x] w W:=by
 refine bu (bP (by decide)) (λw' h=>by obtain⟨_,_,h,_⟩:=h;cases h) (PH.func Tryz.func25 (by decide)) rfl ?_;simp only[Tryz.ntmps25,SR,SV,SY,T4,T7,SL,SK,SS,SM,SX,SW];have H:mx (λu=>Kq w.heap.size [x] w u/\da u lo hi x fl G nd) w:=⟨Kq.refl w,h⟩;clear h;refine ac (λK hK=> ?_);revert H;refine ey λw1 H=> ?_
 go_wp2;refine hK.out _ _ ?_;clear hK K;refine ac (λK hK=> ?_);refine ao ?_;show aV _ _ _ (SG 0 (3+6)) _ _;revert H;refine cx 0 3 6 (λN hN w2 H=> ?_) (by decide);simp only[zq1];go_wp2;refine hN.out _ _ ?_;clear hN N;refine bF (f:=45) (i:=3) (rest:=SG 4 (5+0)) rfl rfl (λu=>by simp[go_sem]) (bP (by decide)) (lb (n:=n) H.out.2 hs hfl hLs) (λv w3 l=> ?_) λch w3 l=>by have⟨_,_,h,_⟩:=l;cases h
 have⟨v1,d,e,hd,A,r,k⟩:=l;obtain rfl:=(Ending.returned.inj e).symm;clear e l;replace hd:=T0 H.out.1.kp.1 hd;replace H:mx (λu=>Kq w.heap.size [x] w u/\da u lo hi x fl G nd/\aE u d G (takeN n Ls) v1) w3:=⟨H.out.1.trans (k.mono H.out.1.kp.1 λ_ h _=>h),r,A⟩;clear A r k;simp only[SU,SO,SN];simp only[Sy,zq0];revert H;refine cx 4 5 0 (λN hN w4 H=> ?_) (by decide);simp only[zq1];go_wp2;refine hN.out _ _ (az (hK.out _ _ ?_));clear hN N hK K;refine ac λK hK=> ?_
 revert H;refine ey λw5 H=> ?_
 have hL:=uF w5;go_wp2;refine hL.mono ?_;rintro e' w6 ⟨rfl,y⟩;replace H:=H.old ⟨λb hb=>y.block b hb,y.size,y.os,y.output⟩;clear hL y;go_wp2;refine hK.out _ _ ?_;clear hK;revert H;refine ey λw7 H=> ?_
 go_wp2;go_ret2
 exact⟨_,d,rfl,hd,H.out.2.2,H.out.2.1,H.out.1⟩
def PH.Nk:Go.Shelf.Ren:=⟨λ|137=>32|217=>51|266=>72|n=>n,λ|3=>3|5=>5|9=>9|n=>n,λ|n=>n⟩
def PH.lays137:Go.Proofs.Lays.n137 PH PH.Nk:= {
 mixed:=by kernel_rfl
 f137:=(PH.func Tryz.func32 (by decide)).trans (congrArg some (by kernel_rfl))
 f217:=(PH.func Tryz.func51 (by decide)).trans (congrArg some (by kernel_rfl))
 f266:=(PH.func Tryz.func72 (by decide)).trans (congrArg some (by kernel_rfl))
 t3:=(congrFun (aK ..) _).trans Tryz.underlying3
 a3:=λw=>(dP ..).trans (Tryz.isAgg3 w)
 z3:=λw=>(dk ..).trans (Tryz.sizeOf3 w)
 v3:=λw=>(cz ..).trans (Tryz.zeroValue3 w)
 t5:=(congrFun (aK ..) _).trans Tryz.underlying5
 a5:=λw=>(dP ..).trans (Tryz.isAgg5 w)
 z5:=λw=>(dk ..).trans (Tryz.sizeOf5 w)
 v5:=λw=>(cz ..).trans (Tryz.zeroValue5 w)
 t9:=(congrFun (aK ..) _).trans Tryz.underlying9
 a9:=λw=>(dP ..).trans (Tryz.isAgg9 w)
 z9:=λw=>(dk ..).trans (Tryz.sizeOf9 w)
 v9:=λw=>(cz ..).trans (Tryz.zeroValue9 w)}
def PH.QP:Go.Shelf.Ren:=⟨λ|166=>86|240=>52|276=>73|n=>n,λ|0=>0|3=>3|4=>4|5=>5|9=>9|20=>20|37=>86|70=>89|72=>91|75=>81|80=>94|164=>146|n=>n,λ|n=>n⟩
def PH.lays166:Go.Proofs.Lays.n166 PH PH.QP:= {
 mixed:=by kernel_rfl
 f166:=(PH.func Tryz.func86 (by decide)).trans (congrArg some (by kernel_rfl))
 f240:=(PH.func Tryz.func52 (by decide)).trans (congrArg some (by kernel_rfl))
 f276:=(PH.func Tryz.func73 (by decide)).trans (congrArg some (by kernel_rfl))
 t0:=(congrFun (aK ..) _).trans Tryz.underlying0
 a0:=λw=>(dP ..).trans (Tryz.isAgg0 w)
 z0:=λw=>(dk ..).trans (Tryz.sizeOf0 w)
 v0:=λw=>(cz ..).trans (Tryz.zeroValue0 w)
 t3:=(congrFun (aK ..) _).trans Tryz.underlying3
 a3:=λw=>(dP ..).trans (Tryz.isAgg3 w)
 z3:=λw=>(dk ..).trans (Tryz.sizeOf3 w)
 v3:=λw=>(cz ..).trans (Tryz.zeroValue3 w)
 t4:=(congrFun (aK ..) _).trans Tryz.underlying4
 a4:=λw=>(dP ..).trans (Tryz.isAgg4 w)
 z4:=λw=>(dk ..).trans (Tryz.sizeOf4 w)
 v4:=λw=>(cz ..).trans (Tryz.zeroValue4 w)
 t9:=(congrFun (aK ..) _).trans Tryz.underlying9
 a9:=λw=>(dP ..).trans (Tryz.isAgg9 w)
 z9:=λw=>(dk ..).trans (Tryz.sizeOf9 w)
 v9:=λw=>(cz ..).trans (Tryz.zeroValue9 w)
 t20:=(congrFun (aK ..) _).trans Tryz.underlying20
 a20:=λw=>(dP ..).trans (Tryz.isAgg20 w)
 z20:=λw=>(dk ..).trans (Tryz.sizeOf20 w)
 v20:=λw=>(cz ..).trans (Tryz.zeroValue20 w)
 t37:=(congrFun (aK ..) _).trans Tryz.underlying86
 a37:=λw=>(dP ..).trans (Tryz.isAgg86 w)
 z37:=λw=>(dk ..).trans (Tryz.sizeOf86 w)
 v37:=λw=>(cz ..).trans (Tryz.zeroValue86 w)
 t70:=(congrFun (aK ..) _).trans Tryz.underlying89
 a70:=λw=>(dP ..).trans (Tryz.isAgg89 w)
 z70:=λw=>(dk ..).trans (Tryz.sizeOf89 w)
 v70:=λw=>(cz ..).trans (Tryz.zeroValue89 w)
 t72:=(congrFun (aK ..) _).trans Tryz.underlying91
 a72:=λw=>(dP ..).trans (Tryz.isAgg91 w)
 z72:=λw=>(dk ..).trans (Tryz.sizeOf91 w)
 v72:=λw=>(cz ..).trans (Tryz.zeroValue91 w)
 t75:=(congrFun (aK ..) _).trans Tryz.underlying81
 a75:=λw=>(dP ..).trans (Tryz.isAgg81 w)
 z75:=λw=>(dk ..).trans (Tryz.sizeOf81 w)
 v75:=λw=>(cz ..).trans (Tryz.zeroValue81 w)
 t164:=(congrFun (aK ..) _).trans Tryz.underlying146
 a164:=λw=>(dP ..).trans (Tryz.isAgg146 w)
 z164:=λw=>(dk ..).trans (Tryz.sizeOf146 w)
 v164:=λw=>(cz ..).trans (Tryz.zeroValue146 w)}
def PH.Qu:Go.Shelf.Ren:=⟨λ|167=>33|240=>52|276=>73|n=>n,λ|0=>0|4=>4|5=>5|9=>9|20=>20|37=>86|70=>89|72=>91|75=>81|80=>94|164=>146|n=>n,λ|n=>n⟩
def PH.lays167:Go.Proofs.Lays.n167 PH PH.Qu:= {
 mixed:=by kernel_rfl
 f167:=(PH.func Tryz.func33 (by decide)).trans (congrArg some (by kernel_rfl))
 f240:=(PH.func Tryz.func52 (by decide)).trans (congrArg some (by kernel_rfl))
 f276:=(PH.func Tryz.func73 (by decide)).trans (congrArg some (by kernel_rfl))
 t0:=(congrFun (aK ..) _).trans Tryz.underlying0
 a0:=λw=>(dP ..).trans (Tryz.isAgg0 w)
 z0:=λw=>(dk ..).trans (Tryz.sizeOf0 w)
 v0:=λw=>(cz ..).trans (Tryz.zeroValue0 w)
 t4:=(congrFun (aK ..) _).trans Tryz.underlying4
 a4:=λw=>(dP ..).trans (Tryz.isAgg4 w)
 z4:=λw=>(dk ..).trans (Tryz.sizeOf4 w)
 v4:=λw=>(cz ..).trans (Tryz.zeroValue4 w)
 t5:=(congrFun (aK ..) _).trans Tryz.underlying5
 a5:=λw=>(dP ..).trans (Tryz.isAgg5 w)
 z5:=λw=>(dk ..).trans (Tryz.sizeOf5 w)
 v5:=λw=>(cz ..).trans (Tryz.zeroValue5 w)
 t9:=(congrFun (aK ..) _).trans Tryz.underlying9
 a9:=λw=>(dP ..).trans (Tryz.isAgg9 w)
 z9:=λw=>(dk ..).trans (Tryz.sizeOf9 w)
 v9:=λw=>(cz ..).trans (Tryz.zeroValue9 w)
 t20:=(congrFun (aK ..) _).trans Tryz.underlying20
 a20:=λw=>(dP ..).trans (Tryz.isAgg20 w)
 z20:=λw=>(dk ..).trans (Tryz.sizeOf20 w)
 v20:=λw=>(cz ..).trans (Tryz.zeroValue20 w)
 t37:=(congrFun (aK ..) _).trans Tryz.underlying86
 a37:=λw=>(dP ..).trans (Tryz.isAgg86 w)
 z37:=λw=>(dk ..).trans (Tryz.sizeOf86 w)
 v37:=λw=>(cz ..).trans (Tryz.zeroValue86 w)
 t70:=(congrFun (aK ..) _).trans Tryz.underlying89
 a70:=λw=>(dP ..).trans (Tryz.isAgg89 w)
 z70:=λw=>(dk ..).trans (Tryz.sizeOf89 w)
 v70:=λw=>(cz ..).trans (Tryz.zeroValue89 w)
 t72:=(congrFun (aK ..) _).trans Tryz.underlying91
 a72:=λw=>(dP ..).trans (Tryz.isAgg91 w)
 z72:=λw=>(dk ..).trans (Tryz.sizeOf91 w)
 v72:=λw=>(cz ..).trans (Tryz.zeroValue91 w)
 t75:=(congrFun (aK ..) _).trans Tryz.underlying81
 a75:=λw=>(dP ..).trans (Tryz.isAgg81 w)
 z75:=λw=>(dk ..).trans (Tryz.sizeOf81 w)
 v75:=λw=>(cz ..).trans (Tryz.zeroValue81 w)
 t164:=(congrFun (aK ..) _).trans Tryz.underlying146
 a164:=λw=>(dP ..).trans (Tryz.isAgg146 w)
 z164:=λw=>(dk ..).trans (Tryz.sizeOf146 w)
 v164:=λw=>(cz ..).trans (Tryz.zeroValue146 w)}
def PH.Qt:Go.Shelf.Ren:=⟨λ|169=>34|n=>n,λ|0=>0|3=>3|5=>5|9=>9|37=>86|70=>89|72=>91|127=>126|n=>n,λ|n=>n⟩
def PH.lays169:Go.Proofs.Lays.n169 PH PH.Qt:= {
 mixed:=by kernel_rfl
 f169:=(PH.func Tryz.func34 (by decide)).trans (congrArg some (by kernel_rfl))
 t0:=(congrFun (aK ..) _).trans Tryz.underlying0
 a0:=λw=>(dP ..).trans (Tryz.isAgg0 w)
 z0:=λw=>(dk ..).trans (Tryz.sizeOf0 w)
 v0:=λw=>(cz ..).trans (Tryz.zeroValue0 w)
 t3:=(congrFun (aK ..) _).trans Tryz.underlying3
 a3:=λw=>(dP ..).trans (Tryz.isAgg3 w)
 z3:=λw=>(dk ..).trans (Tryz.sizeOf3 w)
 v3:=λw=>(cz ..).trans (Tryz.zeroValue3 w)
 t9:=(congrFun (aK ..) _).trans Tryz.underlying9
 a9:=λw=>(dP ..).trans (Tryz.isAgg9 w)
 z9:=λw=>(dk ..).trans (Tryz.sizeOf9 w)
 v9:=λw=>(cz ..).trans (Tryz.zeroValue9 w)
 t37:=(congrFun (aK ..) _).trans Tryz.underlying86
 a37:=λw=>(dP ..).trans (Tryz.isAgg86 w)
 z37:=λw=>(dk ..).trans (Tryz.sizeOf86 w)
 v37:=λw=>(cz ..).trans (Tryz.zeroValue86 w)
 t70:=(congrFun (aK ..) _).trans Tryz.underlying89
 a70:=λw=>(dP ..).trans (Tryz.isAgg89 w)
 z70:=λw=>(dk ..).trans (Tryz.sizeOf89 w)
 v70:=λw=>(cz ..).trans (Tryz.zeroValue89 w)
 t72:=(congrFun (aK ..) _).trans Tryz.underlying91
 a72:=λw=>(dP ..).trans (Tryz.isAgg91 w)
 z72:=λw=>(dk ..).trans (Tryz.sizeOf91 w)
 v72:=λw=>(cz ..).trans (Tryz.zeroValue91 w)
 t127:=(congrFun (aK ..) _).trans Tryz.underlying126
 a127:=λw=>(dP ..).trans (Tryz.isAgg126 w)
 z127:=λw=>(dk ..).trans (Tryz.sizeOf126 w)
 v127:=λw=>(cz ..).trans (Tryz.zeroValue126 w)}
def PH.Qz(r:Go.Shelf.Ren)(a:r.t 5=5)(b:r.t 72=91):Proofs.Builder.Extra PH r where
 sizeBuilder:=by rw[b];kernel_rfl
 liesBuilder:=by rw[b];kernel_rfl
 t5:=by rw[a];exact(congrFun (aK ..) _).trans Tryz.underlying5
 a5:=λw=>by rw[a];exact(dP ..).trans (Tryz.isAgg5 w)
 z5:=λw=>by rw[a];exact(dk ..).trans (Tryz.sizeOf5 w)
 v5:=λw=>by rw[a];exact(cz ..).trans (Tryz.zeroValue5 w)
 infoByte:=by rw[a];kernel_rfl
 cellsByte:=by rw[a];kernel_rfl
 sizeByte:=by rw[a];kernel_rfl
 neB5:=by rw[a,b];decide
def Qm(s:ByteArray)(c:Int)(w:SF):Calls PH 32 #[SC s,Su Tr c] w λe w'=>e=SH (Su Sx (Lib.indexByte s.data.toList c.toNat.toUInt8))/\w'=w:=Any.strings_IndexByte PH.lays137 s c w
def xY(B b:Nat)(t:ByteArray)(w:SF):Prop:=Lib.IsBuilderF 91 5 B b (Tk t.data.toList) w
structure QD(B b:Nat)(w w':SF):Prop where
 low:Below B w w'
 kept:Lib.OthersKept 5 (some b) w w'
def QA(a b:ByteArray):Tk (a++b).data.toList=Tk a.data.toList++Lib.strCells b:=by
 simp[Tk,Lib.strCells]
def QO{B b:Nat}{t s:ByteArray}{w:SF}(h:xY B b t w)(hl:t.size+s.size<=140737488355328)(hB:B<=w.heap.size):
 Calls PH 86 #[AS (some ⟨b,0,none⟩),SC s] w λe w'=>e=SH (Td #[Su Sx s.size,Te])/\xY B b (t++s) w'/\QD B b w w':=
 (Any.Builder_WriteString_k PH.lays166 (PH.Qz _ rfl rfl) B b _ s w h (by simpa[Tk]using hl) hB).mono λe w' ⟨h1,h2,h3,h4⟩=>⟨h1,Tl (by rw[QA];exact h2),h3,h4⟩
def nw{B b:Nat}{t:ByteArray}{c:UInt8}{w:SF}(h:xY B b t w)(hl:t.size+1<=140737488355328)(hB:B<=w.heap.size):
 Calls PH 33 #[AS (some ⟨b,0,none⟩),Su Tr c.toNat] w λe w'=>e=SH Te/\xY B b (t++⟨#[c]⟩) w'/\QD B b w w':=
 (Any.Builder_WriteByte_k PH.lays167 (PH.Qz _ rfl rfl) B b _ _ w h (by simpa[Tk]using hl) hB).mono λe w' ⟨h1,h2,h3,h4⟩=>⟨h1,Tl (by rw[QA];exact h2),h3,h4⟩
def Ek{B b:Nat}{t:ByteArray}{w:SF}(h:xY B b t w)(hB:B<=w.heap.size):
 Calls PH 34 #[AS (some ⟨b,0,none⟩)] w λe w'=>e=SH (SC t)/\xY B b t w'/\QD B b w w':=
 (Any.Builder_String_any_k PH.lays169 (PH.Qz _ rfl rfl) B b t.data.toList w h hB).mono λe w' ⟨h1,h2,h3,h4⟩=>⟨h1,h2,h3,h4⟩
def Qo(w:SF):xY w.heap.size w.heap.size ⟨#[]⟩ (w.alloc (SJ #[AS none,SE none 0 0] 91)):=Lib.IsBuilderF.of (Lib.fresh_isBuilder _ _ w)
end
section
open Go.RowKit Go.Conc
attribute [local instance] fI
attribute [local go_sem] TE
def catch_idle(p q:Addr)(w:SF):CallsD PH 85 #[AS (some p),AS (some q)] Tp w λe u' w'=>e=SH (Td #[])/\u'=Tp/\w'=w:=by
 refine callsD_of_wpS (PH.func Tryz.func85 (by decide)) rfl λc₀ cs hu=> ?_
 apply wpS_seq;apply wpS_region;simp[wpOpsS,go_sem,recoverD,hu,Tryz.ntmps85,Exit.thenS];refine wpS_cond (t:=false) (by simp[Act.eval,U8]) ?_;simp only[Bool.false_eq_true,if_false];refine wpS_of_wp (wp_skip ?_);cases c₀;simp_all[bodyPostS,results,Tryz.results85,Exit.thenS]
def ms{w:SF}{bw:Nat}{v:Tg}{t:ByteArray}(h:w.cell? ⟨bw,0,none⟩=some (SC t)):Calls PH 60 #[v,AS (some ⟨bw,0,none⟩)] w λe W=>e=SH (SC t)/\W=w:=by
 go_enter PH.func Tryz.func60 (by decide),Tryz.ntmps60
 go_wp2;go_ret;exact⟨rfl,rfl⟩
def eg{e:TypeId}{b:Nat}{w w':SF}(h:Lib.OthersKept e (some b) w w'){g t cs}(hb:a7 w g t cs)(hg:g≠b)(ht:t≠e):a7 w' g t cs:=
 h g _ hb (by simpa using hg) λc fz e=>by cases e;exact ht rfl
def xY.keep{B b:Nat}{t:ByteArray}{w w':SF}(h:xY B b t w)(k:∀c cs tt z,B<=c->tt=91\/tt=5->w.heap[c]?=some (SJ cs tt z)->w'.heap[c]?=some (SJ cs tt z)):xY B b t w':=by
 have:∀{p},Lib.BuilderAtF 91 5 B b p (Tk t.data.toList) w->Lib.BuilderAtF 91 5 B b p (Tk t.data.toList) w':=λ{p} ⟨h1,v,h2,⟨h3,h4⟩,h5⟩=>by
  refine⟨h1,v,k _ _ _ _ h1 (.inl rfl) h2,⟨h3,?_⟩,h5⟩;rcases h4 with h4|⟨g,c,cur,fz,e1,e2,e3,e4⟩
  .exact .inl h4
  .exact .inr ⟨g,c,cur,fz,e1,e2,k _ _ _ _ e2 (.inr rfl) e3,e4⟩
 exact Or.imp this this h
instance{B b t}:oA (xY B b t):=⟨λh k=>xY.keep k λc cs tt z _ _ e=>(h.old _ (SI.1 e).1).trans e⟩
def ns{B:Nat}{w:SF}(h:B<=w.heap.size):xY B w.heap.size ⟨#[]⟩ (w.alloc (SJ #[AS none,SE none 0 0] 91)):=
 SP ⟨h,SE none 0 0,heap_alloc_new _ _,⟨rfl,.inl ⟨rfl,rfl⟩⟩,by simp[Value.ownBlock]⟩
structure i7(w:SF)(x bw b bR:Nat)(s t:ByteArray)(W:SF):Prop where
 kq:Kq w.heap.size [x] w W
 bw_:a7 W bw 9 #[SC t]
 b4:a7 W b 9 #[SC s]
 b5:a7 W (b+1) 137 #[TK (U5 60) #[] #[AS (some ⟨bw,0,none⟩)]]
 b6:a7 W (b+2) 9 #[SC ⟨#[]⟩]
 b7:a7 W (b+3) 81 #[Te]
 br_:a7 W bR 23 #[vp x]
 bt:a7 W (bR+1) 9 #[SC s]
def i7.keep{w:SF}{x bw b bR b8 b9:Nat}{s t:ByteArray}{W W':SF}(h:i7 w x bw b bR s t W)(n:x<b/\bw<b/\bw≠x/\b+3<b8/\b8<b9/\b9<bR)(q:∀c t' cs,t'≠5->c≠x->c≠b8->c≠b9->a7 W c t' cs->a7 W' c t' cs)(k:Kq w.heap.size [x] w W'):i7 w x bw b bR s t W':=
 ⟨k,q _ _ _ (by decide) (by omega) (by omega) (by omega) h.bw_,q _ _ _ (by decide) (by omega) (by omega) (by omega) h.b4,q _ _ _ (by decide) (by omega) (by omega) (by omega) h.b5,q _ _ _ (by decide) (by omega) (by omega) (by omega) h.b6,q _ _ _ (by decide) (by omega) (by omega) (by omega) h.b7,q _ _ _ (by decide) (by omega) (by omega) (by omega) h.br_,q _ _ _ (by decide) (by omega) (by omega) (by omega) h.bt⟩
instance{w x bw b bR s t}:oA (i7 w x bw b bR s t):=⟨λ{a c} h k=>by
 have q:∀{g t' cs},a7 a g t' cs->a7 c g t' cs:=λhb=>(h.old _ hb.lt).trans hb
 exact⟨k.kq.trans (h.kq.mono k.kq.kp.1 λ_ h _=>h),q k.bw_,q k.b4,q k.b5,q k.b6,q k.b7,q k.br_,q k.bt⟩⟩
def mx.new{I w}[oA I](H:mx I w)(t cs):mx (λu=>I u/\a7 u w.heap.size t cs) (w.alloc (SJ cs t)):=⟨H.old ((Old.refl w).alloc _),a7.new ..⟩
def ki{h0:Array Obj}{w:SF}{lo hi x fl G bw:Nat}{nd:Nd}{s t:ByteArray}{Ls:List Sp}(h:da w lo hi x fl G nd)(hs:s.size<=300)(ht:t.size<=300)(hfl:fl<256)(hLs:bs ⟨s,fl,0⟩ nd G (s.size+2) 0 (-1)=Ls)(hbw:a7 w bw 9 #[SC t])(hbx:bw≠x):
 cb (br ek h0) 58 #[vp x,SC s,TK (U5 60) #[] #[AS (some ⟨bw,0,none⟩)]] w λe W=>e=SH (Td #[SC (dT s t Ls ⟨#[]⟩ 0),Te])/\da W lo hi x fl G nd/\Kq w.heap.size [x] w W:=by
 refine en (bP (by decide)) (PH.func Tryz.func58 (by decide)) rfl ?_;simp only[Tryz.ntmps58,SR,SV,SY,T4,T7,SL,SK,SS,SM,SX,SW];have hxw:x<w.heap.size:=SQ h.up h.sz;have hhi:hi<=w.heap.size:=h.sz;have hbww:bw<w.heap.size:=hbw.lt;have hgo:Goes s.size G 0 (-1) Ls:=by rw[<- hLs];exact fp (M:=⟨s,fl,0⟩) h.tree _ _ _ _ (by omega) (Sz _) (by omega)
 have hlen:Ls.length<=302:=by have:=el (M:=⟨s,fl,0⟩) (d:=nd) (G:=G) (s.size+2) 0 (-1);rw[hLs]at this;omega
 have H:mx (λu=>Kq w.heap.size [x] w u/\da u lo hi x fl G nd/\a7 u bw 9 #[SC t]) w:=⟨Kq.refl w,h,hbw⟩;clear h;refine ac λK hK=> ?_
 revert H;refine ey λw1 H=> ?_
 go_wp2;refine hK.out _ _ ?_;clear hK;have hwb:=H.out.1.kp.1;replace H:=(((H.new 9 #[SC s]).new 137 #[TK (U5 60) #[] #[AS (some ⟨bw,0,none⟩)]]).new 9 #[SC ⟨#[]⟩]).new 81 #[Te];simp only[Tn,Nat.add_assoc,T4]at H;obtain⟨b,hb⟩:∃b,w1.heap.size=b:=⟨_,rfl⟩;rw[hb]at H hwb ⊢;clear hb;generalize Tm _ _=w2 at H ⊢;refine ac λK hK=> ?_
 revert H;refine ey λw3 H=> ?_
 have c4:=H.out.1.1.1.2.cell 0;have hd:decide ((300:Int)<(s.size:Int))=false:=by simp;omega
 go_wp2;refine hK.out _ _ ?_;clear hK c4 hd;refine ac (λK hK=> ?_);revert H;refine ey λw4 H=> ?_
 go_wp2;refine hK.out _ _ ?_;clear hK K;refine ac λK hK=> ?_
 revert H;refine ey λw5 H=> ?_
 go_wp2;refine hK.out _ _ ?_;clear hK;have h2:=H.old ((Old.refl w5).alloc (SJ #[AS none,SE none 0 0] 91));have hb8b:=H.out.2.lt;have hB8:=ns (T0 hwb (by omega):w.heap.size<=w5.heap.size);obtain⟨b8,hb8⟩:∃b,w5.heap.size=b:=⟨_,rfl⟩;replace H:=h2.also (xY w.heap.size b8 ⟨#[]⟩) (hb8▸hB8);rw[hb8]at hb8b ⊢;clear h2 hB8 hb8;generalize Tm w5 _=w6 at H ⊢;refine ac λK hK=> ?_
 revert H;refine ey λw7 H=> ?_
 go_wp2;refine hK.out _ _ ?_;clear hK;have hb98:b8<w7.heap.size:=by
  have h:=H.out.2;rcases h with h|h<;>exact Lib.BuilderAtF.lt h
 obtain⟨b9,hb9⟩:∃b,w7.heap.size=b:=⟨_,rfl⟩;replace H:=H.new 3 #[Su Sx 0];rw[hb9]at H hb98 ⊢;clear hb9;generalize Tm w7 _=w8 at H ⊢;refine ac λK hK=> ?_
 refine ac λK2 hK2=> ?_
 revert H;refine ey λw9 H=> ?_
 have c4:=H.out.1.1.1.1.1.2.cell 0;have hcl:=fB x s w9;go_wp2;refine hcl.mono ?_;rintro e' wA ⟨rfl,rfl⟩;clear hcl c4;have hb9r:=H.out.2.lt;replace H:=(H.new 23 #[vp x]).new 9 #[SC s];rw[Tn]at H;obtain⟨bR,hbr⟩:∃b,w9.heap.size=b:=⟨_,rfl⟩;rw[hbr]at H hb9r ⊢;clear hbr;generalize Tm (Tm w9 _) _=wB at H ⊢;have hRp:i7 w x bw b bR s t wB:=⟨H.out.1.1.1.1.1.1.1.1.1,H.out.1.1.1.1.1.1.1.1.2.2,H.out.1.1.1.1.1.1.1.2,H.out.1.1.1.1.1.1.2,H.out.1.1.1.1.1.2,H.out.1.1.1.1.2,H.out.1.2,H.out.2⟩;have hRx:da wB lo hi x fl G nd:=H.out.1.1.1.1.1.1.1.1.2.1;have hBl:xY w.heap.size b8 ⟨#[]⟩ wB:=H.out.1.1.1.2;have hE9:a7 wB b9 3 #[Su Sx 0]:=H.out.1.1.2;have hbrB:=H.out.2.lt;clear H;go_wp2;refine hK2.out _ _ ?_;clear hK2;refine ec ?_;obtain⟨B,hB⟩:∃b,wB.heap.size=b:=⟨_,rfl⟩;have hbB:bR+1<B:=by omega
 have hnum:x<b/\bw<b/\bw≠x/\b+3<b8/\b8<b9/\b9<bR:=⟨by omega,by omega,hbx,by omega,by omega,by omega⟩;refine fc (n:=4) (bt:=bR+1) (bR:=bR) (x:=x) (lo:=lo) (hi:=hi) (fl:=fl) (G:=G) (nd:=nd) (s:=s) rfl hs hfl hLs
  (λk u=>i7 w x bw b bR s t u/\k<=Ls.length/\∃(T:ByteArray)(e:Nat)(l:Int),xY w.heap.size b8 T u/\a7 u b9 3 #[Su Sx e]/\e<=s.size/\T.size<=600*k/\Goes s.size G e l (Ls.drop k)/\dT s t (Ls.drop k) T e=dT s t Ls ⟨#[]⟩ 0)
  (λc u=>False) ?hI ?hZ ?hB ?a1 ?hassign ?hbody hRx ?h0 ?hdone
 case hassign=>
  intro l v W K hK;gi_wp2
  exact hK
 case hZ=>exactλc W W' h=>h.elim
 case hB=>exactλk W h=>⟨h.1.bt.cell 0,h.1.br_.cell 0⟩
 case hI=>
  rintro k W W' ⟨h1,h2,T,e,l,h3,h4,h5⟩ ⟨r,hl⟩ q;rw[hB]at q hl;have ne:∀{c t' cs z},W.heap[c]?=some (SJ cs t' z)->c≠B+1:=λh e=>by rw[e,hl]at h;cases h
  have k1:∀c t' cs,t'≠5->c≠x->c≠b8->a7 W c t' cs->a7 W' c t' cs:=λc t' cs _ hx _ hb=>(q.kp.2 c hb.lt λh=>by simp at h;rcases h with h|h;exact hx h;exact ne hb h).trans hb
  have e1:=h1.kq.kp.1;refine⟨h1.keep hnum (λc t' cs a1 a2 a3 _=>k1 c t' cs a1 a2 a3) ⟨⟨T0 e1 q.kp.1,λb hb hn=>(q.kp.2 b (SQ hb e1) λh=>by simp at h hn;omega).trans (h1.kq.kp.2 b hb hn)⟩,q.os.trans h1.kq.os,q.out.trans h1.kq.out⟩,h2,T,e,l,h3.keep λc cs tt z hc _ hb=> ?_,k1 _ _ _ (by decide) (by omega) (by omega) h4,h5⟩;exact(q.kp.2 c (SI.1 hb).1 λh=>by simp at h;rcases h with h|h;omega;exact ne hb h).trans hb
 case h0=>
  intro r;have o:Old wB ((wB.alloc (SZ (some []))).alloc (Tc r)):=((Old.refl wB).alloc _).alloc _;have k1:∀c t' cs,t'≠5->c≠x->c≠b8->a7 wB c t' cs->a7 ((wB.alloc (SZ (some []))).alloc (Tc r)) c t' cs:=λc t' cs _ _ _ hb=>(o.old c hb.lt).trans hb
  exact⟨hRp.keep hnum (λc t' cs a1 a2 a3 _=>k1 c t' cs a1 a2 a3) (hRp.kq.trans (o.kq.mono hRp.kq.kp.1 λ_ h _=>h)),Tf _,⟨#[]⟩,0,-1,hBl.keep λc cs tt z _ _ hb=>(o.old c (SI.1 hb).1).trans hb,k1 _ _ _ (by decide) (by omega) (by omega) hE9,Tf _,Tf _,hgo,rfl⟩
 case hdone=>
  intro W hr hd;refine⟨?_,λc h=>h.elim⟩;rintro⟨h1,h2,T,e,l,h3,h4,h5,h6,h7,h8⟩;rw[hB]at hd ⊢;rw[Uq]at h8;have hTz:T.size<=600*302:=by omega
  have H:mx (λu=>i7 w x bw b bR s t u/\da u lo hi x fl G nd/\u.heap[B]?=some (SZ (some []))/\xY w.heap.size b8 T u/\a7 u b9 3 #[Su Sx e]) W:=⟨h1,hr,hd,h3,h4⟩;have KD:oA λu:SF=>u.heap[B]?=some (SZ (some [])):=⟨λh k=>(h.old _ (SI.1 k).1).trans k⟩
  clear h1 hr hd h3 h4 hRp hRx hBl hE9;refine hK.out _ _ ?_;clear hK;revert H;refine ey λwC H=> ?_
  obtain⟨h1,hr,hd,h3,h4⟩:=H.out;have c4:=h1.b4.cell 0;have c9:=h4.cell 0;have z1:=h1.kq.kp.1;have hez:(s.extract e s.size).size<=300:=by rw[Th];omega
  have hw1:=QO (s:=s.extract e s.size) h3 (by omega) z1;replace hw1:=AI hw1;go_wp2;refine hw1.out.mono ?_;rintro e1 W2 ⟨rfl,hB2,k2⟩;clear hw1 c4 c9;have z2:=k2.low.size;have hst:=Ek hB2 (by omega);replace hst:=AI hst;go_wp2;refine hst.out.mono ?_;rintro e2 W3 ⟨rfl,hB3,k3⟩;clear hst;have z3:=k3.low.size;have q3:∀c t' cs,t'≠5->c≠b8->a7 wC c t' cs->a7 W3 c t' cs:=λc t' cs h1 h2 hb=>eg k3.kept (eg k2.kept hb h2 h1) h2 h1
  have m6:=q3 _ _ _ (by decide) (by omega) h1.b6;have m7:=q3 _ _ _ (by decide) (by omega) h1.b7;have c6:=m6.cell 0;have f6:=m6.frozen 0;have c7:=m7.cell 0;have f7:=m7.frozen 0;have hd3:W3.heap[B]?=some (SZ (some [])):=k3.kept B _ (k2.kept B _ hd (by simp;omega) (by simp)) (by simp;omega) (by simp);go_wp2;have hz3:W3.heap.size=wC.heap.size\/wC.heap.size<=W3.heap.size:=by omega
  obtain⟨W4,hW4⟩:∃W4,(W3.setCell ⟨b+1+1,0,none⟩ (SC (T++s.extract e s.size))).setCell ⟨b+1+1+1,0,none⟩ Te=W4:=⟨_,rfl⟩;have g4:∀c,c≠b+1+1->c≠b+1+1+1->W4.heap[c]?=W3.heap[c]?:=λc n1 n2=>by
   rw[<- hW4];exact(Below.heap_setCell _ ⟨b+1+1+1,0,none⟩ _ c n2).trans (Below.heap_setCell W3 ⟨b+1+1,0,none⟩ _ c n1)
  have z4:W4.heap.size=W3.heap.size:=by rw[<- hW4];simp
  have os4:W4.os=W3.os/\W4.output=W3.output:=by rw[<- hW4];exact⟨by simp[World.setCell],by simp[World.setCell]⟩
  have m64:a7 W4 (b+1+1) 9 #[SC (T++s.extract e s.size)]:=by
   have:a7 (W3.setCell ⟨b+1+1,0,none⟩ (SC (T++s.extract e s.size))) (b+1+1) 9 #[SC (T++s.extract e s.size)]:=by simpa using m6.bI 0 (SC (T++s.extract e s.size))
   rw[<- hW4];exact(Below.heap_setCell _ ⟨b+1+1+1,0,none⟩ _ _ (by simp)).trans this
  have m74:a7 W4 (b+1+1+1) 81 #[Te]:=by
   have:=(show a7 (W3.setCell ⟨b+1+1,0,none⟩ (SC (T++s.extract e s.size))) (b+1+1+1) 81 #[Te]from(Below.heap_setCell W3 ⟨b+1+1,0,none⟩ _ _ (by simp)).trans m7).bI 0 Te;rw[<- hW4];simpa using this
  have hB4:W4.heap[B]?=some (SZ (some [])):=(g4 B (by omega) (by omega)).trans hd3;rw[hW4];refine⟨by simp,.inl ⟨B,rfl,hB4,by simp,.inr ⟨_,_,85,#[AS (some ⟨b+1+1,0,none⟩),AS (some ⟨b+1+1+1,0,none⟩)],rfl,λu=>by simp[go_sem],λY i=> ?_⟩⟩⟩;refine CallsD.mono (catch_idle _ _ _) ?_;rintro e3 u3 W6 ⟨rfl,rfl,hW6⟩;have g6:∀c,c≠B->W6.heap[c]?=W4.heap[c]?:=λc n=>by
   subst hW6;exact T8 n
  have m66:a7 W6 (b+1+1) 9 #[SC (T++s.extract e s.size)]:=(g6 _ (by omega)).trans m64;have m76:a7 W6 (b+1+1+1) 81 #[Te]:=(g6 _ (by omega)).trans m74;have z6:W6.heap.size=W3.heap.size:=by subst hW6;simpa using z4
  have c6:=m66.cell 0;have c7:=m76.cell 0;refine⟨Td #[SC (T++s.extract e s.size),Te],by simp[results,Tryz.results58,go_sem,c6,c7],?_⟩;have lowW:∀c,c<w.heap.size->W6.heap[c]?=wC.heap[c]?:=λc hc=>(g6 c (by omega)).trans ((g4 c (by omega) (by omega)).trans ((k3.low.block c hc).trans (k2.low.block c hc)))
  have os6:W6.os=W3.os/\W6.output=W3.output:=by subst hW6;exact os4
  refine⟨by rw[<- h8];rfl,hr.same (λc hc=>lowW c (by omega)) (by omega),⟨⟨by omega,λc hc hn=>(lowW c hc).trans (h1.kq.kp.2 c hc hn)⟩,?_,?_⟩⟩
  .exact os6.1.trans (k3.low.os.trans (k2.low.os.trans h1.kq.os))
  .exact os6.2.trans (k3.low.output.trans (k2.low.output.trans h1.kq.out))
 case hbody=>
  rintro k W L g' Zs hk ⟨h1,h2,T,e,l,h3,h4,h5,h6,h7,h8⟩ hr hb ⟨W0,hW0,hg0⟩ hg' hzW ⟨r,hl⟩ hd;rw[hB]at hg' hzW hl hd ⊢;have hk2:=(T9.1 hk).1;have hdk:Ls.drop k=L::Ls.drop (k+1):=by
   rw[TS hk2,(T9.1 hk).2]
  rw[hdk]at h7 h8;obtain⟨b0,j,hL,hL0,heb,hbj,hjs,_,hG2⟩:=h7;have hhd:=eP hL0;rw[dT,hhd]at h8;simp only[Tx]at h8;have hLz:(L++Zs)[0]?=some ((b0:Int),(j:Int)):=by rw[Tu (by omega)];exact hL0
  obtain⟨c1,c2⟩:=hY hb hLz;rw[TF]at c1 c2;rw[TG]at c2;obtain⟨nb,hnb⟩:∃nb,W.heap.size=nb:=⟨_,rfl⟩;obtain⟨W1,hW1⟩:∃W1,W.alloc (SJ #[Su Sx b0,Su Sx j] 35)=W1:=⟨_,rfl⟩;have o1:Old W W1:=hW1▸(Old.refl W).alloc _;have n1:a7 W1 nb 35 #[Su Sx b0,Su Sx j]:=hW1▸hnb▸a7.new W 35 _;have q1:∀c t' cs,a7 W c t' cs->a7 W1 c t' cs:=λc t' cs hb=>(o1.old c hb.lt).trans hb
  have d4:=(q1 _ _ _ h1.b4).cell 0;have d9:=(q1 _ _ _ h4).cell 0;have dn0:=n1.cell 0;have hBl1:xY w.heap.size b8 T W1:=h3.keep λc cs tt z _ _ hb=>(o1.old c (SI.1 hb).1).trans hb
  have hez:(s.extract e b0).size<=300:=by rw[Th];omega
  have hTz:T.size<=600*302:=by omega
  have hw1:=QO (s:=s.extract e b0) hBl1 (by omega) (by have:=h1.kq.kp.1;have:=o1.size;omega);replace hw1:=AI hw1;gi_wp2
  refine⟨trivial,(TI _ (callsIn_wide.2 hw1.out)).mono ?_⟩;rintro e1 W2 ⟨rfl,hB2,k2⟩;clear hw1 c1 c2 d4 d9 dn0;have z1:=h1.kq.kp.1;have zo:=o1.size;have z2:=k2.low.size;have q2:∀c t' cs,t'≠5->c≠b8->a7 W1 c t' cs->a7 W2 c t' cs:=λc t' cs h1 h2 hb=>eg k2.kept hb h2 h1
  have d5:=(q2 _ _ _ (by decide) (by omega) (q1 _ _ _ h1.b5)).cell 0;have hp:=ms (v:=SE (some ⟨g',0,none⟩) (G+1) (G+1+Zs.length)) ((q2 _ _ _ (by decide) (by omega) (q1 _ _ _ h1.bw_)).cell 0);have hw2:=QO (s:=t) hB2 (by rw[Tq];omega) (by omega);replace hw2:=AI hw2;replace hp:=AI hp;gi_wp2
  refine⟨trivial,(TI _ (callsIn_wide.2 hp.out)).mono ?_⟩;rintro e2 W2' ⟨rfl,rfl⟩;gi_wp2
  refine⟨trivial,(TI _ (callsIn_wide.2 hw2.out)).mono ?_⟩;rintro e3 W3 ⟨rfl,hB3,k3⟩;clear hw2 hp d5;have z3:=k3.low.size;have hnb8:nb≠b8:=by omega
  have q3:∀c t' cs,t'≠5->c≠b8->a7 W c t' cs->a7 W3 c t' cs:=λc t' cs h1 h2 hb=>eg k3.kept (q2 _ _ _ h1 h2 (q1 _ _ _ hb)) h2 h1
  have n3:a7 W3 nb 35 #[Su Sx b0,Su Sx j]:=eg k3.kept (q2 _ _ _ (by decide) hnb8 n1) hnb8 (by decide);have d1:=n3.cell 1;have h93:a7 W3 b9 3 #[Su Sx e]:=q3 _ _ _ (by decide) (by omega) h4;have d93:=h93.cell 0;have f93:=h93.frozen 0;gi_wp2
  have hset:∀c,c≠b9->(W3.setCell ⟨b9,0,none⟩ (Su Sx j)).heap[c]?=W3.heap[c]?:=λc hc=>Below.heap_setCell W3 ⟨b9,0,none⟩ _ c hc
  have hss:(W3.setCell ⟨b9,0,none⟩ (Su Sx j)).heap.size=W3.heap.size:=by simp
  have h94:a7 (W3.setCell ⟨b9,0,none⟩ (Su Sx j)) b9 3 #[Su Sx j]:=by
   have:=h93.bI 0 (Su Sx j);simpa using this
  have lowW:∀c,c<w.heap.size->W3.heap[c]?=W.heap[c]?:=λc hc=>(k3.low.block c hc).trans ((k2.low.block c hc).trans (o1.old c (by omega)))
  have O3:∀c o,W.heap[c]?=some o->c≠b8->(∀cs z,o≠SJ cs 5 z)->W3.heap[c]?=some o:=λc o h1 h2 h3=>k3.kept c o (k2.kept c o ((o1.old c (SI.1 h1).1).trans h1) (by simpa using h2) h3) (by simpa using h2) h3
  refine⟨(hset B (by omega)).trans ((O3 B _ hd (by omega) (by simp)).trans hd.symm),(hset (B+1) (by omega)).trans ((O3 (B+1) _ hl (by omega) (by simp)).trans hl.symm),by rw[hss];omega,hr.same (λc hc=>(hset c (by omega)).trans (lowW c (by omega))) (by rw[hss];omega),
   h1.keep hnum (λc t' cs a1 a2 a3 a4 hb=>(hset c a4).trans (q3 c t' cs a1 a3 hb)) ⟨⟨by rw[hss];omega,λc hc hn=>(hset c (by omega)).trans ((lowW c hc).trans (h1.kq.kp.2 c hc hn))⟩,?_,?_⟩,by omega,
   T++s.extract e b0++t,j,j,hB3.keep λc cs tt z _ htt hb=>(hset c λE=> ?_).trans hb,h94,hjs,?_,hG2,h8⟩
  .exact k3.low.os.trans (k2.low.os.trans (o1.os.trans h1.kq.os))
  .exact k3.low.output.trans (k2.low.output.trans (o1.out.trans h1.kq.out))
  .rw[E]at hb;have h93':=h93.symm.trans hb;cases h93';rcases htt with h|h<;>exact absurd h (by decide)
  .rw[Tq,Tq];omega
def oB{h0:Array Obj}{w:SF}{lo hi x fl G:Nat}{nd:Nd}{s t:ByteArray}{Ls:List Sp}(h:da w lo hi x fl G nd)(hs:s.size<=300)(ht:t.size<=300)(hfl:fl<256)(hLs:bs ⟨s,fl,0⟩ nd G (s.size+2) 0 (-1)=Ls):
 cb (br ek h0) 46 #[vp x,SC s,SC t] w λe W=>e=SH (Td #[SC (dT s t Ls ⟨#[]⟩ 0),Te])/\da W lo hi x fl G nd/\Kq w.heap.size [x] w W:=by
 refine bu (bP (by decide)) (λw' h=>nomatch h.1) (PH.func Tryz.func46 (by decide)) rfl ?_;simp only[Tryz.ntmps46,SR,SV,SY,T4,T7,SL,SK,SS,SM,SX,SW];have hxw:x<w.heap.size:=SQ h.up h.sz;have H:mx (λu=>Kq w.heap.size [x] w u/\da u lo hi x fl G nd) w:=⟨Kq.refl w,h⟩;clear h;refine ac λK hK=> ?_
 revert H;refine ey λw1 H=> ?_
 go_wp2;refine hK.out _ _ ?_;clear hK;have hwb:=H.out.1.kp.1;replace H:=H.new 9 #[SC t];obtain⟨bw,hb⟩:∃b,w1.heap.size=b:=⟨_,rfl⟩;rw[hb]at H hwb ⊢;clear hb;generalize Tm _ _=w2 at H ⊢;refine ac (λK hK=> ?_);refine ao ?_;show aV _ _ _ (SG 0 (3+5)) _ _;revert H;refine cx 0 3 5 (λN hN w1 H=> ?_) (by decide);simp only[zq1];go_wp2;refine hN.out _ _ ?_;clear hN N;refine bF (f:=58) (i:=3) (rest:=SG 4 (4+0)) rfl rfl (λu=>by simp[go_sem]) (bP (by decide)) (ki (bw:=bw) H.out.1.2 hs ht hfl hLs H.out.2 (by omega)) (λv w3 l=> ?_) λch w3 l=>nomatch l.1
 have⟨e,r,k⟩:=l;obtain rfl:=(Ending.returned.inj e).symm;clear e l;replace H:mx (λu=>Kq w.heap.size [x] w u/\da u lo hi x fl G nd) w3:=⟨H.out.1.1.trans (k.mono H.out.1.1.kp.1 λ_ h _=>h),r⟩;clear r k;simp only[SU,SO,SN];simp only[Sy,zq0];revert H;refine cx 4 4 0 (λN hN w4 H=> ?_) (by decide);simp only[zq1];go_wp2;refine hN.out _ _ (az (hK.out _ _ ?_));clear hN N hK K;revert H;refine ey λw5 H=> ?_
 go_wp2;go_ret2
 exact⟨rfl,H.out.2,H.out.1⟩
def jp{h0:Array Obj}{w:SF}{lo hi x fl G:Nat}{nd:Nd}{s t:ByteArray}{Ls:List Sp}(h:da w lo hi x fl G nd)(hs:s.size<=300)(ht:t.size<=300)(hfl:fl<256)(hLs:bs ⟨s,fl,0⟩ nd G (s.size+2) 0 (-1)=Ls):
 cb (br ek h0) 26 #[vp x,SC s,SC t] w λe W=>e=SH (Td #[SC (dT s t Ls ⟨#[]⟩ 0),Su Sx 0])/\da W lo hi x fl G nd/\Kq w.heap.size [x] w W:=by
 refine bu (bP (by decide)) (λw' h=>nomatch h.1) (PH.func Tryz.func26 (by decide)) rfl ?_;simp only[Tryz.ntmps26,SR,SV,SY,T4,T7,SL,SK,SS,SM,SX,SW];have H:mx (λu=>Kq w.heap.size [x] w u/\da u lo hi x fl G nd) w:=⟨Kq.refl w,h⟩;clear h;refine ac (λK hK=> ?_);revert H;refine ey λw1 H=> ?_
 go_wp2;refine hK.out _ _ ?_;clear hK K;refine ac (λK hK=> ?_);refine ao ?_;show aV _ _ _ (SG 0 (3+6)) _ _;revert H;refine cx 0 3 6 (λN hN w2 H=> ?_) (by decide);simp only[zq1];go_wp2;refine hN.out _ _ ?_;clear hN N;refine bF (f:=46) (i:=3) (rest:=SG 4 (5+0)) rfl rfl (λu=>by simp[go_sem]) (bP (by decide)) (oB H.out.2 hs ht hfl hLs) (λv w3 l=> ?_) λch w3 l=>nomatch l.1
 have⟨e,r,k⟩:=l;obtain rfl:=(Ending.returned.inj e).symm;clear e l;replace H:mx (λu=>Kq w.heap.size [x] w u/\da u lo hi x fl G nd) w3:=⟨H.out.1.trans (k.mono H.out.1.kp.1 λ_ h _=>h),r⟩;clear r k;simp only[SU,SO,SN];simp only[Sy,zq0];revert H;refine cx 4 5 0 (λN hN w4 H=> ?_) (by decide);simp only[zq1];go_wp2;refine hN.out _ _ (az (hK.out _ _ ?_));clear hN N hK K;refine ac λK hK=> ?_
 revert H;refine ey λw5 H=> ?_
 have hL:=uF w5;go_wp2;refine hL.mono ?_;rintro e' w6 ⟨rfl,y⟩;replace H:=H.old ⟨λb hb=>y.block b hb,y.size,y.os,y.output⟩;clear hL y;go_wp2;refine hK.out _ _ ?_;clear hK;revert H;refine ey λw7 H=> ?_
 go_wp2;go_ret2
 exact⟨rfl,H.out.2,H.out.1⟩
end
section
open Go.RowKit Go.Conc
attribute [local instance] fI
def aE.form{u d G Ls v}(h:aE u d G Ls v):∃o c,v=SE o Ls.length c:=by
 obtain⟨vs,h1,_⟩:=h;rcases h1.2 with⟨rfl,e⟩|⟨g,c,f,rfl,_⟩
 .exact⟨none,0,by rw[e]⟩
 .exact⟨_,_,rfl⟩
def aE.get{u d G Ls o n c}{k:Nat}{L}(h:aE u d G Ls (SE o n c))(e:Ls[k]?=some L):∃g g' Z,o=some ⟨g,0,none⟩/\u.cell? ⟨g,k,none⟩=some (SE (some ⟨g',0,none⟩) (G+1) (G+1+List.length Z))/\a7 u g' 35 (dw (L++Z)):=by
 obtain⟨vs,h1,h2,h3⟩:=h;have hk:=(T9.1 e).1;have hv:vs[k]?=some vs[k]:=TV (by omega);obtain⟨g',Z,e1,_,hb⟩:=h3 k L _ e hv;rcases h1.2 with⟨_,e0⟩|⟨g,c',f,ev,_⟩
 .omega
 .cases ev;have:=h1.cells rfl k _ hv;rw[e1]at this;refine⟨g,g',Z,rfl,?_,hb⟩;simp only[Addr.add]at this;split at this
  .subst k;exact this
  .simpa using this
def mE{h0 w s t c}(hc: -9223372036854775808<=c/\c<=9223372036854775807)(X:Under h0 w)(hG:fx w)(hE:gI w):
 cb (br ek h0) 9 #[SC s,Su Sx c,SC t] w λe w'=>e=SH (Ta true)/\Old w w':=by
 refine bu (bP (by decide)) (λw' h=>nomatch h.1) (PH.func Tryz.func9 (by decide)) rfl ?_;simp only[Tryz.ntmps9,SR,SV,SY,T4,T7,SL,SK,SS,SM,SX,SW];have H:mx (λu=>Old w u/\Under h0 u/\fx u/\gI u) w:=⟨.refl w,X,hG,hE⟩;clear X hG hE;obtain⟨fl,hfl,hflb⟩:=Kf c;have hfl2:fl<256:=by omega
 replace hfl:=AI hfl;refine ac (λK hK=> ?_);revert H;refine ey λw1 H=> ?_
 go_wp2;refine hK.out _ _ ?_;clear hK K;refine ac λK hK=> ?_
 revert H;refine ey λw2 H=> ?_
 have hcl:=KI t 60 w2;go_wp2;refine hcl.mono ?_;rintro e' w3 ⟨rfl,rfl⟩;have hts:=FJ t 60;generalize tK t 60=C at hts ⊢;clear hcl;go_wp2;refine hK.out _ _ ?_;clear hK K;refine ac (λK hK=> ?_);refine ao ?_;show aV _ _ _ (SG 0 (4+6)) _ _;revert H;refine cx 0 4 6 (λN hN w4 H=> ?_) (by decide);simp only[zq1];go_wp2;refine hN.out _ _ ?_;clear hN N;refine bF (f:=12) (i:=4) (rest:=SG 5 (5+0)) rfl rfl (λu=>by simp[go_sem]) (bP (by decide)) (Nl (s:=s) (fl:=fl) hfl2 H.out.2.1 H.out.2.2.1 H.out.2.2.2) (λv w5 l=> ?_) λch w5 l=>by have⟨_,h,_⟩:=l;cases h
 have⟨v1,e,r,I⟩:=l;cases e;have hl4:=H.out.1.size;replace H:=H.old r;clear l r;simp only[SU,SO,SN];rcases I.at with⟨rfl,_⟩|⟨x,nd,O,G,rfl,hd,hg,hr⟩
 .simp only[Sy,zq0];revert H;refine cx 5 5 0 (λN hN w6 H=> ?_) (by decide);simp only[zq1];go_wp2;refine hN.out _ _ (az (hK.out _ _ ?_));clear hN N hK K;refine ac λK hK=> ?_
  revert H;refine ey λw7 H=> ?_
  go_wp2;go_ret;exact⟨rfl,H.out.1⟩
 have hx:=hr.lw;have hWx:w.heap.size<=x:=T0 hl4 hx;have hT:=hr.tree;obtain⟨lo,hlo⟩:∃n,w4.heap.size=n:=⟨_,rfl⟩;obtain⟨hi,hhi⟩:∃n,w5.heap.size=n:=⟨_,rfl⟩;rw[hlo,hhi]at hr;replace H:mx (λu=>Old w u/\da u lo hi x fl G nd) w5:=⟨H.out.1,hr⟩;clear I hd hg hr hx hl4 hlo hhi;replace hWx:=AI hWx;obtain⟨Ls,hLs⟩:∃Ls,bs ⟨C,fl,0⟩ nd G (C.size+2) 0 (-1)=Ls:=⟨_,rfl⟩;have hgo:Goes C.size G 0 (-1) Ls:=by rw[<- hLs];exact fp (M:=⟨C,fl,0⟩) hT _ _ _ _ (by omega) (Sz _) (by omega)
 have hlen:Ls.length<=62:=by have:=el (M:=⟨C,fl,0⟩) (d:=nd) (G:=G) (C.size+2) 0 (-1);rw[hLs]at this;omega
 have hsome:(fj ⟨C,fl,0⟩ nd G (C.size+1) 0).isSome=decide ((0:Int)<(Ls.length:Int)):=by
  have:=la (M:=⟨C,fl,0⟩) hT (C.size+1);rw[hLs]at this;rw[this];exact decide_eq_decide.2 (by omega)
 have hC3:C.size<=300:=by omega
 replace hgo:=AI hgo;replace hsome:=AI hsome;replace hLs:=AI hLs;clear hT;simp only[Sy,zq0];revert H;refine cx 5 5 0 (λN hN w6 H=> ?_) (by decide);simp only[zq1];go_wp2;refine hN.out _ _ (az (hK.out _ _ ?_));clear hN N hK K;refine ac (λK hK=> ?_);revert H;refine ey λw7 H=> ?_
 go_wp2;refine hK.out _ _ ?_;clear hK K;refine ac (λK hK=> ?_);refine ao ?_;show aV _ _ _ (SG 0 (2+6)) _ _;revert H;refine cx 0 2 6 (λN hN w8 H=> ?_) (by decide);simp only[zq1];go_wp2;refine hN.out _ _ ?_;clear hN N;refine bF (f:=25) (i:=2) (rest:=SG 3 (5+0)) rfl rfl (λu=>by simp[go_sem]) (bP (by decide)) (iE (s:=C) (n:= -1) H.out.2 hC3 hfl2 hLs.out) (λv w9 k=> ?_) λch w3 k=>by obtain⟨_,_,h,_⟩:=k;cases h
 obtain⟨v1,d,e,_,A,k,m⟩:=k;obtain rfl:=(Ending.returned.inj e).symm;clear e;rw[show takeN (-1) Ls=Ls from rfl]at A;obtain⟨o,cp,rfl⟩:=A.form;replace H:mx (λu=>Old w u/\da u lo hi x fl G nd/\aE u d G Ls (SE o Ls.length cp)) w9:=⟨H.out.1.far m hWx.out,k,A⟩;clear A k m;simp only[SU,SO,SN];simp only[Sy,zq0];revert H;refine cx 3 5 0 (λN hN w10 H=> ?_) (by decide);simp only[zq1];go_wp2;refine hN.out _ _ (az (hK.out _ _ ?_));clear hN N hK K;refine ac (λK hK=> ?_);revert H;refine ey λw11 H=> ?_
 go_wp2;refine hK.out _ _ ?_;clear hK K;refine ac (λK hK=> ?_);revert H;refine ey λw12 H=> ?_
 go_wp2;refine hK.out _ _ ?_;clear hK K;refine ac (λK hK=> ?_);revert H;refine ey λw13 H=> ?_
 go_wp2;refine hK.out _ _ ?_;clear hK K;refine ac (λK hK=> ?_);revert H;refine ey λw14 H=> ?_
 go_wp2;refine hK.out _ _ ?_;clear hK K;refine ac (λK hK=> ?_);revert H;refine ey λw15 H=> ?_
 go_wp2;refine hK.out _ _ ?_;clear hK K;refine ac λK hK=> ?_
 revert H;refine ey λw16 H=> ?_
 go_wp2;go_loopw [11,12,13,14,15,16] (λy1 y2 y3 y4 y5 _ wr=>∃(k e:Nat)(l:Int)(T U0:ByteArray),k<=Ls.length/\y1=Su Sx l/\y2=SC T/\y3=SC U0/\y4=Su Sx e/\y5=Su Sx k/\e<=C.size/\(T.size<=e/\U0.size<=e+2*k)/\Goes C.size G e l (Ls.drop k)/\dT C ⟨#[]⟩ (Ls.drop k) T e=dT C ⟨#[]⟩ Ls ⟨#[]⟩ 0/\dT C ⟨#[60,62]⟩ (Ls.drop k) U0 e=dT C ⟨#[60,62]⟩ Ls ⟨#[]⟩ 0/\mx (λu=>Old w u/\da u lo hi x fl G nd/\aE u d G Ls (SE o Ls.length cp)) wr) λ_ _ _ _ y _ _=>Ls.length- (intOf y).toNat
 case atStart=>exact⟨0,0,-1,⟨#[]⟩,⟨#[]⟩,Tf _,rfl,rfl,rfl,rfl,rfl,Tf _,⟨Sz _,Sz _⟩,hgo.out,rfl,rfl,H⟩
 case round=>
  obtain⟨k,e,l,T,U0,hk,rfl,rfl,rfl,rfl,rfl,he,⟨hTe,hUe⟩,hg,h7,h8,H⟩:=hrel;have hTz:T.size<=60:=by omega
  have hUz:U0.size<=200:=by omega
  by_cases hlt:k<Ls.length
  .obtain⟨L,hL⟩:∃L,Ls[k]?=some L:=⟨_,TV hlt⟩;have hdk:Ls.drop k=L::Ls.drop (k+1):=by
    rw[TS hlt,(T9.1 hL).2]
   rw[hdk]at hg h7 h8;obtain⟨b,j,hLl,hL0,heb,hbj,hjs,hne,hG2⟩:=hg;have hhd:=eP hL0;rw[dT,hhd]at h7 h8;simp only[Tx]at h7 h8;obtain⟨g,g',Z,rfl,c0,B⟩:=H.out.2.2.get hL;have hLz:(L++Z)[0]?=some ((b:Int),(j:Int)):=by rw[Tu (by omega)];exact hL0
   obtain⟨c1,c2⟩:=hY B hLz;rw[TF]at c1 c2;rw[TG]at c2;obtain⟨nb,hnb⟩:∃nb,wr.heap.size=nb:=⟨_,rfl⟩;obtain⟨W1,hW1⟩:∃W1,wr.alloc (SJ #[Su Sx b,Su Sx j] 35)=W1:=⟨_,rfl⟩;have n1:a7 W1 nb 35 #[Su Sx b,Su Sx j]:=hW1▸hnb▸a7.new wr 35 _;have d0:=n1.cell 0;have d1:=n1.cell 1;replace H:=H.old (hW1▸(Old.refl wr).alloc _:Old wr W1);have hez:(C.extract e b).size<=60:=by rw[Th];omega
   have q1:decide ((k:Int)<(Ls.length:Int))=true:=by simp;omega
   have q2:decide ((b:Int)<(e:Int))=false:=by simp;omega
   have q3:decide ((j:Int)<(b:Int))=false:=by simp;omega
   have q4:decide ((C.size:Int)<(j:Int))=false:=by simp;omega
   have hGl:((G:Int)+1==0)=false:=by simp;omega
   have hez2:(C.extract e b).size=b-e:=by rw[Th];omega
   have app0:∀a:ByteArray,a++⟨#[]⟩=a:=λa=>ByteArray.append_empty
   rw[app0]at h7;have hz2:(T++C.extract e b).size<=j/\(U0++C.extract e b++⟨#[60,62]⟩).size<=j+2*(k+1):=by
    simp only[Tq];rw[show(⟨#[60,62]⟩:ByteArray).size=2 from rfl];omega
   by_cases hbj:b=j
   .subst hbj;have q5:decide ((b:Int)<=l)=false:=by have:=hne rfl;simp;omega
    go_wp2;exact⟨⟨k+1,b,b,_,_,hlt,rfl,rfl,rfl,rfl,by push_cast;rfl,by omega,hz2,hG2,h7,h8,H⟩,by simp[intOf];omega⟩
   .have q5:((b:Int)==(j:Int))=false:=by simp;omega
    replace hbj:=AI hbj;go_wp2;exact⟨⟨k+1,j,j,_,_,hlt,rfl,rfl,rfl,rfl,by push_cast;rfl,by omega,hz2,hG2,h7,h8,H⟩,by simp[intOf];omega⟩
  .obtain rfl:k=Ls.length:=by omega
   rw[Uq]at h7 h8;replace h7:dT C ⟨#[]⟩ Ls ⟨#[]⟩ 0=T++C.extract e C.size:=h7.symm;replace h8:dT C ⟨#[60,62]⟩ Ls ⟨#[]⟩ 0=U0++C.extract e C.size:=h8.symm;have hez:(C.extract e C.size).size<=60:=by rw[Th];omega
   replace H:mx (λu=>Old w u/\da u lo hi x fl G nd) wr:=⟨H.out.1,H.out.2.1⟩;clear hgo hg;replace h7:=AI h7;replace h8:=AI h8;go_wp2;refine hK.out _ _ ?_;refine ac (λK hK=> ?_);refine ao ?_;show aV _ _ _ (SG 0 (2+6)) _ _;revert H;refine cx 0 2 6 (λN hN w17 H=> ?_) (by decide);simp only[zq1];go_wp2;refine hN.out _ _ ?_;clear hN N;refine bF (f:=26) (i:=2) (rest:=SG 3 (5+0)) rfl rfl (λu=>by simp[go_sem]) (bP (by decide)) (jp (s:=C) (t:=⟨#[]⟩) H.out.2 hC3 (Tf _) hfl2 hLs.out) (λv w18 k=> ?_) λch w3 k=>nomatch k.1
   obtain⟨e1,k,m⟩:=k;obtain rfl:=(Ending.returned.inj e1).symm;clear e1;replace H:mx (λu=>Old w u/\da u lo hi x fl G nd) w18:=⟨H.out.1.far m hWx.out,k⟩;clear k m;simp only[SU,SO,SN];simp only[Sy,zq0];revert H;refine cx 3 5 0 (λN hN w19 H=> ?_) (by decide);simp only[zq1];go_wp2;refine hN.out _ _ (az (hK.out _ _ ?_));clear hN N hK K;refine ac (λK hK=> ?_);refine ao ?_;show aV _ _ _ (SG 0 (2+6)) _ _;revert H;refine cx 0 2 6 (λN hN w20 H=> ?_) (by decide);simp only[zq1];go_wp2;refine hN.out _ _ ?_;clear hN N;refine bF (f:=26) (i:=2) (rest:=SG 3 (5+0)) rfl rfl (λu=>by simp[go_sem]) (bP (by decide)) (jp (s:=C) (t:=⟨#[60,62]⟩) H.out.2 hC3 (by decide) hfl2 hLs.out) (λv w21 k=> ?_) λch w3 k=>nomatch k.1
   obtain⟨e1,k,m⟩:=k;obtain rfl:=(Ending.returned.inj e1).symm;clear e1;replace H:mx (λu=>Old w u/\da u lo hi x fl G nd) w21:=⟨H.out.1.far m hWx.out,k⟩;clear k m;simp only[SU,SO,SN];simp only[Sy,zq0];revert H;refine cx 3 5 0 (λN hN w22 H=> ?_) (by decide);simp only[zq1];go_wp2;refine hN.out _ _ (az (hK.out _ _ ?_));clear hN N hK K;refine ac (λK hK=> ?_);refine ao ?_;show aV _ _ _ (SG 0 (2+6)) _ _;revert H;refine cx 0 2 6 (λN hN w23 H=> ?_) (by decide);simp only[zq1];go_wp2;refine hN.out _ _ ?_;clear hN N;refine bF (f:=16) (i:=2) (rest:=SG 3 (5+0)) rfl rfl (λu=>by simp[go_sem]) (bP (by decide)) (H.out.2.match_ (s:=C) (ev:=0) (by omega) hfl2 (by decide)) (λv w24 k=> ?_) λch w3 k=>nomatch k.1
   obtain⟨e1,k,m⟩:=k;obtain rfl:=(Ending.returned.inj e1).symm;clear e1;rw[hsome.out,h7.out,h8.out];replace H:mx (Old w) w24:=H.out.1.far m hWx.out;clear k m;simp only[SU,SO,SN];simp only[Sy,zq0];revert H;refine cx 3 5 0 (λN hN w25 H=> ?_) (by decide);simp only[zq1];go_wp2;refine hN.out _ _ (az (hK.out _ _ ?_));clear hN N hK K;revert H;refine ey λw26 H=> ?_
   go_wp2;go_ret;exact⟨rfl,H.out⟩
end
section
open Go.ChangeShapes Go.WideShapes Go.RowKit Go.Conc
attribute [local instance] fI
def j0{W:SF}(hS:W.ShapedOpen Tryz.prog)(hL:laidMetH Tryz.prog Rows.joinedRow.laid W){x0 x2:ByteArray}{x1:Int}(hx1: -9223372036854775808<=x1/\x1<=9223372036854775807){Post:Tg->SF->Prop}(hP:∀w2,Old W w2->Post (Ta true) w2):
 ∃M last o w' t',runNT Tryz.prog (M+1) (solo (G (Tz Tryz.prog 9 #[SC x0,Su Sx x1,SC x2] TJ) []) W) #[]=(.ended o w',t')/\runN Tryz.prog M (solo (G (Tz Tryz.prog 9 #[SC x0,Su Sx x1,SC x2] TJ) []) W)= .next last/\step Tryz.prog last= .ended o w'/\Conc.Good Tryz.prog Post last o w' t':=by
 obtain⟨hG,hE⟩:=K3 hS hL;exact EV hS Tryz.func9 (by kernel_rfl) rfl (by kernel_rfl) (mE (s:=x0) (c:=x1) (t:=x2) hx1 (Cj W) (hG.strike (vh hS)) (hE.strike (vh hS _ (Tf _)))) hP
def law_lifted(os:Os)(started:os.Started)(H:Type)(enc:TypeId×Tg->H)(F:Stop.Interp):
 ReturnsInLeavingWide {calm:=true} Tryz.checked os 9 .any (λw args=>(Rows.joinedSpec.pre enc Tryz.prog Tryz.f9 [] false w args/\laidMetH Tryz.prog Rows.joinedRow.laid w)/\sizedMet enc Tryz.prog Tryz.f9 (TQ Rows.joinedSpec) false w args)
  ((TQ Rows.joinedSpec).postWith enc Tryz.prog Tryz.f9 F (outsideKept [.timePasses]) false true false):=by
 refine returnsInLeavingWide_of_good (C:=Tryz.checked) OT started
  (zQ (enc:=enc) (C:=Tryz.checked) (os:=os) (X:=λw _=>laidMetH Tryz.prog Rows.joinedRow.laid w) (laidWorld os) #[SC ⟨#[]⟩,Su Sx 0,SC ⟨#[]⟩] 8 rfl (by kernel_rfl) (by kernel_rfl) (by kernel_rfl) (by kernel_rfl) (by kernel_rfl) (laidMetH_of_parts (laidMet_of_run3 8 (by kernel_rfl) (by kernel_rfl) (by kernel_rfl)) (by kernel_rfl))) ?_
 intro w tape i _ hS _ hok hpre hholds;obtain⟨_,_,_,fn',hfn',_,_,_,_,hval⟩:=hok;have e:fn'=Tryz.f9:=Option.some.inj (hfn'.symm.trans Tryz.func9);subst e;obtain⟨⟨⟨ds,gs,before,hw,hc⟩,hL⟩,hz⟩:=hpre;have hW:=DataW.Whole.of_heap (w':=w.forCall tape i) (by rfl) hw;have hL':laidMetH Tryz.prog Rows.joinedRow.laid (w.forCall tape i):=hL.of_heap (by rfl);have hW':=hW;obtain⟨p,q,hA0,hV0,rfl,hfz,hnd⟩:=hW;have hA:DataW.TrodAll enc Tryz.prog (w.forCall tape i) 0 (λ_=>true) true Tryz.f9.params.toList i.args.toList ds p:=hA0;rw[Tryz.params9]at hA hval;obtain⟨v0,v1,v2,d0,d1,d2,p0,p1,p2,hargs,rfl,rfl,h0,h1,h2⟩:=trodAll_three hA;rw[hargs]at hval hW' ⊢;obtain⟨x0,rfl,rfl,rfl,t0⟩:=ChangeMaps.open_string Tryz.underlying9 (hval 0 9 v0 rfl rfl) h0;obtain⟨x1,rfl,rfl,rfl,t1⟩:=ChangeShapes.open_int Tryz.underlying3 (hval 1 3 v1 rfl rfl) h1;have hx1: -9223372036854775808<=x1/\x1<=9223372036854775807:=by simpa[Lit.wf,IntKind.min,IntKind.max,IntKind.signed,IntKind.bits]using t1
 obtain⟨x2,rfl,rfl,rfl,t2⟩:=ChangeMaps.open_string Tryz.underlying9 (hval 2 9 v2 rfl rfl) h2;have hV:DataW.TrodVars enc Tryz.prog (w.forCall tape i) (λ_=>true) [] gs q:=hV0;obtain⟨rfl,rfl⟩:=trodVars_none hV;obtain⟨M,last,o,w',t',e1,e2,e3,e4⟩:=j0 hS hL' hx1 (x0:=x0) (x1:=x1) (x2:=x2) (Post:=λv W2=>(TQ Rows.joinedSpec).postWith enc Tryz.prog Tryz.f9 F (outsideKept [.timePasses]) false true false (w.forCall tape i) #[SC x0,Su Sx x1,SC x2] v W2) λw2 hO=>by
  refine postWith_of_post ⟨_,_,_,[],[],[],hW',?_,?_,?_,⟨rfl,hO.out,λk hk=> ?_⟩,λh=>by cases h⟩ (by rw[hO.os];exact⟨0,by simp⟩)
  .exact trodAll_mk1 (shut_bool Tryz.underlying4 true)
  .exact trodAll_mk3 (ChangeMaps.shut_string Tryz.underlying9 t0) (ChangeShapes.shut_int Tryz.underlying3 t1) (ChangeMaps.shut_string Tryz.underlying9 t2)
  .rfl
  .dsimp only;rw[hO.old k hk];split <;>simp_all
 exact⟨M,last,o,w',t',e1,e2,e3,e4.mono λv hp=>postWith_blind hp⟩
def j2:Rows.JoinedSaid:=
 OpenClaim.holds_of_wide_leaving_time 9 Tryz.f9 rfl rfl rfl rfl rfl rfl rfl ⟨rfl,rfl,rfl,rfl,rfl⟩ rfl rfl rfl rfl rfl (by kernel_rfl) Tryz.func9 (by kernel_rfl)
  (of_decide_eq_true (by kernel_rfl)) (by unfold Func.isWrapper;rw[if_neg (of_decide_eq_false (by kernel_rfl))];exact⟨rfl,rfl⟩)
  (λos started H enc _ F=>law_lifted os started H enc F)
def i6:∀f fn,Tryz.pinned.checked.prog.funcNamed Rows.joinedRow.func=some f->Tryz.pinned.checked.prog.funcs[f]?=some fn->true=Tryz.pinned.checked.prog.looks []/\∀(j:Nat) t,fn.params[j]?=some t->Tryz.pinned.checked.prog.wantsStandIn t=false:=λf fn hf hfn=>by
 obtain rfl:f=9:=Option.some.inj ((show Tryz.prog.funcNamed Rows.joinedRow.func=some 9 by kernel_rfl).symm.trans hf)|>.symm
 obtain rfl:fn=Tryz.f9:=(Option.some.inj (Tryz.func9.symm.trans hfn)).symm;refine⟨by kernel_rfl,λj t ht=> ?_⟩;rw[Tryz.params9]at ht;match j,ht with
 |0,ht=>
  obtain rfl:9=t:=by simpa using ht
  exact(show Tryz.prog.wantsStandIn 9=false by kernel_rfl)
 |1,ht=>
  obtain rfl:3=t:=by simpa using ht
  exact(show Tryz.prog.wantsStandIn 3=false by kernel_rfl)
 |2,ht=>
  obtain rfl:9=t:=by simpa using ht
  exact(show Tryz.prog.wantsStandIn 9=false by kernel_rfl)
 |j+3,ht=>simp at ht
theorem joined_holds:Rows.JoinedCardSaid:=
 ⟨Claim7.tied_new_at .later [.handle,.data] true (Claim7.new_of_sixth j2 Rows.joinedCard.stood.harness true rfl ⟨rfl,rfl⟩ (by kernel_rfl) (by kernel_rfl) i6) (by kernel_rfl),λD hD=>(by cases hD),joined_row_tie,λh=>(by cases h),by kernel_rfl⟩
end
end Go.Proofs.YtkgohmcmmcpigabGreatDoor
