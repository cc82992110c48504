/- Within holds of every pattern, all flags, every text; no condition. -/
import Derived.Carry
import Derived.Laws.CopyRow
import Derived.Test.YtkgohmcmmcpigaaGreatDoorW08
set_option linter.unusedSectionVars false
set_option linter.unusedSimpArgs false
set_option linter.unusedVariables false
set_option maxHeartbeats 8000000
set_option maxRecDepth 100000
namespace Go.Proofs.YtkgohmcmmcpigaaGreatDoor
open Go
open Go.Lib renaming hid->up
open _root_.List renaming mem_singleton->x5,not_mem_nil->AI,replicate->By,range'->If,append_toArray->IT,size_toArray->No,push_toArray->OF,getElem_cons_zero->Su,getElem_cons_succ->Sv,length_cons->Sw,cons_append->Sx,mem_cons->Sy,nil_append->Sz,length_nil->SC,getElem_toArray->SD,take_succ_cons->SN,drop_succ_cons->SO,getElem?_toArray->SQ,mem_cons_of_mem->SR,mem_cons_self->SU,getElem?_cons_zero->SZ,getElem?_cons_succ->T0,drop_eq_nil_of_le->T1,getElem?_range->T6,getElem?_map->Tb,append_nil->Tf
open Go.Act renaming put->AS
open _root_.Nat renaming le_refl->AT,lt_of_lt_of_le->SF,reduceSub->SG,reduceAdd->SH,le_trans->SI,zero_le->SM,zero_mul->SW,min->T2,lt_irrefl->T4,zero_add->T8,lt_succ_self->Tc
open _root_.Or renaming inl->BY,inr->SK
open _root_.Array renaming replicate_zero->IN,replicate_succ->IS,getElem?_eq_some_iff->SL,map_append->Td
open Go renaming callFunc->SE,World->SJ,Value->T3
open _root_.Option renaming map_eq_some_iff->SP
open Go.Value renaming int->SS
open Go.OpenSpec renaming ofChange->SV
open _root_.Bool renaming and_eq_true->SX,or_eq_true->Tg
open Go.World renaming putObj_heap_other->SY
open Go.Builtin renaming copy_->T5
open Go.Region renaming ready->T7,wanted->Tl
open Go.Exit renaming inBlock->T9
open _root_.Decidable renaming em->Ta
open Go.Oper renaming semAt_some->Te,wp->Th
open Go.NoPanic renaming normal->Ti
section
open Go.RowKit
attribute [local go_sem] Te
theorem FK{P ops Q md}{S R:SJ->Prop}{fuel listed a w}(i d v f args){oi}(hi:ops[i]?=some oi)(hd:oi.dst=some d)(hw:Tl oi (yielded ops a.tmps)=true)(hr:T7 md ops listed=[i])
 (hrun:(execOp a.eval oi).run P w= .ok (.enter f args) w) (hc:Calls P f args w λe w'=>e= .returned v/\R w')
 (h:∀w',R w'->S w'/\wpAnyH P md ops Q S fuel (listed.setIfInBounds i true) (a.put (some d) v) w'):wpAnyH P md ops Q S (fuel+1) listed a w:=
 wpAnyH_all hr (by simp) λj hj=>by
  obtain rfl:=x5.1 hj;simp[wpOp,hi,if_pos hw];refine .inl ?_;simp[Th,hrun];refine Calls.mono hc ?_;grind
theorem Jt{M k l m d i j}(hs:M.s.size<=300)(hi:i<=M.s.size)(hb:(dI M k l m d i).testBit j=true)(hm:i<j\/(d:Int)<l):
 ∃c,df (λc=>(decide (i<c)||decide ((d:Int)<l))&& (dI M k l m (bS l m d) c).testBit j) (bv M k i) 320=some c:=by
 cases h:df (λc=>(decide (i<c)||decide (d<l))&& (dI M k l m (bS l m d) c).testBit j) (bv M k i) 320 with
 |some c=>exact⟨c,rfl⟩
 |none=>
  rw[oX]at h;rw[Bd hi hs,Nat.testBit_or,Tg]at hb;rcases hb with hb|hb
  .split at hb
   .rw[tN,decide_eq_true_eq]at hb;omega
   grind
  .split at hb
   .simp at hb
   .rw[pd]at hb;grind
theorem Gs(A n)(h:A.size=n):A=((List.range n).map λi=>A.getD i undef).toArray:=by
 subst h;refine Array.ext (by simp) λi h1 h2=> ?_
 simp_all
theorem OU(w t q m i j):
 Caps (((((w.alloc (.cells #[.pointer (some ⟨q,0,none⟩)] t)).alloc (.cells #[.pointer (some ⟨m,0,none⟩)] 174)).alloc (.cells #[.int .i64 i] 3)).alloc (.cells #[.int .i64 j] 3)).alloc (.cells #[.int .i64 0] 3)) w.heap.size (w.heap.size+1+1) (w.heap.size+1) (w.heap.size+1+1+1) t q m i j/\
 a7 (((((w.alloc (.cells #[.pointer (some ⟨q,0,none⟩)] t)).alloc (.cells #[.pointer (some ⟨m,0,none⟩)] 174)).alloc (.cells #[.int .i64 i] 3)).alloc (.cells #[.int .i64 j] 3)).alloc (.cells #[.int .i64 0] 3)) (w.heap.size+1+1+1+1) 3 #[.int .i64 (0:Nat)]/\
 Kq w.heap.size [] w (((((w.alloc (.cells #[.pointer (some ⟨q,0,none⟩)] t)).alloc (.cells #[.pointer (some ⟨m,0,none⟩)] 174)).alloc (.cells #[.int .i64 i] 3)).alloc (.cells #[.int .i64 j] 3)).alloc (.cells #[.int .i64 0] 3)):=by
 obtain⟨hc,hk⟩:=Ll w t q m i j;have nw:∀(W:SJ)(t c)(n:Nat),W.heap.size=n->a7 (W.alloc (.cells c t)) n t c:=λW t c n h=>h▸a7.new W t c
 exact⟨hc.kq ((Kq.refl _).alloc (AT _) _) λg hg=>⟨hc.lt g hg,AI⟩,nw _ _ _ _ (by simp),hk.alloc (AT _) _⟩
theorem CU{E}(hE:fu E){g G}(hG:lL E g G){id l m k}(hk:gy E k)(hwk:WalkC E g G k)(hn:Nd.rep id k l m∈subs E.R):WalkC E g G (.rep id k l m):=by
 intro w q i j L hM hR hi hb hL hg;have hj:=(bZ E.M _ i hi j hb).2;rw[yK]at hb;rw[de];show Calls PM 242 _ _ _;have hl:=hE.rep id k l m hn;have hd:=λ(d i:Nat)(h:d<1900000)=>uo hE hk hn ((l-d).toNat+(E.M.s.size-i)+1) d i (Tc _)
 have hsz:=hE.size;obtain⟨v,hB,hSq,hRk⟩:∃v,a7 w q 288 #[.int .i64 id,v,.int .i64 l,.int .i64 m]/\E.S q/\Repr w E.S v k:=by
  cases hR with
  |rep a b c=>exact⟨_,b,a,c⟩
 obtain⟨p,rfl⟩:=ed hRk;obtain⟨hc,b8,k1⟩:=OU w 286 q E.m i j;have W0:WS E g (.rep id k l m) q w _ L i j:=⟨(WB.start hE hM hR hg).own (X:=[]) (AT _) (λ_ h=>nomatch h) k1,hc⟩;replace W0:=up W0;replace b8:=up b8;replace hb:=up hb;replace hd:=up hd;have hB':=up hB;have hRk':=up hRk;have h1:=fN k ⟨p,0,none⟩;have h2:=gu k ⟨p,0,none⟩;have h3:=i9 k;have h4:=jD k ⟨p,0,none⟩;have h5:=kC k ⟨p,0,none⟩;have h6:=walk_call k;clear hM hR hB hg hc k1 hRk;refine callsIn_wide (n:=4).1 (callsIn_of_wp_marks (PM.func Tryz.func242 (by decide)) rfl trivial ?_ rfl);simp only[Tryz.ntmps242,No,Sw,SC,SH,SG,IS,IN,OF,IT,Sz,Sx];refine wpIn_wide.2 ?_;go_wp2;generalize World.alloc _ _=W1 at W0 b8 ⊢;refine wp_loop_ghost_k (λn a W=>∃(d i' D:Nat)(L':Sp),(l-d).toNat+(E.M.s.size-i')<n/\d+n<=1500000/\(a.tmps.size=65/\a.tmps.getD 0 undef= .pointer (some ⟨q,0,none⟩)/\a.tmps.getD 1 undef= .pointer (some ⟨E.m,0,none⟩)/\a.tmps.getD 2 undef= .int .i64 i/\a.tmps.getD 3 undef= .int .i64 j/\a.tmps.getD 4 undef= .pointer (some ⟨w.heap.size,0,none⟩)/\a.tmps.getD 5 undef= .pointer (some ⟨w.heap.size+1,0,none⟩)/\a.tmps.getD 6 undef= .pointer (some ⟨w.heap.size+1+1,0,none⟩)/\a.tmps.getD 7 undef= .pointer (some ⟨w.heap.size+1+1+1,0,none⟩)/\a.tmps.getD 8 undef= .pointer (some ⟨D,0,none⟩))/\WS E g (.rep id k l m) q w W L' i' j/\w.heap.size+1+1+1<D/\a7 W D 3 #[.int .i64 d]/\Marks w.heap.size a.defers W/\(dI E.M k l m d i').testBit j=true/\i'<=E.M.s.size/\L'.length=G+1/\dH (jJ E.M k l m (de E.M k) j n d i') L'=dH (jJ E.M k l m (de E.M k) j (l.toNat+400) 0 i) L) (l.toNat+400) ?_ ?_
 .exact⟨0,i,_,L,by simp;omega,by omega,⟨rfl,rfl,rfl,rfl,rfl,rfl,rfl,rfl,rfl,rfl⟩,W0.out,by omega,b8.out,trivial,hb.out,hi,hL,rfl⟩
 clear W0 b8 W1 hb;rintro n ⟨tm,ds⟩ W ⟨d,i',D,L',hlt,hdn,⟨hf,t0,t1,t2,t3,t4,t5,t6,t7,t8⟩,h8,hD,hm,ho,hbit,hi',hL',hfin⟩ J K hJ hK;dsimp only at hf t0 t1 t2 t3 t4 t5 t6 t7 t8 ho;obtain⟨X,hX⟩:∃X:Nat->T3,(λi=>tm.getD i undef)=X:=⟨_,rfl⟩;have hy:∀i,tm.getD i undef=X i:=λi=>congrFun hX i
 have htm:tm=#[X 0,X 1,X 2,X 3,X 4,X 5,X 6,X 7,X 8,X 9,X 10,X 11,X 12,X 13,X 14,X 15,X 16,X 17,X 18,X 19,X 20,X 21,X 22,X 23,X 24,X 25,X 26,X 27,X 28,X 29,X 30,X 31,X 32,X 33,X 34,X 35,X 36,X 37,X 38,X 39,X 40,X 41,X 42,X 43,X 44,X 45,X 46,X 47,X 48,X 49,X 50,X 51,X 52,X 53,X 54,X 55,X 56,X 57,X 58,X 59,X 60,X 61,X 62,X 63,X 64]:=by
  have:=Gs tm 65 hf;rw[hX]at this;exact this
 rw[hy]at t0 t1 t2 t3 t4 t5 t6 t7 t8;rw[t0,t1,t2,t3,t4,t5,t6,t7,t8]at htm;rw[htm];clear t0 t1 t2 t3 t4 t5 t6 t7 t8 hX hy hf htm;obtain⟨f,rfl⟩:∃f,n=f+1:=⟨n-1,by omega⟩;have hWS0:=up h8;have hMk0:=up ho;have hB0:=up hm;have hDlt:=hm.lt;have v2:=h8.caps.b2.cell 0;have v4:=h8.caps.b4.cell 0;have v1:=h8.caps.b1.cell 0;have v3:=h8.caps.b3.cell 0;have v8:=hm.cell 0;have hp:=(h8.wb.old hE hG q hSq).trans hB'.out;have v9:W.cell? ⟨q,2,none⟩=some (.int .i64 l):=a7.cell hp 2;have v7:W.cell? ⟨q,1,none⟩=some (.iface (bn k) (.pointer (some ⟨p,0,none⟩))):=a7.cell hp 1;replace hfin:=up hfin;replace hbit:=up hbit;replace hlt:=up hlt;clear h8 ho hm hp;by_cases hgo:i'<j\/(d:Int)<l
 .obtain⟨cc,hcc⟩:=Jt hE.size hi' hbit.out hgo;have hff:=hfin.out;rw[jJ,if_pos hgo,hcc,yG]at hff;obtain⟨qf,h9⟩:∃qf:Nat->Bool,(λc=>(decide (i'<c)||decide ((d:Int)<l))&& (dI E.M k l m (bS l m d) c).testBit j)=qf:=⟨_,rfl⟩;rw[h9]at hcc;replace h9:=up h9;replace hff:=up hff;replace hcc:=up hcc;rcases(Ta (i'<j)).imp up up with hij|hij
  case' inl=>
   have e1:decide (i'<j)=true:=decide_eq_true hij.out
  case' inr=>
   have e1:decide (i'<j)=false:=decide_eq_false hij.out;have e2:decide ((d:Int)<l)=true:=decide_eq_true (hgo.resolve_left hij.out)
  all_goals
   replace hgo:=up hgo;go_wp2;go_quiet (fail)
   have kd:Kq W.heap.size [] W (W.drewN nq):=(Kq.refl W).drewN nq;have hW3:=(hWS0.out.boxes (w.heap.size+1+1+1) (by simp)).1;have S1:=hWS0.out.own (X:=[]) hW3 (λ_ h=>nomatch h) kd;have M1:=hMk0.out.stay hMk0.out (X:=[]) (λ_ h=>nomatch h) kd;have B1:a7 (W.drewN nq) D 3 #[.int .i64 d]:=hB0.out;replace v1:=(show(W.drewN nq).cell? _=_ from v1);replace v2:=(show(W.drewN nq).cell? _=_ from v2);replace v3:=(show(W.drewN nq).cell? _=_ from v3);replace v7:=(show(W.drewN nq).cell? _=_ from v7);have hDlt1:D<(W.drewN nq).heap.size:=hDlt;have z3:w.heap.size+1+1+1<(W.drewN nq).heap.size:=hW3;clear v4 v8 v9 kd hWS0 hMk0 hB0 hW3 hDlt;generalize W.drewN nq=W1 at *;have kd:Kq W1.heap.size [] W1 W1.drew:=(Kq.refl W1).drew;replace S1:=S1.own (X:=[]) z3 (λ_ h=>nomatch h) kd;replace M1:=M1.stay M1 (X:=[]) (λ_ h=>nomatch h) kd;replace B1:a7 W1.drew D 3 #[.int .i64 d]:=B1;have hRk1:=hRk'.out.keep (w':=W1.drew) λb hb _=>S1.wb.old hE hG b hb
   have hC:=up (hk W1.drew p i' S1.wb.mem hRk1 hi');replace S1:=up S1;replace M1:=up M1;replace B1:=up B1;replace hRk1:=up hRk1;clear kd;go_wp2;go_still_tail 6,(by kernel_rfl)
   change wpList _ _ _ _ _ W1.drew;go_wp2;refine hC.out.mono ?_;rintro e w2 ⟨rfl,hz,k2⟩;have S2:=up (S1.out.asked hE hG hz k2);have hr:=S1.out.wb.new.2.1;have B2:=up (B1.out.kq k2 B1.out.lt λhx=>by have:=x5.1 hx;omega);have M2:=up (M1.out.stay M1.out (λx hx=>by rw[x5.1 hx];exact S1.out.wb.mem.fC) k2);have hDl2:=B2.out.lt;clear hC hz k2 S1 M1 B1 v1 v2 v3 v7 h1 h2 h3 hRk1 e1;try clear e2
   go_wp2;have hw:=up (bZ E.M k i' hi');obtain⟨P,hP⟩:∃P,bv E.M k i'=P:=⟨_,rfl⟩;rw[hP]at hw;have ha:=hcc.out;rw[hP]at ha;replace ha:=up ha;replace hP:=up hP;rw[hP.out];have g0:=up (j4.1 ha.out);refine wpIn_wide (n:=4).1 (qe (X:=[E.r,g,w.heap.size+1+1]) (t:=32) (p:=P) (by decide) rfl ?_
    (λc W'=>df qf P c=some cc/\WS E g (.rep id k l m) q w W' L' i' j/\a7 W' D 3 #[.int .i64 d]/\Marks w.heap.size ds W')
    (λx c W'=>x= .exit 2/\c=cc/\WS E g (.rep id k l m) q w W' (dH (de E.M k i' cc) L') cc j/\a7 W' D 3 #[.int .i64 d]/\Marks w.heap.size ds W') ?_ ?_ ?_ ?_ ?_ ?_ ?_ ?_ ?_)
   case refine_7=>
    intro ll c W' K hK;gi_wp2
    exact hK
   case refine_1=>
    intro x hx;have h1:=S2.out.wb.new;have h2:=S2.out.wb.kq.kp.1;simp only[Sy,AI,or_false]at hx;omega
   case refine_2=>
    rintro c W' W'' ⟨h1,h2,h3,h5⟩ hk';exact⟨h1,h2.own (X:=[]) (by omega) (λ_ h=>nomatch h) hk',h3.kq hk' (by omega) AI,h5.stay M2.out (X:=[]) (λ_ h=>nomatch h) hk'⟩
   case refine_3=>
    rintro x c W' W'' ⟨h1,h2,h3,h4,h5⟩ hk';exact⟨h1,h2,h3.own (X:=[]) (by omega) (λ_ h=>nomatch h) hk',h4.kq hk' (by omega) AI,h5.stay M2.out (X:=[]) (λ_ h=>nomatch h) hk'⟩
   case refine_4=>
    rintro c W' ⟨h1,h2⟩ hb;rw[df,if_neg (by rw[hb];simp)]at h1;exact⟨h1,h2⟩
   case refine_5=>exact⟨ha.out,S2.out,B2.out,M2.out⟩
   case refine_9=>
    rintro W' ⟨h1,_⟩ _;cases h1
   case refine_10=>
    rintro _ c W' hk1 hb ⟨rfl,rfl,h3,hs,h4⟩ ht;have hcs:=(hw.out c hb);have hstep:i'<c\/(d:Int)<l:=by
     have:=g0.out.2.2.1;rw[<- congrFun h9.out c,SX,Tg,decide_eq_true_eq,decide_eq_true_eq]at this;exact this.1
    have h7:=g0.out.2.2.1;rw[<- congrFun h9.out c,SX]at h7;replace h7:=up h7.2;replace hstep:=up hstep;have kA:Kq W'.heap.size [] W' (W'.alloc (.cells #[.int .i64 d] 3)):=(Kq.refl W').alloc (AT _) _;have kB:Kq W'.heap.size [] W' (W'.alloc (.cells #[.int .i64 (bS l m d:Nat)] 3)):=(Kq.refl W').alloc (AT _) _;have nB:a7 (W'.alloc (.cells #[.int .i64 d] 3)) W'.heap.size 3 #[.int .i64 d]:=a7.new W' _ _;have nB2:a7 (W'.alloc (.cells #[.int .i64 (bS l m d:Nat)] 3)) W'.heap.size 3 #[.int .i64 (bS l m d:Nat)]:=a7.new W' _ _;have gf:=hs.lt;have S3:=h3.own (X:=[]) (by omega) (λ_ h=>nomatch h) kA;have S4:=h3.own (X:=[]) (by omega) (λ_ h=>nomatch h) kB;have hv:=(S3.wb.old hE hG q hSq).trans hB'.out;have hA:=up (o9 hv (by omega:d<2000000));have u1:=S3.caps.b1.cell 0;have u8:=nB.cell 0;have u9:=hs.cell 0;have uf:=nB.frozen;have M3:=h4.stay h4 (X:=[]) (λ_ h=>nomatch h) kB;have hh:=(kB.kp.2 _ (SL.1 ht).1 AI).trans ht;replace S4:=up S4;replace M3:=up M3;replace nB2:=up nB2;replace hh:=up hh;clear h3 h4 hs ht S3 hv nB kA kB S2 B2;refine wpIn_wide.2 ?_;go_wp2;refine hA.out.mono ?_;rintro e u ⟨rfl,hu⟩;subst u;go_wp2;have hl0:=hlt.out;have hs0:=hstep.out;refine Handed.intro f (Tc f) (hJ _ _ _ ⟨bS l m d,c,W'.heap.size,dH (de E.M k i' c) L',by unfold bS;split <;>omega,by unfold bS;split <;>omega,⟨rfl,rfl,rfl,rfl,rfl,rfl,rfl,rfl,rfl,rfl⟩,S4.out,by omega,nB2.out,⟨⟨w2.heap.size,rfl,by omega,hh.out,λd' g1 e=> ?_⟩,M3.out⟩,h7.out,hcs.2,by rw[oZ];exact hL',hff.out⟩);rw[e]at g1;exact T4 _ (M2.out.lt _ g1)
   case refine_8=>
    rintro ll c W' hltW hk1 hb ⟨h1,h2,h3,h5⟩;rw[df]at h1;have hcs:=hw.out c hb;have kd:Kq W'.heap.size [] W' W'.drew:=(Kq.refl _).drew;have gf:=h3.lt;have hS:WS E g (.rep id k l m) q w W'.drew L' i' j/\a7 W'.drew D 3 #[.int .i64 d]/\Marks w.heap.size ds W'.drew:=⟨h2.own (X:=[]) (by omega) (λ_ h=>nomatch h) kd,h3,h5.stay h5 (X:=[]) (λ_ h=>nomatch h) kd⟩;clear h2 h3 h5 S2 B2;replace h1:=up h1;replace kd:=up kd;have hL3:∀{K Y Yx},¬ LetsOut (Exit.then K (T9 3 (jY [E.r,g,w.heap.size+1+1] W' Y Yx))):=λ⟨_,_,h⟩=>h
    gi_wp2
    have hzd:W'.drew.heap.size=W'.heap.size:=rfl;have hBq6:=(hS.1.wb.old hE hG q hSq).trans hB'.out;have htri:Hid (i'<c)\/(Hid (¬ i'<c)/\Hid ((d:Int)<l))\/(Hid (¬ i'<c)/\Hid ¬ (d:Int)<l):=by
     rcases Ta (i'<c)with h|h
     .exact .inl (up h)
     .rcases Ta ((d:Int)<l)with h'|h'
      .exact .inr (.inl ⟨up h,up h'⟩)
      .exact .inr (.inr ⟨up h,up h'⟩)
    rcases htri with t1|⟨t1,t2⟩|⟨t1,t2⟩
    case' inl=>
     have e1:decide (i'<c)=true:=decide_eq_true t1.out;refine gO (S:=λu=>WS E g (.rep id k l m) q w u L' i' j/\a7 u D 3 #[.int .i64 d]/\Marks w.heap.size ds u) (by kernel_rfl) hL3 (by kernel_rfl) ?_;show wpAnyH _ _ _ _ _ 22 _ _ W'.drew;generalize W'.drew=W6 at hS kd hzd hBq6 ⊢;refine takeD 0 33 (.int .i64 c) rfl rfl (by kernel_rfl) (by kernel_rfl) (by kernel_rfl) (λ_ _ _ h=>h) (BY ⟨by rfl,λw' hS'=> ?_⟩) hS ?_
     .skip
      go_simp
     simp only[AS,zq0];refine takeD 1 34 (.int .i64 i') rfl rfl (by kernel_rfl) (by kernel_rfl) (by kernel_rfl) (λ_ _ _ h=>h) (BY ⟨by rfl,λw' hS'=> ?_⟩) hS ?_
     .have h1:=hS'.1.caps.b2.cell 0;go_simp
     simp only[AS,zq0];refine takeD 2 35 (.bool true) rfl rfl (by kernel_rfl) (by kernel_rfl) (by kernel_rfl) (λ_ _ _ h=>h) (BY ⟨by rfl,λw' hS'=> ?_⟩) hS ?_
     .have h1:=e1;go_simp
     simp only[AS,zq0];refine takeD 3 36 (.bool true) rfl rfl (by kernel_rfl) (by kernel_rfl) (by kernel_rfl) (λ_ _ _ h=>h) (BY ⟨by rfl,λw' hS'=> ?_⟩) hS ?_
     .skip
      go_simp
     simp only[AS,zq0];refine takeD 4 37 undef rfl rfl (by kernel_rfl) (by kernel_rfl) (by kernel_rfl) (λ_ _ _ h=>h) (SK ⟨by rfl,rfl⟩) hS ?_;simp only[AS,zq0];refine takeD 5 38 undef rfl rfl (by kernel_rfl) (by kernel_rfl) (by kernel_rfl) (λ_ _ _ h=>h) (SK ⟨by rfl,rfl⟩) hS ?_;simp only[AS,zq0];refine takeD 6 39 undef rfl rfl (by kernel_rfl) (by kernel_rfl) (by kernel_rfl) (λ_ _ _ h=>h) (SK ⟨by rfl,rfl⟩) hS ?_;simp only[AS,zq0];refine takeD 7 40 undef rfl rfl (by kernel_rfl) (by kernel_rfl) (by kernel_rfl) (λ_ _ _ h=>h) (SK ⟨by rfl,rfl⟩) hS ?_;simp only[AS,zq0];refine takeD 8 41 undef rfl rfl (by kernel_rfl) (by kernel_rfl) (by kernel_rfl) (λ_ _ _ h=>h) (SK ⟨by rfl,rfl⟩) hS ?_;simp only[AS,zq0];refine takeD 9 42 undef rfl rfl (by kernel_rfl) (by kernel_rfl) (by kernel_rfl) (λ_ _ _ h=>h) (SK ⟨by rfl,rfl⟩) hS ?_;simp only[AS,zq0]
    case' inr.inl=>
     have e1:decide (i'<c)=false:=decide_eq_false t1.out;have e2:decide ((d:Int)<l)=true:=decide_eq_true t2.out;refine gO (S:=λu=>WS E g (.rep id k l m) q w u L' i' j/\a7 u D 3 #[.int .i64 d]/\Marks w.heap.size ds u) (by kernel_rfl) hL3 (by kernel_rfl) ?_;show wpAnyH _ _ _ _ _ 22 _ _ W'.drew;generalize W'.drew=W6 at hS kd hzd hBq6 ⊢;refine takeD 0 33 (.int .i64 c) rfl rfl (by kernel_rfl) (by kernel_rfl) (by kernel_rfl) (λ_ _ _ h=>h) (BY ⟨by rfl,λw' hS'=> ?_⟩) hS ?_
     .skip
      go_simp
     simp only[AS,zq0];refine takeD 1 34 (.int .i64 i') rfl rfl (by kernel_rfl) (by kernel_rfl) (by kernel_rfl) (λ_ _ _ h=>h) (BY ⟨by rfl,λw' hS'=> ?_⟩) hS ?_
     .have h1:=hS'.1.caps.b2.cell 0;go_simp
     simp only[AS,zq0];refine takeD 2 35 (.bool false) rfl rfl (by kernel_rfl) (by kernel_rfl) (by kernel_rfl) (λ_ _ _ h=>h) (BY ⟨by rfl,λw' hS'=> ?_⟩) hS ?_
     .have h1:=e1;go_simp
     simp only[AS,zq0];refine takeD 3 36 (.bool false) rfl rfl (by kernel_rfl) (by kernel_rfl) (by kernel_rfl) (λ_ _ _ h=>h) (BY ⟨by rfl,λw' hS'=> ?_⟩) hS ?_
     .skip
      go_simp
     simp only[AS,zq0];refine takeD 4 37 (.int .i64 d) rfl rfl (by kernel_rfl) (by kernel_rfl) (by kernel_rfl) (λ_ _ _ h=>h) (BY ⟨by rfl,λw' hS'=> ?_⟩) hS ?_
     .have h1:=hS'.2.1.cell 0;go_simp
     simp only[AS,zq0];refine takeD 5 38 (.pointer (some ⟨q,0,none⟩)) rfl rfl (by kernel_rfl) (by kernel_rfl) (by kernel_rfl) (λ_ _ _ h=>h) (BY ⟨by rfl,λw' hS'=> ?_⟩) hS ?_
     .have h1:=hS'.1.caps.b1.cell 0;go_simp
     simp only[AS,zq0];refine takeD 6 39 (.pointer (some ⟨q,0,none⟩)) rfl rfl (by kernel_rfl) (by kernel_rfl) (by kernel_rfl) (λ_ _ _ h=>h) (BY ⟨by rfl,λw' hS'=> ?_⟩) hS ?_
     .skip
      go_simp
     simp only[AS,zq0];refine takeD 7 40 (.pointer (some ⟨q,2,none⟩)) rfl rfl (by kernel_rfl) (by kernel_rfl) (by kernel_rfl) (λ_ _ _ h=>h) (BY ⟨by rfl,λw' hS'=> ?_⟩) hS ?_
     .skip
      go_simp
     simp only[AS,zq0];refine takeD 8 41 (.int .i64 l) rfl rfl (by kernel_rfl) (by kernel_rfl) (by kernel_rfl) (λ_ _ _ h=>h) (BY ⟨by rfl,λw' hS'=> ?_⟩) hS ?_
     .have h1:=a7.cell ((hS'.1.wb.old hE hG q hSq).trans hB'.out) 2;go_simp
     simp only[AS,zq0];refine takeD 9 42 (.bool true) rfl rfl (by kernel_rfl) (by kernel_rfl) (by kernel_rfl) (λ_ _ _ h=>h) (BY ⟨by rfl,λw' hS'=> ?_⟩) hS ?_
     .have h1:=e2;go_simp
     simp only[AS,zq0]
    case inr.inr=>
     have e1:decide (i'<c)=false:=decide_eq_false t1.out;have e2:decide ((d:Int)<l)=false:=decide_eq_false t2.out;refine gO (S:=λu=>WS E g (.rep id k l m) q w u L' i' j/\a7 u D 3 #[.int .i64 d]/\Marks w.heap.size ds u) (by kernel_rfl) hL3 (by kernel_rfl) ?_;show wpAnyH _ _ _ _ _ 22 _ _ W'.drew;generalize W'.drew=W6 at hS kd hzd hBq6 ⊢;refine takeD 0 33 (.int .i64 c) rfl rfl (by kernel_rfl) (by kernel_rfl) (by kernel_rfl) (λ_ _ _ h=>h) (BY ⟨by rfl,λw' hS'=> ?_⟩) hS ?_
     .skip
      go_simp
     simp only[AS,zq0];refine takeD 1 34 (.int .i64 i') rfl rfl (by kernel_rfl) (by kernel_rfl) (by kernel_rfl) (λ_ _ _ h=>h) (BY ⟨by rfl,λw' hS'=> ?_⟩) hS ?_
     .have h1:=hS'.1.caps.b2.cell 0;go_simp
     simp only[AS,zq0];refine takeD 2 35 (.bool false) rfl rfl (by kernel_rfl) (by kernel_rfl) (by kernel_rfl) (λ_ _ _ h=>h) (BY ⟨by rfl,λw' hS'=> ?_⟩) hS ?_
     .have h1:=e1;go_simp
     simp only[AS,zq0];refine takeD 3 36 (.bool false) rfl rfl (by kernel_rfl) (by kernel_rfl) (by kernel_rfl) (λ_ _ _ h=>h) (BY ⟨by rfl,λw' hS'=> ?_⟩) hS ?_
     .skip
      go_simp
     simp only[AS,zq0];refine takeD 4 37 (.int .i64 d) rfl rfl (by kernel_rfl) (by kernel_rfl) (by kernel_rfl) (λ_ _ _ h=>h) (BY ⟨by rfl,λw' hS'=> ?_⟩) hS ?_
     .have h1:=hS'.2.1.cell 0;go_simp
     simp only[AS,zq0];refine takeD 5 38 (.pointer (some ⟨q,0,none⟩)) rfl rfl (by kernel_rfl) (by kernel_rfl) (by kernel_rfl) (λ_ _ _ h=>h) (BY ⟨by rfl,λw' hS'=> ?_⟩) hS ?_
     .have h1:=hS'.1.caps.b1.cell 0;go_simp
     simp only[AS,zq0];refine takeD 6 39 (.pointer (some ⟨q,0,none⟩)) rfl rfl (by kernel_rfl) (by kernel_rfl) (by kernel_rfl) (λ_ _ _ h=>h) (BY ⟨by rfl,λw' hS'=> ?_⟩) hS ?_
     .skip
      go_simp
     simp only[AS,zq0];refine takeD 7 40 (.pointer (some ⟨q,2,none⟩)) rfl rfl (by kernel_rfl) (by kernel_rfl) (by kernel_rfl) (λ_ _ _ h=>h) (BY ⟨by rfl,λw' hS'=> ?_⟩) hS ?_
     .skip
      go_simp
     simp only[AS,zq0];refine takeD 8 41 (.int .i64 l) rfl rfl (by kernel_rfl) (by kernel_rfl) (by kernel_rfl) (λ_ _ _ h=>h) (BY ⟨by rfl,λw' hS'=> ?_⟩) hS ?_
     .have h1:=a7.cell ((hS'.1.wb.old hE hG q hSq).trans hB'.out) 2;go_simp
     simp only[AS,zq0];refine takeD 9 42 (.bool false) rfl rfl (by kernel_rfl) (by kernel_rfl) (by kernel_rfl) (λ_ _ _ h=>h) (BY ⟨by rfl,λw' hS'=> ?_⟩) hS ?_
     .have h1:=e2;go_simp
     simp only[AS,zq0];refine takeD 10 43 (.bool false) rfl rfl (by kernel_rfl) (by kernel_rfl) (by kernel_rfl) (λ_ _ _ h=>h) (BY ⟨by rfl,λw' hS'=> ?_⟩) hS ?_
     .skip
      go_simp
     simp only[AS,zq0];refine takeD 11 44 (.bool false) rfl rfl (by kernel_rfl) (by kernel_rfl) (by kernel_rfl) (λ_ _ _ h=>h) (BY ⟨by rfl,λw' hS'=> ?_⟩) hS ?_
     .skip
      go_simp
     simp only[AS,zq0];refine takeD 12 45 undef rfl rfl (by kernel_rfl) (by kernel_rfl) (by kernel_rfl) (λ_ _ _ h=>h) (SK ⟨by rfl,rfl⟩) hS ?_;simp only[AS,zq0];refine takeD 13 46 undef rfl rfl (by kernel_rfl) (by kernel_rfl) (by kernel_rfl) (λ_ _ _ h=>h) (SK ⟨by rfl,rfl⟩) hS ?_;simp only[AS,zq0];refine takeD 14 47 undef rfl rfl (by kernel_rfl) (by kernel_rfl) (by kernel_rfl) (λ_ _ _ h=>h) (SK ⟨by rfl,rfl⟩) hS ?_;simp only[AS,zq0];refine takeD 15 48 undef rfl rfl (by kernel_rfl) (by kernel_rfl) (by kernel_rfl) (λ_ _ _ h=>h) (SK ⟨by rfl,rfl⟩) hS ?_;simp only[AS,zq0];refine takeD 16 49 undef rfl rfl (by kernel_rfl) (by kernel_rfl) (by kernel_rfl) (λ_ _ _ h=>h) (SK ⟨by rfl,rfl⟩) hS ?_;simp only[AS,zq0];refine takeD 17 50 undef rfl rfl (by kernel_rfl) (by kernel_rfl) (by kernel_rfl) (λ_ _ _ h=>h) (SK ⟨by rfl,rfl⟩) hS ?_;simp only[AS,zq0];refine takeD 18 51 undef rfl rfl (by kernel_rfl) (by kernel_rfl) (by kernel_rfl) (λ_ _ _ h=>h) (SK ⟨by rfl,rfl⟩) hS ?_;simp only[AS,zq0];refine takeD 19 52 undef rfl rfl (by kernel_rfl) (by kernel_rfl) (by kernel_rfl) (λ_ _ _ h=>h) (SK ⟨by rfl,rfl⟩) hS ?_;simp only[AS,zq0];refine takeD 20 53 undef rfl rfl (by kernel_rfl) (by kernel_rfl) (by kernel_rfl) (λ_ _ _ h=>h) (SK ⟨by rfl,rfl⟩) hS ?_;simp only[AS,zq0];refine takeD 21 54 (.bool false) rfl rfl (by kernel_rfl) (by kernel_rfl) (by kernel_rfl) (λ_ _ _ h=>h) (BY ⟨by rfl,λw' hS'=> ?_⟩) hS ?_
     .skip
      go_simp
     simp only[AS,zq0];refine wpAnyH_done (by kernel_rfl) ?_ _;replace hS:=up hS;clear hBq6;have h0:qf c=false:=by rw[<- congrFun h9.out c,e1,e2];rfl
     replace h0:=up h0;gi_wp2
     refine⟨kd.out.mono (by omega) nofun,?_,hS.out⟩;have:=h1.out;rw[if_neg (by rw[h0.out];simp)]at this;exact this
    all_goals
     refine takeD 10 43 (.bool true) rfl rfl (by kernel_rfl) (by kernel_rfl) (by kernel_rfl) (λ_ _ _ h=>h) (BY ⟨by rfl,λw' hS'=> ?_⟩) hS ?_
     .skip
      go_simp
     simp only[AS,zq0];refine takeD 11 44 (.bool true) rfl rfl (by kernel_rfl) (by kernel_rfl) (by kernel_rfl) (λ_ _ _ h=>h) (BY ⟨by rfl,λw' hS'=> ?_⟩) hS ?_
     .skip
      go_simp
     simp only[AS,zq0];refine takeD 12 45 (.pointer (some ⟨q,0,none⟩)) rfl rfl (by kernel_rfl) (by kernel_rfl) (by kernel_rfl) (λ_ _ _ h=>h) (BY ⟨by rfl,λw' hS'=> ?_⟩) hS ?_
     .have h1:=hS'.1.caps.b1.cell 0;go_simp
     simp only[AS,zq0];refine takeD 13 46 (.pointer (some ⟨E.m,0,none⟩)) rfl rfl (by kernel_rfl) (by kernel_rfl) (by kernel_rfl) (λ_ _ _ h=>h) (BY ⟨by rfl,λw' hS'=> ?_⟩) hS ?_
     .have h1:=hS'.1.caps.b3.cell 0;go_simp
     simp only[AS,zq0];refine takeD 14 47 (.pointer (some ⟨q,0,none⟩)) rfl rfl (by kernel_rfl) (by kernel_rfl) (by kernel_rfl) (λ_ _ _ h=>h) (BY ⟨by rfl,λw' hS'=> ?_⟩) hS ?_
     .have h1:=hS'.1.caps.b1.cell 0;go_simp
     simp only[AS,zq0];refine takeD 15 48 (.int .i64 d) rfl rfl (by kernel_rfl) (by kernel_rfl) (by kernel_rfl) (λ_ _ _ h=>h) (BY ⟨by rfl,λw' hS'=> ?_⟩) hS ?_
     .have h1:=hS'.2.1.cell 0;go_simp
     simp only[AS,zq0];refine takeD 17 50 (.int .i64 c) rfl rfl (by kernel_rfl) (by kernel_rfl) (by kernel_rfl) (λ_ _ _ h=>h) (BY ⟨by rfl,λw' hS'=> ?_⟩) hS ?_
     .skip
      go_simp
     simp only[AS,zq0];refine takeD 19 52 (.int .i64 j) rfl rfl (by kernel_rfl) (by kernel_rfl) (by kernel_rfl) (λ_ _ _ h=>h) (BY ⟨by rfl,λw' hS'=> ?_⟩) hS ?_
     .have h1:=hS'.1.caps.b4.cell 0;go_simp
     simp only[AS,zq0];have g2:=o9 hBq6 (by omega:d<2000000);refine FK (R:=λu=>u=W6) 16 49 _ 244 #[.pointer (some ⟨q,0,none⟩),.int .i64 d] rfl rfl (by rfl) (by kernel_rfl) (by go_simp) g2 ?_;rintro u hu;subst u;refine⟨hS,?_⟩;simp only[AS,zq0];have hmA:bS l m d<=d+1:=by unfold bS;split <;>omega
     have hlt0:=hlt.out;have hH:=hd.out (bS l m d) c (by omega) (by omega) W6 q hS.1.wb.mem hS.1.wb.rep hcs.2;refine FK (R:=λu=>cI E u/\Kq W6.heap.size [E.r] W6 u) 18 51 _ 243 #[.pointer (some ⟨q,0,none⟩),.pointer (some ⟨E.m,0,none⟩),.int .i64 (bS l m d:Nat),.int .i64 c] rfl rfl (by rfl) (by kernel_rfl) (by go_simp) hH ?_;rintro W7 ⟨g3,k7⟩;have hr6:=hS.1.wb.new.2.1;have S7:WS E g (.rep id k l m) q w W7 L' i' j/\a7 W7 D 3 #[.int .i64 d]/\Marks w.heap.size ds W7:=⟨hS.1.asked hE hG g3 k7,hS.2.1.kq k7 hS.2.1.lt λhx=>by have:=x5.1 hx;omega,hS.2.2.stay hS.2.2 (λx hx=>by rw[x5.1 hx];exact hS.1.wb.mem.fC) k7⟩;refine⟨S7,?_⟩;simp only[AS,zq0];have g4:=oV j (dI E.M k l m (bS l m d) c) W7 (by omega);refine FK (R:=λu=>Kq W7.heap.size [] W7 u) 20 53 _ 131 #[ep (dI E.M k l m (bS l m d) c),.int .i64 j] rfl rfl (by rfl) (by kernel_rfl) (by go_simp) g4 ?_;rintro W8 k8;have z7:=S7.2.1.lt;have S8:WS E g (.rep id k l m) q w W8 L' i' j/\a7 W8 D 3 #[.int .i64 d]/\Marks w.heap.size ds W8:=⟨S7.1.own (X:=[]) (by omega) (λ_ h=>nomatch h) k8,S7.2.1.kq k8 S7.2.1.lt AI,S7.2.2.stay S7.2.2 (X:=[]) (λ_ h=>nomatch h) k8⟩;refine⟨S8,?_⟩;simp only[AS,zq0];have hS2:=hS;have hS:=S8;refine takeD 21 54 (.bool ((dI E.M k l m (bS l m d) c).testBit j)) rfl rfl (by kernel_rfl) (by kernel_rfl) (by kernel_rfl) (λ_ _ _ h=>h) (BY ⟨by rfl,λw' hS'=> ?_⟩) hS ?_
     .skip
      go_simp
     simp only[AS,zq0];refine wpAnyH_done (by kernel_rfl) ?_ _;have kall:Hid (Kq W'.heap.size [E.r] W' W8):=up (((kd.out.mono (AT _) nofun).trans (k7.mono kd.out.kp.1 λ_ h _=>h)).trans (k8.mono (SI kd.out.kp.1 k7.kp.1) nofun));have h0:qf c=(dI E.M k l m (bS l m d) c).testBit j:=by
      rw[<- congrFun h9.out c];first
       |(rw[e1];simp;done)
       |(rw[e1,e2];simp)
     replace hS:=up hS;replace h0:=up h0;replace e1:=up e1;clear S7 S8 k7 k8 g3 hS2 hH g4 g2 hBq6;by_cases hq:(dI E.M k l m (bS l m d) c).testBit j=true
     .have gh:c=cc:=by
       have:=h1.out;rw[if_pos (by rw[hb,h0.out,hq];rfl)]at this;exact Option.some.inj this
      subst gh;rw[hq];replace hq:=up hq;have z8:w.heap.size+1+1+1<W8.heap.size:=(hS.out.1.boxes (w.heap.size+1+1+1) (by simp)).1;have hRk8:=hRk'.out.keep (w':=W8.drew) λb hb _=>hS.out.1.wb.old hE hG b hb
      have k9d:Kq W8.heap.size [] W8 W8.drew:=(Kq.refl W8).drew;have S9:=hS.out.1.own (X:=[]) z8 (λ_ h=>nomatch h) k9d;have M9:=hS.out.2.2.stay hS.out.2.2 (X:=[]) (λ_ h=>nomatch h) k9d;have B9:Hid (a7 W8.drew D 3 #[.int .i64 d]):=up hS.out.2.1;have hCw:=up (hwk W8.drew p i' c L' S9.wb.mem hRk8 hi' (by rw[hP.out];exact hb) hL' S9.wb.sp);have hBq8:=(hS.out.1.wb.old hE hG q hSq).trans hB'.out;have u1:=hS.out.1.caps.b1.cell 0;have u2:=hS.out.1.caps.b2.cell 0;have u3:=hS.out.1.caps.b3.cell 0;have u5:W8.cell? ⟨q,1,none⟩=some (.iface (bn k) (.pointer (some ⟨p,0,none⟩))):=a7.cell hBq8 1;have hL7:∀{K Y Yx},¬ LetsOut (Exit.then K (T9 3 (jY [E.r,g,w.heap.size+1+1] W' Y Yx))):=λ⟨_,_,h⟩=>h
      replace S9:=up S9;replace M9:=up M9;clear hRk8 hBq8;gi_wp2
      refine qq 7 (by kernel_rfl) hL7 (by kernel_rfl) (by kernel_rfl) ?_;simp only[SN,List.take_zero,SO,List.drop_zero];repeat still_step
      try refine wpStill_nil ?_
      change wpList _ _ _ _ _ W8.drew;go_wp2;refine hCw.out.mono ?_;rintro e W9 ⟨rfl,g5,g9,k9⟩;have S10:=S9.out.walked hE hG g5 g9 k9;have gb:∀x∈[E.r,g],W8.drew.heap[x]?≠some (.deferred (some [])):=λx hx=>by
       simp only[Sy,AI,or_false]at hx;rcases hx with rfl|rfl
       .exact S9.out.wb.mem.fC
       .exact fC S9.out.wb.sp
      have M10:=M9.out.stay M9.out gb k9;have hg6:=S9.out.wb.new.2.2.1;have hr7:=S9.out.wb.new.2.1;have B10:=B9.out.kq k9 B9.out.lt λhx=>by
       simp only[Sy,AI,or_false]at hx;omega
      have u4:=S10.caps.b2.cell 0;have u6:=S10.caps.b2.frozen;have kB:Kq W9.heap.size [w.heap.size+1+1] W9 (W9.setCell ⟨w.heap.size+1+1,0,none⟩ (.int .i64 c)):=(Kq.refl W9).setCell (p:=⟨w.heap.size+1+1,0,none⟩) (λ_=>x5.2 rfl) _;have M11:=M10.stay M10 (λx hx=>by rw[x5.1 hx];exact fC S10.caps.b2) kB;have B11:=B10.kq kB B10.lt λhx=>by have:=x5.1 hx;omega
      have S11:=S10.moved c;have kfin:Kq W'.heap.size [E.r,g,w.heap.size+1+1] W' (W9.setCell ⟨w.heap.size+1+1,0,none⟩ (.int .i64 c)):=(((kall.out.mono (AT _) λx hx _=>by rw[x5.1 hx];exact SU).trans (k9d.mono kall.out.kp.1 nofun)).trans (k9.mono kall.out.kp.1 λx hx _=>by
       simp only[Sy,AI,or_false]at hx ⊢;exact hx.imp (λh=>h) .inl)).trans (kB.mono (SI kall.out.kp.1 k9.kp.1) λx hx _=>by rw[x5.1 hx];simp)
      replace M11:=up M11;replace B11:=up B11;replace S11:=up S11;replace kfin:=up kfin;clear g5 g9 k9 S9 M9 B9 S10 M10 B10 kB hS hCw gb k9d u1 u2 u3 u5;dsimp only;first
       |go_step
       |(refine ‹∀(a:Act)(w_1:SJ),wpList PM _ _ [] a w_1->_› _ _ ?_)
      refine wpList_nil ?_;gi_wp2
      exact⟨kfin.out,rfl,S11.out,B11.out,M11.out⟩
     .have he:=Bool.eq_false_iff.2 hq;rw[he];replace he:=up he;clear hq;gi_wp2
      refine⟨kall.out.mono (AT _) λx hx _=>by rw[x5.1 hx];exact SU,?_,hS.out⟩;have:=h1.out;rw[if_neg (by rw[h0.out,he.out];simp)]at this;exact this
 .have hff:=hfin.out;rw[jJ,if_neg hgo]at hff;have e1:decide (i'<j)=false:=decide_eq_false λh=>hgo (.inl h)
  have e2:decide ((d:Int)<l)=false:=decide_eq_false λh=>hgo (.inr h)
  have hfin2:Hid (L'=dH (jJ E.M k l m (de E.M k) j (l.toNat+400) 0 i) L):=up hff;replace hgo:=up hgo;clear hbit hfin hff hJ;go_wp2;go_quiet (fail)
  have kd:Kq W.heap.size [] W (W.drewN nq):=(Kq.refl W).drewN nq;have M1:=up (hMk0.out.stay hMk0.out (X:=[]) (λ_ h=>nomatch h) kd);have S1:=up (hWS0.out.own (X:=[]) (hWS0.out.boxes (w.heap.size+1+1+1) (by simp)).1 (λ_ h=>nomatch h) kd);clear kd v1 v2 v3 v4 v7 v8 v9;generalize W.drewN nq=W1 at *;go_wp2;refine ot rfl M1.out λW' hk'=> ?_
  have hB:=S1.out.wb.own (X:=[]) (AT _) (λ_ h=>nomatch h) hk';rw[<- hfin2.out];exact⟨rfl,hB.mem,hB.sp,hB.kq⟩
end
section
open Go.RowKit
mutual
theorem walk_any{E}(hE:fu E)(hW:te E){g G}(hG:lL E g G):∀nd,(∀a∈subs nd,a∈subs E.R)->WalkC E g G nd
 | .set i a b c d,h=>CK
 | .edge i f,h=>BE
 | .seq i ks,h=>
  have h':=λa ha=>h a (by rw[subs];grind)
  CM hE hG (mp hE hW ks h') (sg hE hW hG ks h') (h _ (sub_self _))
 | .alt i ks,h=>
  have h':=λa ha=>h a (by rw[subs];grind)
  Dn hE hG (mp hE hW ks h') (sg hE hW hG ks h') (hW.alt i ks (h _ (sub_self _)))
 | .grp i k n,h=>Da hE hG (walk_any hE hW hG k λa ha=>h a (by rw[subs];grind)) (h _ (sub_self _))
 | .rep i k l m,h=>
  have h':=λa ha=>h a (by rw[subs];grind)
  CU hE hG (ox hE hW k h') (walk_any hE hW hG k h') (h _ (sub_self _))
theorem sg{E:ME}(hE:fu E)(hW:te E){g G:Nat}(hG:lL E g G):∀ks,(∀a∈gJ ks,a∈subs E.R)->∀k∈ks,WalkC E g G k
 |[],_,k,hk=>by cases hk
 |x::ks,h,k,hk=>by
  rcases Sy.1 hk with e|hk
  .have:=walk_any hE hW hG x λa ha=>h a (List.mem_append_left _ ha)
   rw[e];omega
  .exact sg hE hW hG ks (λa ha=>h a (List.mem_append_right _ ha)) k hk
end
end
section
open Go.RowKit
attribute [local go_sem] Te
abbrev dM:Int×Int:=(-1,-1)
def G1(E:ME)(g G i:Nat)(w:SJ)(e:Ending)(w':SJ):Prop:=cI E w'/\match df (λ_=>true) (bv E.M E.R i) 320 with
 |none=>e= .returned (.slice none 0 0)/\Kq w.heap.size [E.r] w w'
 |some j=>e= .returned E.sp/\a7 w' g 54 (dw (dH (((0:Int),i,j)::de E.M E.R i j) (By (G+1) dM)))/\Kq w.heap.size [E.r,g] w w'
theorem CR{fn p t}(h:fn.results=#[.cell p t]){tmps a x w}(ha:tmps.getD p undef= .pointer (some ⟨a,0,none⟩))(la:(loadVar t ⟨a,0,none⟩).run PM w= .ok x w):(results fn tmps).run PM w= .ok x w:=by
 simp_all[results,asAddr]
theorem JX{t b v w}(h0:∀w,(isAgg t).run PM w= .ok false w)(hc:w.cell? ⟨b,0,none⟩=some v):(loadVar t ⟨b,0,none⟩).run PM w= .ok v w:=by
 simp[loadVar,h0,hc]
theorem pV{fn p t t' n B g tmps R v}(hr:fn.results=#[.cell p t])(hp:tmps.getD p undef= .pointer (some ⟨g,0,none⟩))(h0:∀w,(isAgg t).run PM w= .ok false w):
 ∀{ds W},a7 W g t' #[v]->Marks B ds W->(∀W',Kq B [] W W'->R (.returned v) W')->LeavesInM Fence.wide n PM fn tmps R ds .returning W
 |[],W,hg,_,hR=>⟨_,CR hr hp (JX h0 (hg.cell 0)),hR W (.refl W)⟩
 |d::ds,W,hg,⟨⟨D,h1,h2,h3,h4⟩,h⟩,hR=>by
  refine⟨by simp,.inl ⟨D,_,by rw[h1],run_takeDeferred h3,pV hr hp h0 (B:=B) ((SY (by rintro rfl;exact fC hg h3)).trans hg) (h.keep λD' hD hm h3'=> ?_) λW' hk=>hR W' (((Kq.refl W).put (λh=>absurd h (by omega)) _).trans (hk.mono (AT _) λ_ h _=>h))⟩⟩;refine SY ?_;grind
theorem OV(w v)(m i:Nat):
 ∃W,W=(((w.alloc (.cells #[.pointer (some ⟨m,0,none⟩)] 174)).alloc (.cells #[v] 86)).alloc (.cells #[.int .i64 i] 3)).alloc (.cells #[.slice none 0 0] 48)/\a7 W w.heap.size 174 #[.pointer (some ⟨m,0,none⟩)]/\a7 W (w.heap.size+1) 86 #[v]/\a7 W (w.heap.size+1+1) 3 #[.int .i64 i]/\a7 W (w.heap.size+1+1+1) 48 #[.slice none 0 0]/\Kq w.heap.size [] w W:=by
 have st:∀(W:SJ)(o:Obj){b:Nat}{t c},a7 W b t c->a7 (W.alloc o) b t c:=λW o{b t c} h=>h.alloc o
 have nw:∀(W:SJ)(t c)(n:Nat),W.heap.size=n->a7 (W.alloc (.cells c t)) n t c:=λW t c n h=>h▸a7.new W t c
 exact⟨_,rfl,st _ _ (st _ _ (st _ _ (a7.new w _ _))),st _ _ (st _ _ (nw _ _ _ _ (by simp))),st _ _ (nw _ _ _ _ (by simp)),nw _ _ _ _ (by simp),((((Kq.refl w).alloc (AT _) _).alloc (by simp) _).alloc (by simp) _).alloc (by simp) _⟩
theorem xM:∀{L:Sp}{n},n<L.length->(By n dM++L.drop n).set n dM=By (n+1) dM++L.drop (n+1)
 |x::L,0,_=>rfl
 |x::L,n+1,h=>by
  have:=xM (L:=L) (n:=n) (by simpa using h);simp[List.replicate_succ,this]
theorem Oo{E}(hE:fu E)(hW:te E){g G}(hG:lL E g G){w q i L}(hM:cI E w)(hR:Repr w E.S (.iface (bn E.R) (.pointer (some ⟨q,0,none⟩))) E.R)(hi:i<=E.M.s.size)(hL:L.length=G+1)(hg:a7 w g 54 (dw L)):
 Calls PM 81 #[.pointer (some ⟨E.m,0,none⟩),.iface (bn E.R) (.pointer (some ⟨q,0,none⟩)),.int .i64 i] w (G1 E g G i w):=by
 have hk:=ox hE hW E.R λa h=>h
 have hwk:=walk_any hE hW hG E.R λa h=>h
 have hsz:=hE.size;have B0:=WB.start hE hM hR hg;have h1:=fN E.R ⟨q,0,none⟩;have h2:=gu E.R ⟨q,0,none⟩;have h3:=i9 E.R;have h4:=jD E.R ⟨q,0,none⟩;have h5:=kC E.R ⟨q,0,none⟩;have h6:=walk_call E.R;obtain⟨W1,hW1,b1,b2,b3,b4,k1⟩:=OV w (.iface (bn E.R) (.pointer (some ⟨q,0,none⟩))) E.m i;have B1:=B0.own (X:=[]) (AT _) (λ_ h=>nomatch h) k1;have hC:=hk W1 q i B1.mem B1.rep hi;have v1:=b1.cell 0;have v2:=b2.cell 0;have v3:=b3.cell 0;rw[hW1]at v1 v2 v3;replace hW1:=up hW1;replace b1:=up b1;replace b2:=up b2;replace b3:=up b3;replace b4:=up b4;replace B1:=up B1;replace hC:=up hC;replace k1:=up k1;clear hM hR hg B0;refine callsIn_wide (n:=4).1 (callsIn_of_wp_marks (PM.func Tryz.func81 (by decide)) rfl trivial ?_ rfl);simp only[Tryz.ntmps81,No,Sw,SC,SH,SG,IS,IN,OF,IT,Sz,Sx];refine wpIn_wide.2 ?_;go_wp2;rw[<- hW1.out];refine hC.out.mono ?_;rintro e w2 ⟨rfl,he,k2⟩;have B2:=up (B1.out.asked hE hG he k2);have hr:=B1.out.new.2.1;have hgw:=B1.out.new.2.2.1;have st2:∀{b t c},a7 W1 b t c->w.heap.size<=b->a7 w2 b t c:=λhb hlo=>hb.kq k2 hb.lt λhx=>by have:=x5.1 hx;omega
 have c1:=up (st2 b1.out (AT _));have c2:=up (st2 b2.out (by omega));have c3:=up (st2 b3.out (by omega));have c4:=up (st2 b4.out (by omega));have hlt2:=c4.out.lt;have k02:=up ((k1.out.mono (AT _) nofun:Kq w.heap.size [E.r] w W1).trans (k2.mono k1.out.kp.1 λ_ h _=>h));clear st2 hC he k2 B1 b1 b2 b3 b4 v1 v2 v3 h1 h2 h3 hW1;go_wp2;have hw:=up (bZ E.M E.R i hi);obtain⟨P,hP⟩:∃P,bv E.M E.R i=P:=⟨_,rfl⟩;rw[hP]at hw;rw[hP];have h8:∀(e:Ending)(w':SJ),(cI E w'/\match df (λ_=>true) P 320 with
  |none=>e= .returned (.slice none 0 0)/\Kq w.heap.size [E.r] w w'
  |some j=>e= .returned E.sp/\a7 w' g 54 (dw (dH (((0:Int),i,j)::de E.M E.R i j) (By (G+1) dM)))/\Kq w.heap.size [E.r,g] w w')->G1 E g G i w e w':=λe w' h=>by unfold G1;rw[hP];exact h
 replace hP:=up hP;replace h8:=up h8;refine wpIn_wide (n:=4).1 (qe (X:=[E.r,g,w.heap.size+1+1+1]) (t:=14) (p:=P) (by decide) rfl ?_
  (λk W'=>df (λ_=>true) P k=df (λ_=>true) P 320/\WB E g E.R q w W' L/\Kq w.heap.size [E.r] w W'/\a7 W' w.heap.size 174 #[.pointer (some ⟨E.m,0,none⟩)]/\a7 W' (w.heap.size+1) 86 #[.iface (bn E.R) (.pointer (some ⟨q,0,none⟩))]/\a7 W' (w.heap.size+1+1) 3 #[.int .i64 i]/\a7 W' (w.heap.size+1+1+1) 48 #[.slice none 0 0])
  (λc k W'=>c= .ret/\df (λ_=>true) P 320=some k/\WB E g E.R q w W' (dH (((0:Int),i,k)::de E.M E.R i k) (By (G+1) dM))/\a7 W' (w.heap.size+1+1+1) 48 #[E.sp]) ?_ ?_ ?_ ?_ ?_ ?_ ?_ ?_ ?_)
 case refine_7=>
  intro ll c W' K hK;gi_wp2
  exact hK
 case refine_1=>
  intro x hx;simp only[Sy,AI,or_false]at hx;omega
 case refine_2=>
  rintro c W' W'' ⟨h1,h2,h3,h4,h5,h6,h7⟩ hk';exact⟨h1,h2.own (X:=[]) (by omega) (λ_ h=>nomatch h) hk',h3.trans (hk'.mono (by omega) nofun),h4.kq hk' (by omega) AI,h5.kq hk' (by omega) AI,h6.kq hk' (by omega) AI,h7.kq hk' (by omega) AI⟩
 case refine_3=>
  rintro x c W' W'' ⟨h1,h2,h3,h4⟩ hk';exact⟨h1,h2,h3.own (X:=[]) (by omega) (λ_ h=>nomatch h) hk',h4.kq hk' (by omega) AI⟩
 case refine_4=>
  rintro c W' ⟨h1,h2⟩ hb;rw[df,if_neg (by rw[hb];simp)]at h1;exact⟨h1,h2⟩
 case refine_5=>exact⟨rfl,B2.out,k02.out,c1.out,c2.out,c3.out,c4.out⟩
 case refine_9=>
  rintro W' ⟨h1,h2,h3,h4,h5,h6,h7⟩ hD;have hn:df (λ_=>true) P 320=none:=h1.symm;have fz:=h7.frozen;have f0:=h7.cell 0;have kB:Kq W'.heap.size [w.heap.size+1+1+1] W' (W'.setCell ⟨w.heap.size+1+1+1,0,none⟩ (.slice none 0 0)):=(Kq.refl W').setCell (p:=⟨w.heap.size+1+1+1,0,none⟩) (λ_=>x5.2 rfl) _;have hf:=(SL.1 hD).1;have h0:Marks w.heap.size [{target:=.collected w2.heap.size,args:=#[]}] (W'.setCell ⟨w.heap.size+1+1+1,0,none⟩ (.slice none 0 0)):=⟨⟨w2.heap.size,rfl,by omega,(kB.kp.2 _ hf λhx=>by have:=x5.1 hx;omega).trans hD,by simp⟩,trivial⟩;have B3:=h2.own (X:=[w.heap.size+1+1+1]) (by have:=h2.kq.kp.1;exact this) λx hx=>by rw[x5.1 hx];omega kB
  have b3:=h7.bI 0 (.slice none 0 0);have k3:Kq w.heap.size [E.r] w (W'.setCell ⟨w.heap.size+1+1+1,0,none⟩ (.slice none 0 0)):=h3.trans (kB.mono h3.kp.1 λx hx hlt=>by have:=x5.1 hx;omega);replace h0:=up h0;replace B3:=up B3;replace b3:=up b3;replace k3:=up k3;replace hn:=up hn;clear h1 h2 h3 h4 h5 h6 h7 hD kB B2 c1 c2 c3 c4 k02;go_wp2;refine pV rfl rfl λu=>by simp[go_sem] b3.out h0.out λW'' h9=>h8.out _ _ ⟨(B3.out.own (X:=[]) (AT _) (λ_ h=>nomatch h) h9).mem,?_⟩
  rw[hn.out];exact⟨rfl,k3.out.trans (h9.mono (AT _) nofun)⟩
 case refine_10=>
  rintro _ k W' hk1 hb ⟨rfl,h2,h3,h4⟩ hD;have hf:=(SL.1 hD).1;have h0:Marks w.heap.size [{target:=.collected w2.heap.size,args:=#[]}] W':=⟨⟨w2.heap.size,rfl,by omega,hD,by simp⟩,trivial⟩;replace h2:=up h2;replace h3:=up h3;replace h4:=up h4;replace h0:=up h0;clear hD B2 c1 c2 c3 c4 k02;refine wpIn_wide.2 ?_;go_wp2;refine pV rfl rfl λu=>by simp[go_sem] h4.out h0.out λW'' h9=>h8.out _ _ ?_
  have B4:=h3.out.own (X:=[]) (AT _) (λ_ h=>nomatch h) h9;rw[h2.out];exact⟨B4.mem,rfl,B4.sp,B4.kq⟩
 case refine_8=>
  rintro ll k W' hltW hk1 hb ⟨h1,h2,h3,h4,h5,h6,h7⟩;have hd:df (λ_=>true) P 320=some k:=by
   rw[<- h1,df,if_pos (by rw[hb];rfl)]
  have hks:=hw.out k hb;have cm:W'.cell? ⟨E.m,4,none⟩=some (.slice (some ⟨g,0,none⟩) (G+1) (G+1)):=by rw[<- hG.sp];exact h2.mem.blk.cell 4
  have v1:=h4.cell 0;have hGs:=hG.small;have A0:=up (⟨h2,h4,h5,h6,h7⟩:WB E g E.R q w W' L/\a7 W' w.heap.size 174 #[.pointer (some ⟨E.m,0,none⟩)]/\a7 W' (w.heap.size+1) 86 #[.iface (bn E.R) (.pointer (some ⟨q,0,none⟩))]/\a7 W' (w.heap.size+1+1) 3 #[.int .i64 i]/\a7 W' (w.heap.size+1+1+1) 48 #[.slice none 0 0]);replace hd:=up hd;clear h1 h2 h3 h4 h5 h6 h7 B2 c1 c2 c3 c4 k02;gi_wp2
  gi_loopw [20] (λc wr=>∃n:Nat,n<=G+1/\c= .int .i64 n/\WB E g E.R q w wr (By n dM++L.drop n)/\Kq W'.heap.size [g] W' wr/\a7 wr w.heap.size 174 #[.pointer (some ⟨E.m,0,none⟩)]/\a7 wr (w.heap.size+1) 86 #[.iface (bn E.R) (.pointer (some ⟨q,0,none⟩))]/\a7 wr (w.heap.size+1+1) 3 #[.int .i64 i]/\a7 wr (w.heap.size+1+1+1) 48 #[.slice none 0 0]) λc _=>G+1- (intOf c).toNat
  case atStart=>exact⟨0,SM _,rfl,A0.out.1,.refl _,A0.out.2⟩
  case round=>
   clear A0 v1 cm;obtain⟨n,hnG,rfl,h2,h3,h4,h5,h6,h7⟩:=hrel;have hlen:(By n dM++L.drop n).length=G+1:=by simp;omega
   have cm:wr.cell? ⟨E.m,4,none⟩=some (.slice (some ⟨g,0,none⟩) (G+1) (G+1)):=by rw[<- hG.sp];exact h2.mem.blk.cell 4
   have v1:=h4.cell 0;have fz:∀x,wr.frozen? ⟨g,x,none⟩=false:=h2.sp.frozen;have kR:=h2.kq.kp.1;by_cases hlt:n<G+1
   .obtain⟨s0,s1⟩:=qm h2.sp (by omega:n<(By n dM++L.drop n).length);have hset:=vK (n:=n) (u:=dM) h2.sp;rw[xM (by omega:n<L.length)]at hset;have kB:Kq wr.heap.size [g] wr ((wr.setCell ⟨g,n*2,none⟩ (.int .i64 (-1))).setCell ⟨g,n*2+1,none⟩ (.int .i64 (-1))):=((Kq.refl wr).setCell (p:=⟨g,n*2,none⟩) (λ_=>x5.2 rfl) _).setCell (p:=⟨g,n*2+1,none⟩) (λ_=>x5.2 rfl) _;have ha:=h2.mem.hZ hE (X:=[g]) (λx hx=>by rw[x5.1 hx];exact⟨hG.ne_m,hG.ne_r,hG.away⟩) kB;have hc:=h2.walked hE hG ha hset (kB.mono (AT _) λx hx _=>SR _ hx);have kn:=h3.trans (kB.mono h3.kp.1 λ_ h _=>h);have ngt:∀x,w.heap.size<=x->x∉[g]:=λx hx h=>by have:=x5.1 h;omega
    have m4:=h4.kq kB h4.lt (ngt _ (AT _));have m5:=h5.kq kB h5.lt (ngt _ (by omega));have m6:=h6.kq kB h6.lt (ngt _ (by omega));have m7:=h7.kq kB h7.lt (ngt _ (by omega));have A2:=up (⟨hc,kn,m4,m5,m6,m7⟩:WB E g E.R q w _ (By (n+1) dM++L.drop (n+1))/\Kq W'.heap.size [g] W' _/\a7 _ w.heap.size 174 #[.pointer (some ⟨E.m,0,none⟩)]/\a7 _ (w.heap.size+1) 86 #[.iface (bn E.R) (.pointer (some ⟨q,0,none⟩))]/\a7 _ (w.heap.size+1+1) 3 #[.int .i64 i]/\a7 _ (w.heap.size+1+1+1) 48 #[.slice none 0 0]);clear h2 h3 h4 h5 h6 h7 hset kB ha hc kn ngt m4 m5 m6 m7 kR;gi_wp2
    go_roundw
    case rel=>exact⟨n+1,by omega,by push_cast;rfl,A2.out⟩
    case measure=>simp[intOf];omega
   .obtain rfl:n=G+1:=by omega
    have hdr:By (G+1) dM++L.drop (G+1)=By (G+1) dM:=by rw[T1 (by omega),Tf]
    rw[hdr]at h2 hlen;obtain⟨s0,s1⟩:=qm h2.sp (by omega:0<(By (G+1) dM).length);have hset:=vK (n:=0) (u:=((i:Int),(k:Int))) h2.sp;rw[SW,T8]at hset s1;rw[SW]at s0;have v3:=h6.cell 0;have v5:=h5.cell 0;have kB:Kq wr.heap.size [g] wr ((wr.setCell ⟨g,0,none⟩ (.int .i64 i)).setCell ⟨g,1,none⟩ (.int .i64 k)):=((Kq.refl wr).setCell (p:=⟨g,0,none⟩) (λ_=>x5.2 rfl) _).setCell (p:=⟨g,1,none⟩) (λ_=>x5.2 rfl) _;have ngt:∀x,w.heap.size<=x->x∉[g]:=λx hx h=>by have:=x5.1 h;omega
    have ha:=h2.mem.hZ hE (X:=[g]) (λx hx=>by rw[x5.1 hx];exact⟨hG.ne_m,hG.ne_r,hG.away⟩) kB;have hc:=h2.walked hE hG ha hset (kB.mono (AT _) λx hx _=>SR _ hx);have m4:=h4.kq kB h4.lt (ngt _ (AT _));have m5:=h5.kq kB h5.lt (ngt _ (by omega));have m6:=h6.kq kB h6.lt (ngt _ (by omega));have m7:=h7.kq kB h7.lt (ngt _ (by omega));have kn:=h3.trans (kB.mono h3.kp.1 λ_ h _=>h);have y1:=m4.cell 0;have y2:=m5.cell 0;have y3:=m6.cell 0;have A2:=up (⟨hc,kn,m4,m5,m6,m7⟩:WB E g E.R q w _ ((By (G+1) dM).set 0 ((i:Int),(k:Int)))/\Kq W'.heap.size [g] W' _/\a7 _ w.heap.size 174 #[.pointer (some ⟨E.m,0,none⟩)]/\a7 _ (w.heap.size+1) 86 #[.iface (bn E.R) (.pointer (some ⟨q,0,none⟩))]/\a7 _ (w.heap.size+1+1) 3 #[.int .i64 i]/\a7 _ (w.heap.size+1+1+1) 48 #[.slice none 0 0]);have hL7:∀{K Y Yx},¬ LetsOut (Exit.then K (T9 1 (jY [E.r,g,w.heap.size+1+1+1] W' Y Yx))):=λ⟨_,_,h⟩=>h
    clear h2 h3 h4 h5 h6 h7 hset kB ha hc kn ngt m4 m5 m6 m7 kR;gi_wp2
    refine qq 7 (by kernel_rfl) hL7 (by kernel_rfl) (by kernel_rfl) ?_;simp only[SN,List.take_zero,SO,List.drop_zero];repeat still_step
    try refine wpStill_nil ?_
    change wpList _ _ _ _ _ wr.drew;go_wp2;obtain⟨a1,a2,a3,a4,a5,a6⟩:=A2.out;have kR:=a1.kq.kp.1;have kd:Kq ((wr.setCell ⟨g,0,none⟩ (.int .i64 i)).setCell ⟨g,1,none⟩ (.int .i64 k)).heap.size [] ((wr.setCell ⟨g,0,none⟩ (.int .i64 i)).setCell ⟨g,1,none⟩ (.int .i64 k)) ((wr.setCell ⟨g,0,none⟩ (.int .i64 i)).setCell ⟨g,1,none⟩ (.int .i64 k)).drew:=(Kq.refl _).drew;have e1:=a1.own (X:=[]) kR (λ_ h=>nomatch h) kd;have e2:=a2.trans (kd.mono a2.kp.1 nofun);have e3:=a3.kq kd a3.lt AI;have e4:=a4.kq kd a4.lt AI;have e5:=a5.kq kd a5.lt AI;have e6:=a6.kq kd a6.lt AI;clear a1 a2 a3 a4 a5 a6 kd A2 y1 y2 y3 s0 s1 fz cm v1 v3 v5 kR;generalize World.drew _=W8 at *;have y1:=e3.cell 0;have y2:=e4.cell 0;have y3:=e5.cell 0;have hCw:=up (hwk W8 q i k _ e1.mem e1.rep hi (by rw[hP.out];exact hb) (by rw[List.length_set];simp) e1.sp);have A3:=up (⟨e1,e2,e3,e4,e5,e6⟩:WB E g E.R q w W8 ((By (G+1) dM).set 0 ((i:Int),(k:Int)))/\Kq W'.heap.size [g] W' W8/\a7 W8 w.heap.size 174 #[.pointer (some ⟨E.m,0,none⟩)]/\a7 W8 (w.heap.size+1) 86 #[.iface (bn E.R) (.pointer (some ⟨q,0,none⟩))]/\a7 W8 (w.heap.size+1+1) 3 #[.int .i64 i]/\a7 W8 (w.heap.size+1+1+1) 48 #[.slice none 0 0]);clear e1 e2 e3 e4 e5 e6;gi_wp2
    refine⟨trivial,(CallsIn.inRound ll (callsIn_wide.2 hCw.out)).mono ?_⟩;rintro e W9 ⟨rfl,hh,hj,k9⟩;obtain⟨a1,a2,a3,a4,a5,a6⟩:=A3.out;have e1:=a1.walked hE hG hh hj k9;have kR:=a1.kq.kp.1;have nin:∀x,w.heap.size<=x->x∉[E.r,g]:=λx hx h=>by
     simp only[Sy,AI,or_false]at h;omega
    have e3:=a3.kq k9 a3.lt (nin _ (AT _));have e6:=a6.kq k9 a6.lt (nin _ (by omega));have cm:W9.cell? ⟨E.m,4,none⟩=some (.slice (some ⟨g,0,none⟩) (G+1) (G+1)):=by rw[<- hG.sp];exact e1.mem.blk.cell 4
    have z1:=e3.cell 0;have z6:=e6.cell 0;have zf:=e6.frozen;have kB:Kq W9.heap.size [w.heap.size+1+1+1] W9 (W9.setCell ⟨w.heap.size+1+1+1,0,none⟩ (.slice (some ⟨g,0,none⟩) (G+1) (G+1))):=(Kq.refl W9).setCell (p:=⟨w.heap.size+1+1+1,0,none⟩) (λ_=>x5.2 rfl) _;have f1:=e1.own (X:=[w.heap.size+1+1+1]) e1.kq.kp.1 λx hx=>by rw[x5.1 hx];omega kB
    have f6:a7 (W9.setCell ⟨w.heap.size+1+1+1,0,none⟩ (.slice (some ⟨g,0,none⟩) (G+1) (G+1))) (w.heap.size+1+1+1) 48 #[E.sp]:=by
     rw[hG.sp];exact e6.bI 0 (.slice (some ⟨g,0,none⟩) (G+1) (G+1))
    have kfin:Kq W'.heap.size [E.r,g,w.heap.size+1+1+1] W' (W9.setCell ⟨w.heap.size+1+1+1,0,none⟩ (.slice (some ⟨g,0,none⟩) (G+1) (G+1))):=((a2.mono (AT _) λx hx _=>by rw[x5.1 hx];simp).trans (k9.mono a2.kp.1 λx hx _=>by
     simp only[Sy,AI,or_false]at hx ⊢;exact hx.imp (λh=>h) .inl)).trans (kB.mono (SI a2.kp.1 k9.kp.1) λx hx _=>by rw[x5.1 hx];simp)
    replace f1:=up f1;replace f6:=up f6;replace kfin:=up kfin;clear a1 a2 a3 a4 a5 a6 e1 e3 e6 A3 kB hh hj k9 hCw y1 y2 y3;gi_wp2
    exact⟨kfin.out,rfl,hd.out,f1.out,f6.out⟩
end
section
open Go.RowKit
theorem Ei:words co=#[.int .u64 0,.int .u64 0,.int .u64 0,.int .u64 0]:=by simp[words,qd]
theorem Ay{fn p q}(h:fn.results=#[.cell p 101,.tmp q]){tmps b cs w v}(hp:tmps.getD p undef= .pointer (some ⟨b,0,none⟩))(hr:a7 w b 101 cs)(hs:cs.size=4)(hq:tmps.getD q undef=v):
 (results fn tmps).run PM w= .ok (.tuple #[.agg cs,v]) w:=by
 have hu:∃n e,PM.underlying 101=some (.array n e):=⟨_,_,(congrFun (aK ..) _).trans Tryz.underlying101⟩;have hi:(PM.info? 101).map (·.size)=some 4:=by kernel_rfl
 obtain⟨n,e,hu⟩:=hu;have:=run_loadVar_row (P:=PM) w b 101 101 cs _ _ hr hu rfl (by rw[hi,hs]);simp_all[results,asAddr]
theorem J3{w g t T V}(h:a7 w g t (words T)):
 a7 ((((w.setCell ⟨g,0,none⟩ (.int .u64 (wz V 0))).setCell ⟨g,1,none⟩ (.int .u64 (wz V 1))).setCell ⟨g,2,none⟩ (.int .u64 (wz V 2))).setCell ⟨g,3,none⟩ (.int .u64 (wz V 3))) g t (words V):=by
 have:=(((h.bI 0 (.int .u64 (wz V 0))).bI 1 (.int .u64 (wz V 1))).bI 2 (.int .u64 (wz V 2))).bI 3 (.int .u64 (wz V 3));simp_all[words]
theorem IR{S nd}(hC:fh S nd){w q}(hR:Repr w S (.iface (bn nd) (.pointer (some ⟨q,0,none⟩))) nd)(hS:∀b,S b->b<w.heap.size):
 Calls PM 78 #[.iface (bn nd) (.pointer (some ⟨q,0,none⟩))] w λe w'=>e= .returned (.tuple #[kL (du co (bj nd).1),.bool (bj nd).2])/\Kq w.heap.size [] w w':=by
 have h1:=ja nd ⟨q,0,none⟩;have h2:=jL nd ⟨q,0,none⟩;have h3:=kX nd;obtain⟨W1,hW1,b1,b2,k1⟩:∃W,W=(w.alloc (.cells #[.int .u64 0,.int .u64 0,.int .u64 0,.int .u64 0] 101)).alloc (.cells #[.int .u64 0,.int .u64 0,.int .u64 0,.int .u64 0] 101)/\a7 W w.heap.size 101 (words co)/\a7 W (w.heap.size+1) 101 (words co)/\Kq w.heap.size [] w W:=by
  rw[Ei];refine⟨_,rfl,(a7.new w _ _).alloc _,?_,((Kq.refl w).alloc (AT _) _).alloc (by simp) _⟩;have:=a7.new (w.alloc (.cells #[.int .u64 0,.int .u64 0,.int .u64 0,.int .u64 0] 101)) 101 #[.int .u64 0,.int .u64 0,.int .u64 0,.int .u64 0];simpa using this
 have h0:=up (hC W1 q (w.heap.size+1) co (hR.keep λb hb hlt=>k1.kp.2 b hlt AI) λh=>by have:=hS _ h;omega b2);replace b1:=up b1;replace k1:=up k1;replace hW1:=up hW1;clear b2 hR hC;go_enter PM.func Tryz.func78 (by decide),Tryz.ntmps78
 go_wp2;rw[<- hW1.out];refine h0.out.mono ?_;rintro e w2 ⟨rfl,b2,k2⟩;have hlt:=k1.out.kp.1;have kk:=up ((k1.out.mono (AT _) nofun:Kq w.heap.size [] w W1).trans (k2.mono hlt λx hx h=>by have:=x5.1 hx;omega));have b1':=b1.out.kq k2 b1.out.lt λhx=>by have:=x5.1 hx;omega
 obtain⟨V,hV⟩:∃V,du co (bj nd).1=V:=⟨_,rfl⟩;obtain⟨x,hx⟩:∃x,(bj nd).2=x:=⟨_,rfl⟩;rw[hV]at b2;simp only[hx];replace hV:=up hV;replace hx:=up hx;clear h0 k2 b1 h1 h2 h3 hW1 k1;replace b1':=up b1';have f0:∀i,w2.frozen? ⟨w.heap.size,i,none⟩=false:=b1'.out.frozen;have r0:=eu b2 (i:=0) (by decide);have r1:=eu b2 (i:=1) (by decide);have r2:=eu b2 (i:=2) (by decide);have r3:=eu b2 (i:=3) (by decide);have s0:=eu b1'.out (i:=0) (by decide);have s1:=eu b1'.out (i:=1) (by decide);have s2:=eu b1'.out (i:=2) (by decide);have s3:=eu b1'.out (i:=3) (by decide);clear b2;go_wp2;refine bodyPost_ret (Ay (p:=2) (q:=3) (v:=.bool x) rfl rfl (J3 (V:=V) b1'.out) rfl rfl) rfl ⟨by rw[hV.out,hx.out];rfl,?_⟩;have no:∀i,(⟨w.heap.size,i,none⟩:Addr).block<w.heap.size->(⟨w.heap.size,i,none⟩:Addr).block∈[]:=λi h=>absurd h (T4 _)
 exact(((kk.out.setCell (no 0) _).setCell (no 1) _).setCell (no 2) _).setCell (no 3) _
theorem uJ:(PM.info? 54).map (λi=>(i.size,i.zero,i.bytes))=some (2,some (.agg #[.int .i64 0,.int .i64 0]),16):=by kernel_rfl
theorem DO(n):madeCells #[.int .i64 0,.int .i64 0] (n*2)=dw (By n (0,0)):=by
 unfold madeCells dw;induction n with
 |zero=>simp[eY]
 |succ n ih=>
  rw[show(n+1)*2=n*2+1+1 from by omega,Array.range_succ,Array.range_succ,Td,Td,ih,List.replicate_succ'];simp[eY]
theorem MX(s)(f e G:Nat)(hG:G<1000)(w):
 Calls PM 79 #[.string s,.int .u8 f,.int .u8 e,.int .i64 G] w λx w'=>x= .returned (.pointer (some ⟨w.heap.size+2,0,none⟩))/\
  a7 w' (w.heap.size+2) 218 #[.string s,.int .u8 f,.int .u8 e,.map (some w.heap.size),.slice (some ⟨w.heap.size+1,0,none⟩) (G+1) (G+1)]/\w'.heap[w.heap.size]?=some (.map #[] 0)/\
  a7 w' (w.heap.size+1) 54 (dw (By (G+1) (0,0)))/\Kq w.heap.size [] w w':=by
 obtain⟨i,hi,hsz,hz,hb⟩:∃i,PM.info? 54=some i/\i.size=2/\i.zero=some (.agg #[.int .i64 0,.int .i64 0])/\i.bytes=16:=by
  have:=uJ;rw[SP]at this;obtain⟨i,h1,h2⟩:=this;simp only[Prod.mk.injEq]at h2;exact⟨i,h1,h2.1,h2.2.1,h2.2.2⟩
 have hm:=run_make (P:=PM) (w.alloc (.map #[] 0)) 48 54 i _ ((congrFun (aK ..) _).trans Tryz.underlying48) hi hz .i64 .i64 ((G:Int)+1) ((G:Int)+1) (by omega) (by omega) (by rw[hb];omega) (by omega);rw[show((G:Int)+1).toNat=G+1 from by omega,hsz,show(Value.agg #[.int .i64 0,.int .i64 0]).cells=#[.int .i64 0,.int .i64 0]from rfl,DO,show(w.alloc (.map #[] 0)).heap.size=w.heap.size+1 from by simp]at hm;have hmm:(Instr.makeMap 216 none).run PM w= .ok (.map (some w.heap.size)) (w.alloc (.map #[] 0)):=run_makeMap (P:=PM) _ w;clear hi hsz hz hb;go_enter PM.func Tryz.func79 (by decide),Tryz.ntmps79
 go_wp2;go_ret;refine⟨rfl,?_,?_,?_,(((Kq.refl w).alloc (AT _) _).alloc (by simp) _).alloc (by simp) _⟩
 .have:=a7.new ((w.alloc (.map #[] 0)).alloc (.cells (dw (By (G+1) (0,0))) 54)) 218 #[.string s,.int .u8 f,.int .u8 e,.map (some w.heap.size),.slice (some ⟨w.heap.size+1,0,none⟩) (G+1) (G+1)];simpa using this
 .exact((((Kq.refl (w.alloc (.map #[] 0))).alloc (AT _) _).alloc (by simp) _).kp.2 w.heap.size (by simp) AI).trans (by show(w.heap.push _)[w.heap.size]?=_;simp)
 .have:=(a7.new (w.alloc (.map #[] 0)) 54 (dw (By (G+1) (0,0)))).alloc (.cells #[.string s,.int .u8 f,.int .u8 e,.map (some w.heap.size),.slice (some ⟨w.heap.size+1,0,none⟩) (G+1) (G+1)] 218);simpa using this
def uT(s:ByteArray)(f e G:Nat)(nd:Nd)(S:Nat->Prop)(B:Nat):ME:=⟨⟨s,f,e⟩,nd,B+2,B,.slice (some ⟨B+1,0,none⟩) (G+1) (G+1),S⟩
theorem Mm{s}{f e G:Nat}{nd S B}(hs:s.size<=300)(hf:f<256)(he:e<256)(hT:je nd G)(hS:∀b,S b->b<B):fu (uT s f e G nd S B):=by
 obtain⟨hi,hh,hw⟩:=hT.w;refine⟨hs,hf,he,be.one nd hw,λa ha=> ?_,λi k l m h=> ?_,λi ks h=> ?_,λh=>absurd (hS _ h) (T4 _),λb h=>SF (hS b h) (Nat.le_add_right ..)⟩
 .have:=λa ha=>by have:=be.ids nd hw a ha;omega a ha
  have h1:=p9 (n:=a.id.toNat) (by omega);rwa [show a.id.toNat=a.id from by omega]at h1
 .obtain⟨_,_,_,_,hn⟩:=be.sub nd hw _ h;grind [be]
 .obtain⟨lo,h',_,_,hn⟩:=be.sub nd hw _ h;simp[be]at hn;have:=bV.le ks hn.2;omega
theorem yI{s}{f e G:Nat}{nd S B}(hT:je nd G):te (uT s f e G nd S B):=by
 obtain⟨hi,hh,hw⟩:=hT.w;refine⟨λi a b c d h=> ?_,λi ks h=> ?_⟩
 .obtain⟨_,_,_,_,hn⟩:=be.sub nd hw _ h;simp_all[be]
 .obtain⟨lo,h',_,_,hn⟩:=be.sub nd hw _ h;simp[be]at hn;have:=bV.le ks hn.2;omega
theorem Ml{s}{f e G:Nat}{nd S B}(hT:je nd G)(hS:∀b,S b->b<B):lL (uT s f e G nd S B) (B+1) G:=by
 obtain⟨hi,hh,hw⟩:=hT.w;have h9:=hT.g9;refine⟨rfl,by omega,by show B+1≠B;omega,by show B+1≠B+2;omega,λh=>by have:=hS _ h;omega,λi k n h=> ?_⟩;obtain⟨_,_,_,_,hn⟩:=be.sub nd hw _ h;simp[be]at hn;omega
theorem JQ{s}{f e G:Nat}{nd S w w' v}(hR:Repr w S v nd)(hS:∀b,S b->b<w.heap.size)
 (h1:a7 w' (w.heap.size+2) 218 #[.string s,.int .u8 f,.int .u8 e,.map (some w.heap.size),.slice (some ⟨w.heap.size+1,0,none⟩) (G+1) (G+1)]) (h2:w'.heap[w.heap.size]?=some (.map #[] 0)) (hk:Kq w.heap.size [] w w'):cI (uT s f e G nd S w.heap.size) w':=
 ⟨h1,⟨_,_,h2,λe he=>by simp at he⟩,v,hR.keep λb hb hlt=>hk.kp.2 b hlt AI⟩
theorem ci{P md ops Q S fuel listed a w}(i d v){oi}(hi:ops[i]?=some oi)(hd:oi.dst=some d)
 (hs:Region.noSelect ops=true) (hf:Region.free md ops listed i=true) (hr:(T7 md ops listed).contains i=true) (hQ:∀c a w,Q (.panic c) (a.put (some d) v) w->Q (.panic c) a w) (hy:YieldsIf P ops S oi v a) (hS:S w)
 (h:wpAnyH P md ops Q S fuel (listed.setIfInBounds i true) (a.put (some d) v) w):wpAnyH P md ops Q S (fuel+1) listed a w:=
 wpAnyH_take hi hs hf hr (by rw[hd];omega) hy hS (by rw[hd];omega)
theorem jz{P md ops Q S fuel listed a w}(i){oi}(hi:ops[i]?=some oi)(hg:oi.guard=none)(hr:T7 md ops listed=[i])
 (h:oi.wp P a w (λa' w'=>S w'/\wpAnyH P md ops Q S fuel (listed.setIfInBounds i true) a' w') Q):wpAnyH P md ops Q S (fuel+1) listed a w:=
 wpAnyH_all hr (by simp) λj hj=>by
  simp_all[Tl,wpOp]
theorem zJ{P o a w K Q}(d)(hd:o.dst=some d)(f args)(hrun:(execOp a.eval o).run P w= .ok (.enter f args) w)(v)(R:SJ->Prop)
 (hc:Calls P f args w λe w'=>e= .returned v/\R w') (h:∀w',R w'->K (a.put (some d) v) w'):o.wp P a w K Q:=by
 simp[Th,hrun];refine hc.mono λe w'' hh=> ?_
 grind
theorem LB{P o a w K Q}(d)(hd:o.dst=some d)(v w')(hrun:(execOp a.eval o).run P w= .ok (.value v) w')(h:K (a.put (some d) v) w'):o.wp P a w K Q:=by
 simp_all[Oper.upon_value,Th]
theorem zI{P o a w K Q}(hd:o.dst=none)(w')(hrun:(execOp a.eval o).run P w= .ok .skip w')(h:K a w'):o.wp P a w K Q:=by
 simp[Th,hrun,Oper.upon_skip,hd];exact h
def mU(nv:T3)(g:Int)(fl:Nat)(d st:Int)(T:cS)(e:Bool):Array T3:=#[nv,.int .i64 g,.int .u8 fl,.int .u32 d,.int .i32 st,.int .u32 0,.int .u64 (wz T 0),.int .u64 (wz T 1),.int .u64 (wz T 2),.int .u64 (wz T 3),.bool e]
theorem Ia{S nd}(hC:fh S nd){w p x q fl tp g d st T e}(hp:a7 w p tp #[.pointer (some ⟨x,0,none⟩)])
 (hx:a7 w x 103 (mU (.iface (bn nd) (.pointer (some ⟨q,0,none⟩))) g fl d st T e)) (hR:Repr w S (.iface (bn nd) (.pointer (some ⟨q,0,none⟩))) nd) (hS:∀b,S b->b<w.heap.size) (hpx:p≠x):
 Calls PM 77 #[.pointer (some ⟨p,0,none⟩)] w λe' w'=>e'= .returned (.tuple #[])/\a7 w' x 103 (mU (.iface (bn nd) (.pointer (some ⟨q,0,none⟩))) g fl d st (du co (bj nd).1) (bj nd).2)/\Kq w.heap.size [x] w w':=by
 have c0:w.cell? ⟨p,0,none⟩=some (.pointer (some ⟨x,0,none⟩)):=hp.cell 0;have c1:w.cell? ⟨x,0,none⟩=some (.iface (bn nd) (.pointer (some ⟨q,0,none⟩))):=hx.cell 0;have hF:=up λw1(k:Kq w.heap.size [] w w1)=>IR hC (hR.keep (w':=w1) λb hb hlt=>k.kp.2 b hlt AI) λb hb=>SF (hS b hb) k.kp.1
 replace hp:=up hp;replace hx:=up hx;replace hR:=up hR;go_enter PM.func Tryz.func77 (by decide),Tryz.ntmps77
 go_wp2;refine wp_region_noPanic ?_;refine wp_region_held_drew (S:=λw'=>w'.cell? ⟨p,0,none⟩=some (.pointer (some ⟨x,0,none⟩))/\w'.cell? ⟨x,0,none⟩=some (.iface (bn nd) (.pointer (some ⟨q,0,none⟩)))) (by rfl) ⟨c0,c1⟩ ?_;intro hS0;refine ci 0 2 (.pointer (some ⟨x,0,none⟩)) rfl rfl (by kernel_rfl) (by kernel_rfl) (by kernel_rfl) (λ_ _ _ h=>h) (BY ⟨by rfl,λw' hS'=> ?_⟩) hS0 ?_
 .obtain⟨h1,h2⟩:=hS';go_simp
 simp only[AS,zq0];refine ci 1 3 (.pointer (some ⟨x,0,none⟩)) rfl rfl (by kernel_rfl) (by kernel_rfl) (by kernel_rfl) (λ_ _ _ h=>h) (BY ⟨by rfl,λw' hS'=> ?_⟩) hS0 ?_
 .obtain⟨h1,h2⟩:=hS';go_simp
 simp only[AS,zq0];refine ci 2 4 (.pointer (some ⟨x,0,none⟩)) rfl rfl (by kernel_rfl) (by kernel_rfl) (by kernel_rfl) (λ_ _ _ h=>h) (BY ⟨by rfl,λw' hS'=> ?_⟩) hS0 ?_
 .obtain⟨h1,h2⟩:=hS';go_simp
 simp only[AS,zq0];refine ci 3 5 (.pointer (some ⟨x,0,none⟩)) rfl rfl (by kernel_rfl) (by kernel_rfl) (by kernel_rfl) (λ_ _ _ h=>h) (BY ⟨by rfl,λw' hS'=> ?_⟩) hS0 ?_
 .obtain⟨h1,h2⟩:=hS';go_simp
 simp only[AS,zq0];refine ci 4 6 (.pointer (some ⟨x,0,none⟩)) rfl rfl (by kernel_rfl) (by kernel_rfl) (by kernel_rfl) (λ_ _ _ h=>h) (BY ⟨by rfl,λw' hS'=> ?_⟩) hS0 ?_
 .obtain⟨h1,h2⟩:=hS';go_simp
 simp only[AS,zq0];refine ci 5 7 (.iface (bn nd) (.pointer (some ⟨q,0,none⟩))) rfl rfl (by kernel_rfl) (by kernel_rfl) (by kernel_rfl) (λ_ _ _ h=>h) (BY ⟨by rfl,λw' hS'=> ?_⟩) hS0 ?_
 .obtain⟨h1,h2⟩:=hS';go_simp
 simp only[AS,zq0];refine jz 6 rfl rfl (by kernel_rfl) ?_;refine zJ 8 rfl 78 #[.iface (bn nd) (.pointer (some ⟨q,0,none⟩))] (by go_simp) _ (λw'=>Kq w.heap.size [] w w') ((hF.out w.drew (Kq.refl w).drew).mono λe' w' h=>⟨h.1,(((Kq.refl w).drew).trans h.2:Kq w.heap.size [] w w')⟩) ?_;intro w3 k3;have hp3:=hp.out.kq k3 hp.out.lt AI;have hx3:=hx.out.kq k3 hx.out.lt AI;have h0:w3.cell? ⟨p,0,none⟩=some (.pointer (some ⟨x,0,none⟩))/\w3.cell? ⟨x,0,none⟩=some (.iface (bn nd) (.pointer (some ⟨q,0,none⟩))):=⟨hp3.cell 0,hx3.cell 0⟩;refine⟨h0,?_⟩;obtain⟨V,hV⟩:∃V,du co (bj nd).1=V:=⟨_,rfl⟩;obtain⟨z,hz⟩:∃z,(bj nd).2=z:=⟨_,rfl⟩;simp only[hV,hz];unfold kL;simp only[AS,zq0];refine ci 7 1 (.tuple #[.agg #[.int .u64 (wz V 0),.int .u64 (wz V 1),.int .u64 (wz V 2),.int .u64 (wz V 3)],.bool z]) rfl rfl (by kernel_rfl) (by kernel_rfl) (by kernel_rfl) (λ_ _ _ h=>h) (BY ⟨by rfl,λw' hS'=> ?_⟩) h0 ?_
 .obtain⟨h1,h2⟩:=hS';go_simp
 simp only[AS,zq0];refine ci 8 9 (.agg #[.int .u64 (wz V 0),.int .u64 (wz V 1),.int .u64 (wz V 2),.int .u64 (wz V 3)]) rfl rfl (by kernel_rfl) (by kernel_rfl) (by kernel_rfl) (λ_ _ _ h=>h) (BY ⟨by rfl,λw' hS'=> ?_⟩) h0 ?_
 .obtain⟨h1,h2⟩:=hS';go_simp
 simp only[AS,zq0];refine ci 9 10 (.bool z) rfl rfl (by kernel_rfl) (by kernel_rfl) (by kernel_rfl) (λ_ _ _ h=>h) (BY ⟨by rfl,λw' hS'=> ?_⟩) h0 ?_
 .obtain⟨h1,h2⟩:=hS';go_simp
 simp only[AS,zq0];refine ci 10 11 (.pointer (some ⟨x,0,none⟩)) rfl rfl (by kernel_rfl) (by kernel_rfl) (by kernel_rfl) (λ_ _ _ h=>h) (BY ⟨by rfl,λw' hS'=> ?_⟩) h0 ?_
 .obtain⟨h1,h2⟩:=hS';go_simp
 simp only[AS,zq0];refine ci 11 12 (.pointer (some ⟨x,6,none⟩)) rfl rfl (by kernel_rfl) (by kernel_rfl) (by kernel_rfl) (λ_ _ _ h=>h) (BY ⟨by rfl,λw' hS'=> ?_⟩) h0 ?_
 .obtain⟨h1,h2⟩:=hS';go_simp
 simp only[AS,zq0];have fz:∀j,w3.frozen? ⟨x,j,none⟩=false:=hx3.frozen;have x6:=hx3.cell 6;have x7:=hx3.cell 7;have x8:=hx3.cell 8;have x9:=hx3.cell 9;simp only[mU,SQ,T0,SZ]at x6 x7 x8 x9;refine jz 12 rfl rfl (by kernel_rfl) ?_;refine zI rfl ((((w3.setCell ⟨x,6,none⟩ (.int .u64 (wz V 0))).setCell ⟨x,7,none⟩ (.int .u64 (wz V 1))).setCell ⟨x,8,none⟩ (.int .u64 (wz V 2))).setCell ⟨x,9,none⟩ (.int .u64 (wz V 3))) ?_ ?_
 .go_simp
 have hx4:a7 ((((w3.setCell ⟨x,6,none⟩ (.int .u64 (wz V 0))).setCell ⟨x,7,none⟩ (.int .u64 (wz V 1))).setCell ⟨x,8,none⟩ (.int .u64 (wz V 2))).setCell ⟨x,9,none⟩ (.int .u64 (wz V 3))) x 103 (mU (.iface (bn nd) (.pointer (some ⟨q,0,none⟩))) g fl d st V e):=(((hx3.bI 6 (.int .u64 (wz V 0))).bI 7 (.int .u64 (wz V 1))).bI 8 (.int .u64 (wz V 2))).bI 9 (.int .u64 (wz V 3));have hp4:=(((hp3.far (p:=⟨x,6,none⟩) (by exact hpx) (.int .u64 (wz V 0))).far (p:=⟨x,7,none⟩) (by exact hpx) (.int .u64 (wz V 1))).far (p:=⟨x,8,none⟩) (by exact hpx) (.int .u64 (wz V 2))).far (p:=⟨x,9,none⟩) (by exact hpx) (.int .u64 (wz V 3));have k4:Kq w.heap.size [x] w ((((w3.setCell ⟨x,6,none⟩ (.int .u64 (wz V 0))).setCell ⟨x,7,none⟩ (.int .u64 (wz V 1))).setCell ⟨x,8,none⟩ (.int .u64 (wz V 2))).setCell ⟨x,9,none⟩ (.int .u64 (wz V 3))):=
  ((((k3.mono (AT _) nofun:Kq w.heap.size [x] w w3).setCell (p:=⟨x,6,none⟩) (λ_=>x5.2 rfl) _).setCell (p:=⟨x,7,none⟩) (λ_=>x5.2 rfl) _).setCell (p:=⟨x,8,none⟩) (λ_=>x5.2 rfl) _).setCell (p:=⟨x,9,none⟩) (λ_=>x5.2 rfl) _
 generalize (((w3.setCell ⟨x,6,none⟩ (.int .u64 (wz V 0))).setCell ⟨x,7,none⟩ (.int .u64 (wz V 1))).setCell ⟨x,8,none⟩ (.int .u64 (wz V 2))).setCell ⟨x,9,none⟩ (.int .u64 (wz V 3))=w4 at hx4 hp4 k4 ⊢;have h3:w4.cell? ⟨p,0,none⟩=some (.pointer (some ⟨x,0,none⟩))/\w4.cell? ⟨x,0,none⟩=some (.iface (bn nd) (.pointer (some ⟨q,0,none⟩))):=⟨hp4.cell 0,hx4.cell 0⟩;refine⟨h3,?_⟩;refine ci 13 13 (.pointer (some ⟨x,0,none⟩)) rfl rfl (by kernel_rfl) (by kernel_rfl) (by kernel_rfl) (λ_ _ _ h=>h) (BY ⟨by rfl,λw' hS'=> ?_⟩) h3 ?_
 .obtain⟨h1,h2⟩:=hS';go_simp
 simp only[AS,zq0];refine ci 14 14 (.pointer (some ⟨x,10,none⟩)) rfl rfl (by kernel_rfl) (by kernel_rfl) (by kernel_rfl) (λ_ _ _ h=>h) (BY ⟨by rfl,λw' hS'=> ?_⟩) h3 ?_
 .obtain⟨h1,h2⟩:=hS';go_simp
 simp only[AS,zq0];have x10:=hx4.cell 10;have fz4:∀j,w4.frozen? ⟨x,j,none⟩=false:=hx4.frozen;simp only[mU,SQ,T0,SZ]at x10;refine jz 15 rfl rfl (by kernel_rfl) ?_;refine zI rfl (w4.setCell ⟨x,10,none⟩ (.bool z)) ?_ ?_
 .go_simp
 have hx5:a7 (w4.setCell ⟨x,10,none⟩ (.bool z)) x 103 (mU (.iface (bn nd) (.pointer (some ⟨q,0,none⟩))) g fl d st V z):=hx4.bI 10 (.bool z);refine⟨⟨(hp4.far (p:=⟨x,10,none⟩) (by exact hpx) (.bool z)).cell 0,hx5.cell 0⟩,?_⟩;refine wpAnyH_done (by kernel_rfl) ?_ _;refine Ti ?_;exact bodyPost_end (results_none rfl _ _ _) rfl ⟨rfl,by rw[hV,hz];exact hx5,k4.setCell (p:=⟨x,10,none⟩) (λ_=>x5.2 rfl) _⟩
end
section
open Go.RowKit Go.Conc
attribute [local instance] fI
@[go_sem] theorem PH.RU(args w):(SE 50 args).run PH w= .ok (.enter 50 args) w:=a8 (PH.func Tryz.func50 (by decide)) (by kernel_rfl) rfl args w
@[go_sem] theorem PH.RM(args w):(SE 77 args).run PH w= .ok (.enter 77 args) w:=a8 (PH.func Tryz.func77 (by decide)) (by kernel_rfl) rfl args w
@[go_sem] theorem PH.RN(args w):(SE 76 args).run PH w= .ok (.enter 76 args) w:=a8 (PH.func Tryz.func76 (by decide)) (by kernel_rfl) rfl args w
@[go_sem] theorem PH.Rp(args w):(SE 109 args).run PH w= .ok (.enter 109 args) w:=a8 (PH.func Tryz.func109 (by decide)) (by kernel_rfl) rfl args w
@[go_sem] theorem PH.Rf(args w):(SE 128 args).run PH w= .ok (.enter 128 args) w:=a8 (PH.func Tryz.func128 (by decide)) (by kernel_rfl) rfl args w
@[go_sem] theorem PH.Re(args w):(SE 129 args).run PH w= .ok (.enter 129 args) w:=a8 (PH.func Tryz.func129 (by decide)) (by kernel_rfl) rfl args w
@[go_sem] theorem PH.Rq(args w):(SE 108 args).run PH w= .ok (.enter 108 args) w:=a8 (PH.func Tryz.func108 (by decide)) (by kernel_rfl) rfl args w
@[go_sem] theorem PH.Rd(args w):(SE 130 args).run PH w= .ok (.enter 130 args) w:=a8 (PH.func Tryz.func130 (by decide)) (by kernel_rfl) rfl args w
@[go_sem] theorem PH.QQ(args w):(SE 157 args).run PH w= .ok (.enter 157 args) w:=a8 (PH.func Tryz.func157 (by decide)) (by kernel_rfl) rfl args w
@[go_sem] theorem PH.RZ(args w):(SE 34 args).run PH w= .ok (.enter 34 args) w:=a8 (PH.func Tryz.func34 (by decide)) (by kernel_rfl) rfl args w
@[go_sem] theorem PH.RY(args w):(SE 35 args).run PH w= .ok (.enter 35 args) w:=a8 (PH.func Tryz.func35 (by decide)) (by kernel_rfl) rfl args w
@[go_sem] theorem PH.Sd(args w):(SE 23 args).run PH w= .ok (.enter 23 args) w:=a8 (PH.func Tryz.func23 (by decide)) (by kernel_rfl) rfl args w
@[go_sem] theorem PH.Sc(args w):(SE 24 args).run PH w= .ok (.enter 24 args) w:=a8 (PH.func Tryz.func24 (by decide)) (by kernel_rfl) rfl args w
@[go_sem] theorem PH.Sg(args w):(SE 19 args).run PH w= .ok (.enter 19 args) w:=a8 (PH.func Tryz.func19 (by decide)) (by kernel_rfl) rfl args w
@[go_sem] theorem PH.Si(args w):(SE 17 args).run PH w= .ok (.enter 17 args) w:=a8 (PH.func Tryz.func17 (by decide)) (by kernel_rfl) rfl args w
@[go_sem] theorem PH.Sh(args w):(SE 18 args).run PH w= .ok (.enter 18 args) w:=a8 (PH.func Tryz.func18 (by decide)) (by kernel_rfl) rfl args w
@[go_sem] theorem PH.Se(args w):(SE 21 args).run PH w= .ok (.enter 21 args) w:=a8 (PH.func Tryz.func21 (by decide)) (by kernel_rfl) rfl args w
@[go_sem] theorem PH.Sb(args w):(SE 25 args).run PH w= .ok (.enter 25 args) w:=a8 (PH.func Tryz.func25 (by decide)) (by kernel_rfl) rfl args w
@[go_sem] theorem PH.S6(args w):(SE 29 args).run PH w= .ok (.enter 29 args) w:=a8 (PH.func Tryz.func29 (by decide)) (by kernel_rfl) rfl args w
theorem GP{a n w}(hc:w.cell? a=some (.int .u32 n)):(SE 127 #[.pointer (some a)]).run PH w= .ok (.value (.int .u32 n)) w:=
 run_call_load (PH.func Tryz.func127 (by decide)) (by kernel_rfl) (by kernel_rfl) (by kernel_rfl) .u32 wU hc
theorem GO{a n u w}(hc:w.cell? a=some u)(hz:w.frozen? a=false):(SE 156 #[.pointer (some a),.int .u32 n]).run PH w= .ok (.value (.tuple #[])) (w.setCell a (.int .u32 n)):=
 run_call_store (PH.func Tryz.func156 (by decide)) (by kernel_rfl) (by kernel_rfl) (by kernel_rfl) wT hc hz
theorem yE{x j b w}(hc:w.cell? ⟨x,j,none⟩=some (.int .u32 (if b then 1 else 0))):Calls PH 108 #[.pointer (some ⟨x,j,none⟩)] w λe w'=>e= .returned (.bool b)/\w'=w:=by
 have h1:=GP hc;cases b;all_goals
  go_enter PH.func Tryz.func108 (by decide),Tryz.ntmps108
  go_wp2;go_ret;simp
theorem MO(w):Calls PH 157 #[.bool true] w λe w'=>e= .returned (.int .u32 1)/\w'=w:=by
 go_enter PH.func Tryz.func157 (by decide),Tryz.ntmps157
 go_wp2;go_ret;simp
section
variable{h0:Array Obj}{w:SJ}{x j:Nat}
theorem JO{u}(hc:w.cell? ⟨x,j,none⟩=some u)(hz:w.frozen? ⟨x,j,none⟩=false):
 tR (br ek h0) 130 #[.pointer (some ⟨x,j,none⟩),.bool true] w λw'=>jw w' (w.setCell ⟨x,j,none⟩ (.int .u32 1)):=by
 refine rV (bP (by decide)) (PH.func Tryz.func130 (by decide)) rfl rfl ?_;simp only[Tryz.ntmps130,No,Sw,SC,SH,SG,IS,IN,OF,IT,Sz,Sx];refine bm λw1 e1=> ?_
 have c1:=(e1.cell _).trans hc;have z1:=(e1.frozen _).trans hz;refine wp_region_noPanic ?_;refine wp_region_held_drew (S:=λ_=>True) (by rfl) trivial ?_;intro hS0;refine ci 0 4 (.pointer (some ⟨x,j,none⟩)) rfl rfl (by kernel_rfl) (by kernel_rfl) (by kernel_rfl) (λ_ _ _ h=>h) (BY ⟨by rfl,λw' hS'=> ?_⟩) hS0 ?_
 .go_simp
 simp only[AS,zq0];refine ci 1 5 (.pointer (some ⟨x,j,none⟩)) rfl rfl (by kernel_rfl) (by kernel_rfl) (by kernel_rfl) (λ_ _ _ h=>h) (BY ⟨by rfl,λw' hS'=> ?_⟩) hS0 ?_
 .go_simp
 simp only[AS,zq0];refine ci 2 6 (.pointer (some ⟨x,j,none⟩)) rfl rfl (by kernel_rfl) (by kernel_rfl) (by kernel_rfl) (λ_ _ _ h=>h) (BY ⟨by rfl,λw' hS'=> ?_⟩) hS0 ?_
 .go_simp
 simp only[AS,zq0];refine ci 3 7 (.bool true) rfl rfl (by kernel_rfl) (by kernel_rfl) (by kernel_rfl) (λ_ _ _ h=>h) (BY ⟨by rfl,λw' hS'=> ?_⟩) hS0 ?_
 .go_simp
 simp only[AS,zq0];refine jz 4 rfl rfl (by kernel_rfl) ?_;refine zJ 8 rfl 157 #[.bool true] (by go_simp) _ (λw'=>w'=w1.drew) (MO _) ?_;rintro _ rfl;refine⟨trivial,?_⟩;simp only[AS,zq0];refine jz 5 rfl rfl (by kernel_rfl) ?_;have hst:=GO (n:=1) (w:=w1.drew) c1 z1;refine LB 9 rfl (.tuple #[]) (w1.drew.setCell ⟨x,j,none⟩ (.int .u32 1)) ?_ ?_
 .go_simp
 refine⟨trivial,?_⟩;refine wpAnyH_done (by kernel_rfl) ?_ _;refine Ti ?_;exact⟨.inl rfl,rfl,(⟨e1.heap,e1.os,e1.out⟩:jw w1.drew w).set ⟨x,j,none⟩ (.int .u32 1)⟩
end
theorem jw.kq{w w' B X}(h:jw w' w):Kq B X w w':=⟨⟨by simp[h.heap],λb _ _=>by rw[h.heap]⟩,h.os,h.out⟩
theorem La{w x fl nv g d st T e}(h:a7 w x 103 (mU nv g fl d st T e))(s'):a7 (w.setCell ⟨x,4,none⟩ (.int .i32 s')) x 103 (mU nv g fl d s' T e):=h.bI 4 (.int .i32 s')
theorem OI{w x fl nv g d st T e}(h:a7 w x 103 (mU nv g fl d st T e))(d'):a7 (w.setCell ⟨x,3,none⟩ (.int .u32 d')) x 103 (mU nv g fl d' st T e):=h.bI 3 (.int .u32 d')
theorem Kt{h0 S nd}(hC:fh S nd){w p x q fl tp g T e}(hp:a7 w p tp #[.pointer (some ⟨x,0,none⟩)])
 (hx:a7 w x 103 (mU (.iface (bn nd) (.pointer (some ⟨q,0,none⟩))) g fl 0 0 T e)) (hR:Repr w S (.iface (bn nd) (.pointer (some ⟨q,0,none⟩))) nd) (hS:∀b,S b->b<w.heap.size/\b≠x) (hpx:p≠x):
 cb (br ek h0) 109 #[.pointer (some ⟨x,3,none⟩),.func (.func 77) #[] #[.pointer (some ⟨p,0,none⟩)]] w λe' w'=>e'= .returned (.tuple #[])/\a7 w' x 103 (mU (.iface (bn nd) (.pointer (some ⟨q,0,none⟩))) g fl 1 0 (du co (bj nd).1) (bj nd).2)/\Kq w.heap.size [x] w w':=by
 refine vl (bP (by decide)) (PH.func Tryz.func109 (by decide)) rfl rfl ?_;simp only[Tryz.ntmps109,No,Sw,SC,SH,SG,IS,IN,OF,IT,Sz,Sx];refine ac λK hK=> ?_
 refine ao ?_;show aV _ _ _ (If 0 (3+1)) _ _;refine bq 0 3 1 (λN hN w1 e1=> ?_) (by decide);simp only[zq1];have k1:Kq w.heap.size [x] w w1:=e1.kq;have hx1:=hx.kq (e1.kq (B:=w.heap.size) (X:=[])) hx.lt AI;have A1:=up (⟨k1,hx1⟩:_/\_);have z3:w1.cell? ⟨x,3,none⟩=some (.int .u32 0):=hx1.cell 3;clear e1 k1 hx1;replace hx:=up hx;replace hp:=up hp;replace hR:=up hR;go_wp2;refine hN.out _ _ ?_;clear hN N;refine f9 (f:=128) (i:=3) (rest:=If 4 0) rfl rfl λu=>by simp[go_sem] (bP (by decide)) (Mo (A1.out.2.cell 4) (A1.out.2.frozen 4)) (λv w2 hr=> ?_) λch w2 hr=>nomatch hr.1
 obtain⟨hv,e2⟩:=hr;cases hv;have h1:=(La A1.out.2 1).kq (e2.kq (B:=w1.heap.size) (X:=[])) A1.out.2.lt AI;have k2:Kq w.heap.size [x] w w2:=(A1.out.1.setCell (p:=⟨x,4,none⟩) (λ_=>x5.2 rfl) (.int .i32 1)).trans e2.kq;have A2:=up (⟨k2,h1⟩:_/\_);clear k2 h1 e2 A1 z3;simp only[AS,zq0];refine az (hK.out _ _ ?_);clear hK K;refine bm λw3 e3=> ?_
 have k3:Kq w.heap.size [x] w w3:=A2.out.1.trans e3.kq;have hx3:=A2.out.2.kq (e3.kq (B:=w2.heap.size) (X:=[])) A2.out.2.lt AI;have hnx:∀b,b≠x->b∉[x]:=λb h hx=>h (x5.1 hx)
 have hp3:=hp.out.kq k3 hp.out.lt (hnx _ hpx);have hR3:=hR.out.keep (w':=w3) λb hb hlt=>k3.kp.2 b hlt (hnx _ (hS b hb).2)
 have hlt3:w.heap.size<=w3.heap.size:=k3.kp.1;have hL:=yE (b:=false) (x:=x) (j:=3) (w:=w3) (hx3.cell 3);have hF:=up (Ia hC hp3 hx3 hR3 (λb hb=>SF (hS b hb).1 hlt3) hpx);have A3:=up k3;clear A2 e3 k3 hx3 hp3 hR3 hlt3;go_wp2;refine hL.mono ?_;rintro e' w4 ⟨rfl,rfl⟩;clear hL;go_wp2;refine hF.out.mono ?_;rintro e' w5 ⟨rfl,hx5,k5⟩;have k5':Kq w.heap.size [x] w w5:=A3.out.trans (k5.mono A3.out.kp.1 λ_ h _=>h);replace hx5:=up hx5;clear hF k5 A3;go_wp2;refine⟨_,_,_,_,rfl,λu=>by simp[go_sem],bP (by decide),λc cs K hc hm hK=>JO (hx5.out.cell 3) (hx5.out.frozen 3) c cs K hc hm λw6 e6=>hK w6 ?_⟩;have hx6:=(OI hx5.out 1).kq (e6.kq (B:=w5.heap.size) (X:=[])) hx5.out.lt AI;have k6:Kq w.heap.size [x] w w6:=(k5'.setCell (p:=⟨x,3,none⟩) (λ_=>x5.2 rfl) (.int .u32 1)).trans e6.kq;refine⟨_,_,_,_,rfl,λu=>by simp[go_sem],bP (by decide),λc cs K hc hm hK=>Hm (hx6.cell 4) (hx6.frozen 4) c cs K hc hm λw7 e7=>hK w7 ?_⟩;exact⟨(La hx6 0).kq (e7.kq (B:=w6.heap.size) (X:=[])) hx6.lt AI,(k6.setCell (p:=⟨x,4,none⟩) (λ_=>x5.2 rfl) (.int .i32 0)).trans e7.kq⟩
structure kh(w:SJ)(x q fl:Nat)(g:Int)(nd:Nd)(S:Nat->Prop)(dn:Bool)(T:cS)(e:Bool):Prop where
 blk:a7 w x 103 (mU (.iface (bn nd) (.pointer (some ⟨q,0,none⟩))) g fl (if dn then 1 else 0) 0 T e)
 rep:Repr w S (.iface (bn nd) (.pointer (some ⟨q,0,none⟩))) nd
 low:∀b,S b->b<w.heap.size/\b≠x
 had:dn=true->T=du co (bj nd).1/\e=(bj nd).2
theorem kh.kq{w w' x q fl g nd S dn T e}(h:kh w x q fl g nd S dn T e)(k:Kq w.heap.size [] w w'):kh w' x q fl g nd S dn T e:=
 ⟨h.blk.kq k h.blk.lt AI,h.rep.keep λb hb hlt=>k.kp.2 b hlt AI,λb hb=>⟨SF (h.low b hb).1 k.kp.1,(h.low b hb).2⟩,h.had⟩
theorem PX{h0 S nd}(hC:fh S nd){w p x q fl tp g dn T e}(hp:a7 w p tp #[.pointer (some ⟨x,0,none⟩)])
 (hx:kh w x q fl g nd S dn T e) (hpx:p≠x):
 cb (br ek h0) 76 #[.pointer (some ⟨x,3,none⟩),.func (.func 77) #[] #[.pointer (some ⟨p,0,none⟩)]] w λe' w'=>e'= .returned (.tuple #[])/\kh w' x q fl g nd S true (du co (bj nd).1) (bj nd).2/\Kq w.heap.size [x] w w':=by
 refine bu (bP (by decide)) (λw' h=>nomatch h.1) (PH.func Tryz.func76 (by decide)) rfl ?_;simp only[Tryz.ntmps76,No,Sw,SC,SH,SG,IS,IN,OF,IT,Sz,Sx];refine ac λK hK=> ?_
 refine bm λw1 e1=> ?_
 have hL:=yE (b:=dn) (x:=x) (j:=3) (w:=w1) ((e1.cell _).trans (hx.blk.cell 3));replace e1:=up e1;replace hx:=up hx;replace hp:=up hp;cases dn
 .go_wp2;refine hL.mono ?_;rintro e' w4 ⟨rfl,rfl⟩;clear hL;go_wp2;refine hK.out _ _ ?_;clear hK K;refine bG rfl ?_;refine ao ?_;show aV _ _ _ (If 0 (2+1)) _ _;refine bq 0 2 1 (λN hN w2 e2=> ?_) (by decide);simp only[zq1];replace e2:=up (e2.trans e1.out);clear e1;go_wp2;refine hN.out _ _ ?_;clear hN N;have hk:=e2.out.kq (B:=w.heap.size) (X:=[]);have h1:=hx.out.kq hk;refine f9 (f:=109) (i:=2) (rest:=If 3 0) rfl rfl λu=>by simp[go_sem] (bP (by decide)) (Kt hC (hp.out.kq hk hp.out.lt AI) h1.blk h1.rep h1.low hpx) (λv w3 hr=> ?_) λch w3 hr=>nomatch hr.1
  obtain⟨hv,h3,k3⟩:=hr;cases hv;have hle:=hk.kp.1;have k03:Kq w.heap.size [x] w w3:=(e2.out.kq).trans (k3.mono hle λ_ h _=>h);refine az ⟨rfl,_,results_none rfl _ _ _,rfl,⟨h3,h1.rep.keep λb hb hlt=>k3.kp.2 b hlt λh=>(h1.low b hb).2 (x5.1 h),λb hb=>⟨SF (h1.low b hb).1 k3.kp.1,(h1.low b hb).2⟩,λ_=>⟨rfl,rfl⟩⟩,k03⟩
 .go_wp2;refine hL.mono ?_;rintro e' w4 ⟨rfl,rfl⟩;clear hL;go_wp2;refine hK.out _ _ ?_;clear hK K;refine bK rfl ?_;refine fS ?_;obtain⟨rfl,rfl⟩:=hx.out.had rfl;exact⟨rfl,_,results_none rfl _ _ _,rfl,hx.out.kq e1.out.kq,e1.out.kq⟩
end
theorem LS{M k ks i j}:(dL M (k::ks) i).testBit j=true↔∃c,c<320/\(bv M k i).testBit c=true/\(dL M ks c).testBit j=true:=by rw[dL,pd]
section
section
variable{M:MT}
def gU(G:Int)(i j:Nat)(ns:Notes):Prop:=∀x∈ns,0<x.1/\x.1<=G/\i<=x.2.1/\x.2.1<=x.2.2/\x.2.2<=j
theorem gU.nil{G i j}:gU G i j []:=λ_ h=>nomatch h
theorem gU.app{G i c j a b}(ha:gU G i c a)(hb:gU G c j b)(h1:i<=c)(h2:c<=j):gU G i j (a++b):=λx hx=>by
 rcases List.mem_append.1 hx with h|h
 .have:=ha x h;omega
 .have:=hb x h;omega
theorem uE{G k l m wk j}(hwk:∀i c,i<=M.s.size->(bv M k i).testBit c=true->gU G i c (wk i c)):
 ∀f done i,i<=M.s.size->gU G i j (jJ M k l m wk j f done i)
 |0,_,_,_=>.nil
 |f+1,done,i,hi=>by
  rw[jJ];split
  .split
   .next c hc=>
    rw[j4]at hc;obtain⟨h1,h2,h3,_⟩:=hc;rw[SX]at h3;have hw:=bZ M k i hi c h2;exact(hwk i c hi h2).app (uE hwk f _ c hw.2) hw.1 (vz (l:=l) (m:=m) (λi hi=>bZ M k i hi) _ _ c hw.2 j h3.2).1
   .exact uE hwk f _ i hi
  .exact .nil
mutual
theorem walk_in{G lo hi}:∀nd,be G lo hi nd->∀i j,i<=M.s.size->(bv M nd i).testBit j=true->gU G i j (de M nd i j)
 | .set ..,_,_,_,_,_=>by rw[de];exact .nil
 | .edge ..,_,_,_,_,_=>.nil
 | .seq _ ks,hn,i,j,hi,h=>zS ks hn.2 i j hi h
 | .alt _ ks,hn,i,j,hi,h=>zT ks hn.2 i j hi
 | .grp _ k num,hn,i,j,hi,h=>by
  intro x hx;rcases Sy.1 hx with rfl|hx
  .exact⟨hn.2.1,hn.2.2.1,AT _,(bZ M k i hi j h).1,AT _⟩
  .exact walk_in k hn.2.2.2 i j hi h x hx
 | .rep _ k l m,hn,i,j,hi,h=>uE (λi c hi hb=>walk_in k hn.2.2.2.2 i c hi hb) _ 0 i hi
theorem zS{G lo hi:Int}:∀(ks:List Nd),bV G lo hi ks->∀i j,i<=M.s.size->(dL M ks i).testBit j=true->gU G i j (jI M ks i j)
 |[],_,_,_,_,_=>.nil
 |k::ks,hn,i,j,hi,h=>by
  obtain⟨mid,hn1,hn2⟩:=hn;rw[jI];split
  .next c hc=>
   rw[j4]at hc;obtain⟨h1,h2,h3,_⟩:=hc;have hw:=bZ M k i hi c h2;exact(walk_in k hn1 i c hi h2).app (zS ks hn2 c j hw.2 h3) hw.1 (qH M ks c hw.2 j h3).1
  .next hc=>
   rw[oX]at hc;obtain⟨c,h1,h2,h3⟩:=LS.1 h<;>grind
theorem zT{G lo hi:Int}:∀(ks:List Nd),bV G lo hi ks->∀i j,i<=M.s.size->gU G i j (oq M ks i j)
 |[],_,_,_,_=>.nil
 |k::ks,hn,i,j,hi=>by
  obtain⟨mid,hn1,hn2⟩:=hn;rw[oq];split
  .next h=>exact walk_in k hn1 i j hi h
  .exact zT ks hn2 i j hi
end
theorem Du(g:Nat)(ns):(∀x∈ns,x.1≠(g:Int))/\nn ns g=(-1,-1)\/∃x∈ns,x.1=(g:Int)/\nn ns g=((x.2.1:Int),(x.2.2:Int)):=by
 unfold nn;generalize (-1,-1)=u;induction ns generalizing u<;>grind
theorem Je{nd}{G:Nat}{lo h0}(hn:be G lo h0 nd)(hlo:0<=lo){b j}(hb:b<=M.s.size)(h:(bv M nd b).testBit j=true):
 nn (((0:Int),b,j)::de M nd b j) 0=((b:Int),(j:Int))/\∀g,0<g->nn (((0:Int),b,j)::de M nd b j) g=(-1,-1)\/∃x y,b<=x/\x<=y/\y<=j/\nn (((0:Int),b,j)::de M nd b j) g=((x:Int),(y:Int)):=by
 have hw:=walk_in nd hn b j hb h;constructor
 .rcases Du 0 ((0,b,j)::de M nd b j)with⟨h1,_⟩|⟨x,h1,h2,h3⟩
  .exact absurd rfl (h1 _ SU)
  .rw[h3];rcases Sy.1 h1 with rfl|h1
   .rfl
   .have:=hw x h1;omega
 .intro g hg;rcases Du g ((0,b,j)::de M nd b j)with⟨_,h1⟩|⟨x,h1,h2,h3⟩
  .exact .inl h1
  .refine .inr ⟨x.2.1,x.2.2,?_⟩;rcases Sy.1 h1 with rfl|h1
   .omega
   .have:=hw x h1;grind
end
end
section
open Go.RowKit Go.Conc
attribute [local instance] fI
theorem yF(g:Nat):∀ns L hg,(∀n∈ns,0<=n.1)->(dH ns L)[g]?=some (ns.foldl (λx n=>if n.1=(g:Int)then((n.2.1:Int),(n.2.2:Int))else x) L[g])
 |[],L,hg,_=>by simp[dH]
 |n::ns,L,hg,h=>by
  have:=yF g ns (L.set n.1.toNat (n.2.1,n.2.2)) (by simpa using hg) λm hm=>h m (SR _ hm)
  refine(show _=_ from this).trans ?_;grind
theorem Fa{ns G}(h:∀n∈ns,0<=n.1):dH ns (By (G+1) dM)=(List.range (G+1)).map (nn ns):=by
 apply List.ext_getElem?;intro g;by_cases hg:g<G+1
 .rw[yF g ns _ (by simpa using hg) h,Tb,T6 hg];simp[nn]
 simp_all[oZ]
theorem J1{w x fl nv g d st T e}(h:a7 w x 103 (mU nv g fl d st T e)):w.cell? ⟨x,6,none⟩=some (.int .u64 (wz T 0))/\w.cell? ⟨x,7,none⟩=some (.int .u64 (wz T 1))/\w.cell? ⟨x,8,none⟩=some (.int .u64 (wz T 2))/\w.cell? ⟨x,9,none⟩=some (.int .u64 (wz T 3)):=⟨h.cell 6,h.cell 7,h.cell 8,h.cell 9⟩
def P0(w':SJ)(lo:Nat)(G:Nat)(v:T3):Option (List (Int×Int))->Prop
 |none=>v= .slice none 0 0
 |some L=>∃g,lo<=g/\v= .slice (some ⟨g,0,none⟩) (G+1) (G+1)/\a7 w' g 54 (dw L)
structure za(E:ME)(w:SJ)(x q fl:Nat)(g:Int)(nd:Nd)(S:Nat->Prop)(B G p:Nat)(wr:SJ):Prop where
 mem:cI E wr
 rx:kh wr x q fl g nd S true (du co (bj nd).1) (bj nd).2
 sp:∃L:Sp,L.length=G+1/\a7 wr (B+1) 54 (dw L)
 box:a7 wr p 22 #[.pointer (some ⟨x,0,none⟩)]
 kq:Kq w.heap.size [x] w wr
theorem za.NE{E w wr u x q fl B G p g nd S}(h:za E w x q fl g nd S B G p wr){X}(k:Kq wr.heap.size X wr u)(hX:∀b∈X,B<=b)(hx:x<B)(hp:p<B)(hS:∀b,S b->b<B)(hwB:w.heap.size<=B)
 (hM:cI E u) (hs:∃L,L.length=G+1/\a7 u (B+1) 54 (dw L)):za E w x q fl g nd S B G p u:=by
 have no:∀b,b<B->b∉X:=λb hb hx=>by have:=hX b hx;omega
 exact⟨hM,⟨h.rx.blk.kq k h.rx.blk.lt (no _ hx),h.rx.rep.keep λb hb hlt=>k.kp.2 b hlt (no _ (hS b hb)),λb hb=>⟨SF (h.rx.low b hb).1 k.kp.1,(h.rx.low b hb).2⟩,h.rx.had⟩,hs,h.box.kq k h.box.lt (no _ hp),
  h.kq.trans (k.mono h.kq.kp.1 λb hb hlt=>by have:=hX b hb;omega)⟩
theorem za.Hv{E w wr u x q fl B G p g nd S}(h:za E w x q fl g nd S B G p wr)(k:Kq wr.heap.size [] wr u)(hx:x<B)(hp:p<B)(hS:∀b,S b->b<B)(h0:w.heap.size<=B):za E w x q fl g nd S B G p u:=by
 obtain⟨L,hL,hB⟩:=h.sp;exact h.NE k (λb hb=>nomatch hb) hx hp hS h0 (h.mem.kq k) ⟨L,hL,hB.kq k hB.lt AI⟩
theorem HZ{h0 S nd w}{x q fl ev G:Nat}{dn T e}{s:ByteArray}{i}(hx:kh w x q fl G nd S dn T e)(hT:je nd G)(hs:s.size<=300)(hfl:fl<256)(hev:ev<256)(hi:i<=s.size):
 cb (br ek h0) 50 #[.pointer (some ⟨x,0,none⟩),.string s,.int .u8 ev,.int .i64 i] w λe' w'=>∃v,e'= .returned v/\P0 w' w.heap.size G v (fj ⟨s,fl,ev⟩ nd G (s.size+1-i) i)/\kh w' x q fl G nd S true (du co (bj nd).1) (bj nd).2/\Kq w.heap.size [x] w w':=by
 have hC:fh S nd:=first_any (E:=uT s fl ev G nd S 0) (yI hT) (λi k l m h=>by
  obtain⟨hi,hh,hw⟩:=hT.w;obtain⟨_,_,_,_,hn⟩:=be.sub nd hw _ h;simp only[be]at hn;have:=p9 (n:=l.toNat) (by omega);rwa [show((l.toNat:Nat):Int)=l from by omega]at this) (λi ks h=>by
  obtain⟨hi,hh,hw⟩:=hT.w;obtain⟨lo,h',_,_,hn⟩:=be.sub nd hw _ h;simp only[be]at hn;have:=bV.le ks hn.2;have:=be.ids nd hw _ h;simp only[Nd.id]at this;omega) nd λa h=>h
 refine bu (bP (by decide)) (λw' ⟨v,h,_⟩=>nomatch h) (PH.func Tryz.func50 (by decide)) rfl ?_;simp only[Tryz.ntmps50,No,Sw,SC,SH,SG,IS,IN,OF,IT,Sz,Sx];refine ac λK hK=> ?_
 refine bm λw1 e1=> ?_
 replace e1:=up e1;replace hx:=up hx;go_wp2;refine hK.out _ _ ?_;clear hK K;obtain⟨p,hp⟩:∃p,p=w1.heap.size:=⟨_,rfl⟩;have hpw:p=w.heap.size:=by rw[hp,e1.out.heap]
 have hkW:Kq w1.heap.size [] w1 (w1.alloc (.cells #[.pointer (some ⟨x,0,none⟩)] 22)):=(Kq.refl w1).alloc (AT _) _;have hx1:=(hx.out.kq e1.out.kq).kq hkW;have hb1:a7 (w1.alloc (.cells #[.pointer (some ⟨x,0,none⟩)] 22)) p 22 #[.pointer (some ⟨x,0,none⟩)]:=hp▸a7.new w1 _ _;have hk1:Kq w.heap.size [x] w (w1.alloc (.cells #[.pointer (some ⟨x,0,none⟩)] 22)):=(e1.out.kq).alloc (by rw[hpw.symm.trans hp];exact AT _) _;rw[<- hp];generalize w1.alloc (.cells #[.pointer (some ⟨x,0,none⟩)] 22)=W at *;have hpx:p≠x:=by have:=hx.out.blk.lt;omega
 replace hpw:=up hpw;clear hkW hx e1 hp;refine ac λK hK=> ?_
 refine ao ?_;show aV _ _ _ (If 0 (4+1)) _ _;refine bq 0 4 1 (λN hN w2 e2=> ?_) (by decide);simp only[zq1];have hl:=hx1.kq e2.kq;have hb2:=hb1.kq (e2.kq (B:=W.heap.size) (X:=[])) hb1.lt AI;have hk2:Kq w.heap.size [x] w w2:=hk1.trans e2.kq;have v0:w2.cell? ⟨p,0,none⟩=some (.pointer (some ⟨x,0,none⟩)):=hb2.cell 0;have A2:=up (⟨hl,hb2,hk2⟩:_/\_/\_);clear hx1 hb1 hk1 e2 hl hb2 hk2;go_wp2;refine hN.out _ _ ?_;clear hN N v0;refine f9 (f:=76) (i:=4) (rest:=If 5 0) rfl rfl λu=>by simp[go_sem] (bP (by decide)) (PX hC A2.out.2.1 A2.out.1 hpx) (λv w3 hr=> ?_) λch w3 hr=>nomatch hr.1
 obtain⟨hv,hx3,k3⟩:=hr;cases hv;have hb3:=A2.out.2.1.kq k3 A2.out.2.1.lt λh=>hpx (x5.1 h)
 have hk3:Kq w.heap.size [x] w w3:=A2.out.2.2.trans (k3.mono A2.out.2.2.kp.1 λ_ h _=>h);have A3:=up (⟨hx3,hb3,hk3⟩:_/\_/\_);clear A2 hx3 hb3 hk3 k3;simp only[SD,Sv,Su];simp only[AS,zq0];refine az (hK.out _ _ ?_);clear hK K;refine bm λw4 e4=> ?_
 have hx4:=A3.out.1.kq e4.kq;have hd:=A3.out.2.1.kq (e4.kq (B:=w3.heap.size) (X:=[])) A3.out.2.1.lt AI;have ho:Kq w.heap.size [x] w w4:=A3.out.2.2.trans e4.kq;clear A3 e4;have v0:w4.cell? ⟨p,0,none⟩=some (.pointer (some ⟨x,0,none⟩)):=hd.cell 0;have v1:w4.cell? ⟨x,1,none⟩=some (.int .i64 G):=hx4.blk.cell 1;have v2:w4.cell? ⟨x,2,none⟩=some (.int .u8 fl):=hx4.blk.cell 2;have A4:=up (⟨hx4,hd,ho⟩:_/\_/\_);have hN:=up (MX s fl ev G (by have:=hT.g9;omega) w4.drew);clear hx4 hd ho;go_wp2;go_still_tail 10,by kernel_rfl
 change wpList _ _ _ _ _ w4.drew;go_wp2;refine hN.out.mono ?_;rintro e' w5 ⟨rfl,hm5,he,hf,k5⟩;have hg:w4.drew.heap.size=w4.heap.size:=rfl;rw[hg]at hm5 he hf k5;rw[hg];obtain⟨B,hB⟩:∃B,w4.heap.size=B:=⟨_,rfl⟩;have k45:Kq w4.heap.size [] w4 w5:=((Kq.refl w4).drew).trans k5;have h3:w.heap.size<=B:=hB▸A4.out.2.2.kp.1;have h6:∀b,S b->b<w4.heap.size:=λb hb=>(A4.out.1.low b hb).1
 have hE:=Mm (s:=s) (f:=fl) (e:=ev) (G:=G) hs hfl hev hT h6;have hW:=yI (s:=s) (f:=fl) (e:=ev) (G:=G) (S:=S) (B:=w4.heap.size) hT;have hG:=Ml (s:=s) (f:=fl) (e:=ev) (G:=G) hT h6;have hq:=JQ (s:=s) (f:=fl) (e:=ev) (G:=G) (w':=w5) A4.out.1.rep h6 hm5 he k45;have hxB:x<B:=hB▸A4.out.1.blk.lt;have h5:p<B:=hB▸A4.out.2.1.lt;have I5:za (uT s fl ev G nd S w4.heap.size) w x q fl G nd S w4.heap.size G p w5:=⟨hq,A4.out.1.kq k45,⟨_,by simp,hf⟩,A4.out.2.1.kq k45 A4.out.2.1.lt AI,A4.out.2.2.trans (k45.mono A4.out.2.2.kp.1 nofun)⟩;rw[hB]at hE hW hG I5;rw[hB];have h9:=hT.g9;have h4:=up (hB▸h6:∀b,S b->b<B);replace I5:=up I5;replace hB:=up hB;replace h3:=up h3;replace h9:=up h9;clear hm5 he hf k5 k45 h6 hq A4 hN v0 v1 v2 hg hC;go_wp2;go_loopw [10] (λc wr=>∃n:Nat,i<=n/\n<=s.size+1/\c= .int .i64 n/\za (uT s fl ev G nd S B) w x q fl G nd S B G p wr/\fj ⟨s,fl,ev⟩ nd G (s.size+1-n) n=fj ⟨s,fl,ev⟩ nd G (s.size+1-i) i) λc _=>s.size+1- (intOf c).toNat
 case atStart=>exact⟨i,AT _,by omega,rfl,I5.out,rfl⟩
 case round=>
  obtain⟨n,hin,hns,rfl,I,hfd⟩:=hrel;clear I5;by_cases hle:n<=s.size
  .have v0:wr.cell? ⟨p,0,none⟩=some (.pointer (some ⟨x,0,none⟩)):=I.box.cell 0;have vE:wr.cell? ⟨x,10,none⟩=some (.bool (bj nd).2):=I.rx.blk.cell 10;have v6:=J1 I.rx.blk;have hd1:decide (n<=s.size)=true:=by simpa using hle
   have hd2:(n:Int)<=(s.size:Int):=by omega
   have hfm:∃f,s.size+1-n=f+1/\s.size+1- (n+1)=f:=⟨s.size-n,by omega,by omega⟩;obtain⟨f,hf1,hf2⟩:=hfm;rw[hf1,fj]at hfd;have hmay:JU ⟨s,fl,ev⟩ nd n=((bj nd).2||decide (n<s.size)&&du co (bj nd).1 (s.get! n).toNat):=by simp[JU,du,co]
   rw[hmay]at hfd;clear hmay;obtain⟨V,hV⟩:∃V,du co (bj nd).1=V:=⟨_,rfl⟩;obtain⟨z,hz⟩:∃z,(bj nd).2=z:=⟨_,rfl⟩;rw[hV]at v6 hfd;rw[hz]at vE hfd;replace I:=up I;replace hfd:=up hfd;replace hV:=up hV;replace hz:=up hz;replace hf1:=up hf1;replace hf2:=up hf2;have hc:=(s.get! n).toNat_lt;obtain⟨c,hcc⟩:∃c,(s.get! n).toNat=c:=⟨_,rfl⟩;rw[hcc]at hfd hc;have hH:=BU V c hc;unfold kL at hH;have vN:wr.cell? ⟨x,0,none⟩=some (.iface (bn nd) (.pointer (some ⟨q,0,none⟩))):=I.out.rx.blk.cell 0;have hk:Hid (z=true)\/Hid (z=false/\n<s.size/\V c=true)\/Hid (z=false/\n<s.size/\V c=false)\/Hid (z=false/\n=s.size):=by
    cases z
    .by_cases h:n=s.size
     .exact .inr (.inr (.inr (up ⟨rfl,h⟩)))
     .cases hv:V c
      .exact .inr (.inr (.inl (up ⟨rfl,by omega,rfl⟩)))
      .exact .inr (.inl (up ⟨rfl,by omega,rfl⟩))
    .exact .inl (up rfl)
   replace hcc:=up hcc;obtain⟨v60,v61,v62,v63⟩:=v6;rcases hk with h|h|h|h
   case inr.inr.inr=>
    obtain⟨rfl,rfl⟩:=h.out;clear h hH vN;go_wp2;go_quiet (fail)
    go_wp2;go_roundw
    case rel=>exact⟨s.size+1,by omega,by omega,by push_cast;rfl,I.out.Hv ((Kq.refl wr).drewN nq) hxB h5 h4.out h3.out,by rw[hf2.out];simpa using hfd.out⟩
    case measure=>first |(simp[intOf];done)|(simp[intOf];omega)
   case inr.inr.inl=>
    obtain⟨rfl,hlt,hv⟩:=h.out;clear h vN;have hd3:decide ((n:Int)=(s.size:Int))=false:=by simp;omega
    have hd4:((n:Int)==(s.size:Int))=false:=by simp;omega
    replace hv:=up hv;go_wp2;go_still_tail 18,by kernel_rfl
    change wpList _ _ _ _ _ wr.drew;have hcs:s[n].toNat=c:=by
     rw[<- hcc.out,show s.get! n=s[n]from by show s.data[n]! =_;rw[getElem!_pos s.data n hlt];rfl]
    rw[hcs]at *;go_wp2_with (first |(go_at_call 80;refine(hH _).mono ?_;rintro e' u ⟨rfl,k2⟩;replace k2:=up (show Kq wr.heap.size [] wr u from⟨k2.kp,k2.os,k2.out⟩);rw[hv.out])|fail)
    go_roundw
    case rel=>exact⟨n+1,by omega,by omega,by push_cast;rfl,I.out.Hv k2.out hxB h5 h4.out h3.out,by rw[hf2.out];have:=hfd.out;rw[hv.out]at this;simpa using this⟩
    case measure=>first |(simp[intOf];done)|(simp[intOf];omega)
   case' inl=>
    obtain rfl:=h.out;clear h hH;have h1:=hfd.out;rw[Bool.true_or,if_pos rfl]at h1;replace h1:=up h1;go_wp2;go_quiet (fail)
    have k2:=up ((Kq.refl wr).drewN nq:Kq wr.heap.size [] wr (wr.drewN nq));replace v0:=show(wr.drewN nq).cell? ⟨p,0,none⟩=_ from v0;replace vN:=show(wr.drewN nq).cell? ⟨x,0,none⟩=_ from vN;generalize wr.drewN nq=u at *;clear hfd;go_wp2
   case' inr.inl=>
    obtain⟨rfl,hlt,hv⟩:=h.out;clear h;have hd3:decide ((n:Int)=(s.size:Int))=false:=by simp;omega
    have hd4:((n:Int)==(s.size:Int))=false:=by simp;omega
    have h1:=hfd.out;rw[hv,decide_eq_true hlt,Bool.false_or,Bool.true_and,if_pos rfl]at h1;replace h1:=up h1;replace hv:=up hv;clear hfd;go_wp2;go_still_tail 18,by kernel_rfl
    change wpList _ _ _ _ _ wr.drew;have hcs:s[n].toNat=c:=by
     rw[<- hcc.out,show s.get! n=s[n]from by show s.data[n]! =_;rw[getElem!_pos s.data n hlt];rfl]
    rw[hcs]at *;go_wp2_with (first |(go_at_call 80;refine(hH _).mono ?_;rintro e' u ⟨rfl,k2⟩;replace k2:=up (show Kq wr.heap.size [] wr u from⟨k2.kp,k2.os,k2.out⟩);rw[hv.out];replace v0:u.cell? ⟨p,0,none⟩=some (.pointer (some ⟨x,0,none⟩)):=(I.out.Hv k2.out hxB h5 h4.out h3.out).box.cell 0;replace vN:u.cell? ⟨x,0,none⟩=some (.iface (bn nd) (.pointer (some ⟨q,0,none⟩))):=(I.out.Hv k2.out hxB h5 h4.out h3.out).rx.blk.cell 0)|fail)
   all_goals
    have IU:=up (I.out.Hv k2.out hxB h5 h4.out h3.out);obtain⟨L,hL,hj⟩:=IU.out.sp;have hA:=Oo hE hW hG (w:=u) (q:=q) (i:=n) (L:=L) IU.out.mem IU.out.rx.rep hle hL hj;refine hA.mono ?_;rintro e' w7 ⟨ha,h7⟩;replace h7:match df (λ_=>true) (bv ⟨s,fl,ev⟩ nd n) 320 with
     |none=>e'= .returned (.slice none 0 0)/\Kq u.heap.size [B] u w7
     |some j=>e'= .returned (.slice (some ⟨B+1,0,none⟩) (G+1) (G+1))/\a7 w7 (B+1) 54 (dw (dH (((0:Int),n,j)::de ⟨s,fl,ev⟩ nd n j) (By (G+1) dM)))/\Kq u.heap.size [B,B+1] u w7:=h7
    have h2:=h1.out;rw[DR]at h2;clear hA h1 v0 vE vN v60 v61 v62 v63;cases hpk:df (λ_=>true) (bv ⟨s,fl,ev⟩ nd n) 320
    .rw[hpk]at h7 h2;obtain⟨rfl,k7⟩:=h7;have I7:=up (IU.out.NE k7 (λb hb=>by rw[x5.1 hb];exact AT _) hxB h5 h4.out h3.out ha ⟨L,hL,hj.kq k7 hj.lt λh=>by have:=x5.1 h;omega⟩);replace h2:=up h2;clear k7 ha hpk;go_wp2;go_roundw
     case rel=>exact⟨n+1,by omega,by omega,by push_cast;rfl,I7.out,by rw[hf2.out];exact h2.out⟩
     case measure=>first |(simp[intOf];done)|(simp[intOf];omega)
    .rename_i j;rw[hpk]at h7 h2;obtain⟨rfl,h8,k7⟩:=h7;have I7:=up (IU.out.NE k7 λb hb=>by simp only[Sy,AI,or_false]at hb;omega hxB h5 h4.out h3.out ha ⟨_,by rw[oZ];simp,h8⟩);have hbit:=(j4.1 hpk).2.1;have hwn:∀m∈((0:Int),n,j)::de ⟨s,fl,ev⟩ nd n j,0<=m.1:=λm hm=>by
      rcases Sy.1 hm with rfl|hm
      .exact Int.le_refl _
      .obtain⟨hi9,hh9,ht⟩:=hT.w;have:=(walk_in (M:=⟨s,fl,ev⟩) nd ht n j hle hbit m hm).1;omega
     rw[Fa hwn]at h8;replace h8:=up h8;replace h2:=up h2;clear k7 ha hpk hbit hwn;go_wp2;go_ret;refine⟨_,rfl,?_,I7.out.rx,I7.out.kq⟩;rw[<- h2.out];exact⟨B+1,by have:=h3.out;omega,rfl,h8.out⟩
  .obtain rfl:n=s.size+1:=by omega
   have hd1:decide (s.size+1<=s.size)=false:=by simp
   have hd2:¬ ((s.size+1:Nat):Int)<=(s.size:Int):=by omega
   rw[show s.size+1- (s.size+1)=0 from by omega,fj]at hfd;replace I:=up I;replace hfd:=up hfd;go_wp2;go_ret;refine⟨_,rfl,?_,I.out.rx,I.out.kq⟩;rw[<- hfd.out];rfl
def iM(w w':SJ)(x q fl:Nat)(G:Nat)(nd:Nd)(S:Nat->Prop):Prop:=kh w' x q fl G nd S true (du co (bj nd).1) (bj nd).2/\Kq w.heap.size [x] w w'
section
variable{h0:Array Obj}{S:Nat->Prop}{nd:Nd}{w:SJ}{x q fl ev G:Nat}{dn:Bool}{T:cS}{e:Bool}{s:ByteArray}
theorem GM(hx:kh w x q fl G nd S dn T e)(hT:je nd G)(hs:s.size<=300)(hfl:fl<256)(hev:ev<256):
 cb (br ek h0) 35 #[.pointer (some ⟨x,0,none⟩),.string s,.int .u8 ev] w λe' w'=>e'= .returned (.tuple #[.bool (fj ⟨s,fl,ev⟩ nd G (s.size+1) 0).isSome,.nilIface])/\iM w w' x q fl G nd S:=by
 refine bu (bP (by decide)) (λw' h=>nomatch h.1) (PH.func Tryz.func35 (by decide)) rfl ?_;simp only[Tryz.ntmps35,No,Sw,SC,SH,SG,IS,IN,OF,IT,Sz,Sx];have hd1:decide (300<s.size)=false:=by simpa using hs
 have hd2:¬ (300:Int)<(s.size:Int):=by omega
 refine ac λK hK=> ?_
 refine bm λw1 e1=> ?_
 replace e1:=up e1;replace hx:=up hx;go_wp2;refine hK.out _ _ ?_;clear hK K;refine ac λK hK=> ?_
 refine bm λw2 e2=> ?_
 replace e2:=up (e2.trans e1.out);clear e1;go_wp2;refine hK.out _ _ ?_;clear hK K;refine ac λK hK=> ?_
 refine ao ?_;show aV _ _ _ (If 0 (3+4)) _ _;refine bq 0 3 4 (λN hN w3 e3=> ?_) (by decide);simp only[zq1];replace e3:=up (e3.trans e2.out);clear e2;go_wp2;refine hN.out _ _ ?_;clear hN N;have hx3:=hx.out.kq e3.out.kq;refine f9 (f:=50) (i:=3) (rest:=If 4 (3+0)) rfl rfl λu=>by simp[go_sem] (bP (by decide)) (HZ (i:=0) (ev:=ev) (s:=s) hx3 hT hs hfl hev (SM _)) (λv w4 hr=> ?_) λch w4 hr=>by obtain⟨_,h,_⟩:=hr;cases h
 obtain⟨v',hv,hf,hx4,k4⟩:=hr;cases hv;have hS:iM w w4 x q fl G nd S:=⟨hx4,e3.out.kq.trans (k4.mono (by rw[e3.out.heap];exact AT _) λ_ h _=>h)⟩;replace hS:=up hS;clear hx4 k4 hx3 e3 hx;rw[Nat.sub_zero]at hf;simp only[SD,Sv,Su];simp only[AS,zq0];refine bq 4 3 0 (λN hN w5 e5=> ?_) (by decide);simp only[zq1];have hS5:iM w w5 x q fl G nd S:=⟨hS.out.1.kq e5.kq,hS.out.2.trans e5.kq⟩;replace hS5:=up hS5;clear e5 hS;have hv:∃b,(fj ⟨s,fl,ev⟩ nd G (s.size+1) 0).isSome=b/\(b=false/\v= .slice none 0 0\/b=true/\∃g,v= .slice (some ⟨g,0,none⟩) (G+1) (G+1)):=by
  cases hm:fj ⟨s,fl,ev⟩ nd G (s.size+1) 0 with
  |none=>rw[hm]at hf;exact⟨false,rfl,.inl ⟨rfl,hf⟩⟩
  |some L=>rw[hm]at hf;obtain⟨g,_,hg,_⟩:=hf;exact⟨true,rfl,.inr ⟨rfl,g,hg⟩⟩
 clear hf;obtain⟨b,hb,hv⟩:=hv;replace hb:=up hb;rcases hv with⟨rfl,rfl⟩|⟨rfl,g,rfl⟩
 all_goals
  go_wp2;refine hN.out _ _ (az (hK.out _ _ ?_));clear hN N hK K;refine bm λw6 e6=> ?_
  have hS6:iM w w6 x q fl G nd S:=⟨hS5.out.1.kq e6.kq,hS5.out.2.trans e6.kq⟩;replace hS6:=up hS6;clear e6 hS5;go_wp2;go_ret2
  exact⟨by rw[hb.out];rfl,hS6.out⟩
end
end
section
open Go.RowKit
theorem CO{P}(w dT sT ty elem g dLen dCap a sLen sCap sz cur t cs)
 (hu:P.underlying dT=some (.slice elem)) (hs:(P.info? elem).map (·.size)=some sz) (hg:w.heap[g]?=some (.cells cur t (0,0))) (hn:cs.length=T2 sLen dLen*sz)
 (h0:∀j v,cs[j]?=some v->w.cell? (a.add j)=some v) (h2:cs.length<=cur.size) (h1:∀v∈cs,v.oneCell'=true):
 (T5 #[dT,sT] ty #[.slice (some ⟨g,0,none⟩) dLen dCap,.slice (some a) sLen sCap]).run P w= .ok (goInt (T2 sLen dLen)) (w.setRow g (cs++cur.toList.drop cs.length).toArray):=by
 have hl:=run_loadCells_list (P:=P) w a cs h0;have hst:=run_storeCells_at P g 0 t cs 0 cur w hg (by simpa using h2) h1;cases hq:P.info? elem with
 |none=>simp[hq]at hs
 |some i=>
  simp_all[T5,run_underlying,Builtin.lenOf,Builtin.firstCells,sizeOf,typeInfo]
theorem LJ(a b):eY (a++b)=eY a++eY b:=by simp[eY]
theorem Aa:∀L n,eY (L.take n)=(eY L).take (n*2)
 |[],n=>by simp[eY]
 |p::L,0=>by simp[eY]
 |p::L,n+1=>by
  have:=Aa L n;rw[show(n+1)*2=n*2+1+1 from by omega];show SS .i64 p.1::SS .i64 p.2::eY (L.take n)=List.take (n*2+1+1) (SS .i64 p.1::SS .i64 p.2::eY L);rw[SN,SN,this]
theorem Ab:∀L n,eY (L.drop n)=(eY L).drop (n*2)
 |[],n=>by simp[eY]
 |p::L,0=>by simp[eY]
 |p::L,n+1=>by
  have:=Ab L n;rw[show(n+1)*2=n*2+1+1 from by omega];show eY (L.drop n)=List.drop (n*2+1+1) (SS .i64 p.1::SS .i64 p.2::eY L);rw[SO,SO,this]
def jV(n:Nat)(L:Sp):Sp:=L.take n++By (n-L.length) dM
theorem FG{w g gs G n L}(hL:L.length=G+1)(hg:a7 w g 54 (dw (By n dM)))(hs:a7 w gs 54 (dw L))(ty):
 (T5 #[48,48] ty #[.slice (some ⟨g,0,none⟩) n n,.slice (some ⟨gs,0,none⟩) (G+1) (G+1)]).run PM w= .ok (goInt (T2 (G+1) n)) (w.setRow g (dw (jV n L))):=by
 have hi:(PM.info? 54).map (·.size)=some 2:=by
  have:=uJ;rw[SP]at this;grind
 have hlen:(eY (L.take n)).length=T2 (G+1) n*2:=by
  rw[Dw,List.length_take,hL,Nat.mul_comm,Nat.min_comm]
 have h:=CO (P:=PM) w 48 48 ty 54 g n n ⟨gs,0,none⟩ (G+1) (G+1) 2 (dw (By n dM)) 54 (eY (L.take n)) ((congrFun (aK ..) _).trans Tryz.underlying48) hi hg hlen
  (λj v hv=>by
   rw[Aa]at hv;have hv2:(eY L)[j]?=some v:=by
    grind
   have e:(⟨gs,0,none⟩:Addr).add j=⟨gs,j,none⟩:=by simp_all[Addr.add]
   rw[e,hs.cell j];simp_all[SQ,dw])
  (by grind [No,Dw,List.length_replicate,dw])
  (λv hv=>by
   unfold eY at hv;rw[List.mem_flatMap]at hv;obtain⟨p,_,hp⟩:=hv;simp only[Sy,AI,or_false]at hp;rcases hp with rfl|rfl<;>rfl)
 have e:(eY (L.take n)++(dw (By n dM)).toList.drop (eY (L.take n)).length).toArray=dw (jV n L):=by
  rw[hlen];unfold dw jV;rw[List.toList_toArray,<- Ab,List.drop_replicate,<- LJ,hL];have:n-T2 (G+1) n=n- (G+1):=by
   have:T2 (G+1) n=min (G+1) n:=rfl;omega
  rw[this]
 rw[h,e]
theorem sO{M nd G}:∀f i{L},fj M nd G f i=some L->L.length=G+1
 |0,_,_,h=>by cases h
 |f+1,i,L,h=>by
  rw[fj]at h;split at h
  .cases ha:DR M nd G i with
   |none=>rw[ha]at h;exact sO f _ h
   |some l=>
    rw[ha]at h;unfold DR at ha;grind
  .exact sO f _ h
end
section
open Go.RowKit Go.Conc
attribute [local instance] fI
theorem iM.eqv{w a b x q fl G nd S}(h:iM w a x q fl G nd S)(k:Kq a.heap.size [] a b)(hlo:w.heap.size<=a.heap.size):iM w b x q fl G nd S:=⟨h.1.kq k,h.2.trans (k.mono hlo nofun)⟩
theorem iM.far{w a b x q fl G g nd S}(h:iM w a x q fl G nd S)(k:Kq a.heap.size [g] a b)(hlo:w.heap.size<=g)(hx:x<g)(hS:∀b,S b->b<g):iM w b x q fl G nd S:=by
 have no:∀b,b<g->b∉[g]:=λb hb hm=>by have:=x5.1 hm;omega
 exact⟨⟨h.1.blk.kq k h.1.blk.lt (no _ hx),h.1.rep.keep λb hb hlt=>k.kp.2 b hlt (no _ (hS b hb)),λb hb=>⟨SF (h.1.low b hb).1 k.kp.1,(h.1.low b hb).2⟩,h.1.had⟩,
  h.2.trans (k.mono h.2.kp.1 λb hb hlt=>by have:=x5.1 hb;omega)⟩
def xl(w':SJ)(lo:Nat)(n:Nat)(v:T3):Option (List (Int×Int))->Prop
 |none=>v= .slice none 0 0
 |some L=>∃g,lo<=g/\v= .slice (some ⟨g,0,none⟩) n n/\a7 w' g 54 (dw (jV n L))
theorem Ht(w g cs):Kq w.heap.size [g] w (w.setRow g cs):=⟨⟨by simp,λb hb hx=>by
 unfold World.setRow;grind⟩,rfl,rfl⟩
theorem tJ(a l c u):(binOp .eql 48 (.slice a l c) (.slice none 0 0)).run PH u= .ok (.bool a.isNone) u:=by
 have h:=run_equal_slice_nil (P:=PH) u 48 54 a l c ((congrFun (aK ..) _).trans Tryz.underlying48);rw[binOp.eq_def];simp_all
section
variable{h0:Array Obj}{S:Nat->Prop}{nd:Nd}{w:SJ}{x q fl ev G n:Nat}{dn:Bool}{T:cS}{e:Bool}{s:ByteArray}
theorem Js(hx:kh w x q fl G nd S dn T e)(hT:je nd G)(hs:s.size<=300)(hfl:fl<256)(hev:ev<256)(hn1:1<=n)(hn2:n<=20):
 cb (br ek h0) 34 #[.pointer (some ⟨x,0,none⟩),.string s,.int .u8 ev,.int .i64 n] w λe' w'=>∃v,e'= .returned (.tuple #[v,.nilIface])/\xl w' w.heap.size n v (fj ⟨s,fl,ev⟩ nd G (s.size+1) 0)/\iM w w' x q fl G nd S:=by
 refine bu (bP (by decide)) (λw' ⟨v,h,_⟩=>nomatch h) (PH.func Tryz.func34 (by decide)) rfl ?_;simp only[Tryz.ntmps34,No,Sw,SC,SH,SG,IS,IN,OF,IT,Sz,Sx];have hd1:decide (300<s.size)=false:=by simpa using hs
 have hd2:¬ (300:Int)<(s.size:Int):=by omega
 have hd3:decide ((n:Int)<1)=false:=by simp;omega
 have hd4:decide ((20:Int)<(n:Int))=false:=by simp;omega
 have hd5:¬ (n:Int)<1:=by omega
 have hd6:¬ (20:Int)<(n:Int):=by omega
 refine ac λK hK=> ?_
 refine bm λw1 e1=> ?_
 replace e1:=up e1;replace hx:=up hx;go_wp2;refine hK.out _ _ ?_;clear hK K;refine ac λK hK=> ?_
 refine bm λw2 e2=> ?_
 replace e2:=up (e2.trans e1.out);clear e1;go_wp2;refine hK.out _ _ ?_;clear hK K;refine ac λK hK=> ?_
 refine ao ?_;show aV _ _ _ (If 0 (3+2)) _ _;refine bq 0 3 2 (λN hN w3 e3=> ?_) (by decide);simp only[zq1];replace e3:=up (e3.trans e2.out);clear e2;go_wp2;refine hN.out _ _ ?_;clear hN N;have hx3:=hx.out.kq e3.out.kq;have hd:w3.heap.size=w.heap.size:=by rw[e3.out.heap]
 refine f9 (f:=50) (i:=3) (rest:=If 4 (1+0)) rfl rfl λu=>by simp[go_sem] (bP (by decide)) (HZ (i:=0) (ev:=ev) (s:=s) hx3 hT hs hfl hev (SM _)) (λv w4 hr=> ?_) λch w4 hr=>by obtain⟨_,h,_⟩:=hr;cases h
 obtain⟨v',hv,hf,hx4,k4⟩:=hr;cases hv;have hS:iM w w4 x q fl G nd S:=⟨hx4,e3.out.kq.trans (k4.mono (by rw[hd];exact AT _) λ_ h _=>h)⟩;rw[hd,Nat.sub_zero]at hf;have h5:=hS.2.kp.1;replace hS:=up hS;replace h5:=up h5;clear hx4 k4 hx3 e3 hx hd;simp only[SD,Sv,Su];simp only[AS,zq0];refine bq 4 1 0 (λN hN w5 e5=> ?_) (by decide);simp only[zq1];have hS5:=hS.out.eqv e5.kq h5.out;have h3:w.heap.size<=w5.heap.size:=hS5.2.kp.1;have he:∀{b:Nat}{t cs},a7 w4 b t cs->a7 w5 b t cs:=λh=>h.kq (e5.kq (B:=w4.heap.size) (X:=[])) h.lt AI
 replace hS5:=up hS5;replace h3:=up h3;clear e5 hS h5;cases hm:fj ⟨s,fl,ev⟩ nd G (s.size+1) 0 with
 |none=>
  rw[hm]at hf;obtain rfl:=hf;replace hm:=up hm;clear he;go_wp2;refine hN.out _ _ (az (hK.out _ _ ?_));clear hN N hK K;refine bm λw6 e6=> ?_
  have hS6:=up (hS5.out.eqv e6.kq h3.out);clear e6 hS5;have hq:=tJ none 0 0;go_wp2;go_ret2
  exact⟨_,rfl,by rw[hm.out];rfl,hS6.out⟩
 |some L=>
  rw[hm]at hf;obtain⟨gs,hk,rfl,hl⟩:=hf;have hL:=sO _ _ hm;have hg:=up (he hl);replace hm:=up hm;replace hk:=up hk;replace hL:=up hL;clear he hl;go_wp2;refine hN.out _ _ (az (hK.out _ _ ?_));clear hN N hK K;refine bm λw6 e6=> ?_
  have hS6:=up (hS5.out.eqv e6.kq h3.out);have h8:=up (hg.out.kq (e6.kq (B:=w5.heap.size) (X:=[])) hg.out.lt AI);have h4:=up (SI h3.out (by rw[e6.heap];exact AT _:w5.heap.size<=w6.heap.size));clear e6 hS5 hg h3;obtain⟨i,hi,hsz,hz,hb⟩:∃i,PM.info? 54=some i/\i.size=2/\i.zero=some (.agg #[.int .i64 0,.int .i64 0])/\i.bytes=16:=by
   have:=uJ;rw[SP]at this;obtain⟨i,h1,h2⟩:=this;simp only[Prod.mk.injEq]at h2;exact⟨i,h1,h2.1,h2.2.1,h2.2.2⟩
  have hn:=run_make (P:=PH) w6 48 54 i _ ((congrFun (aK ..) _).trans Tryz.underlying48) hi hz .i64 .i64 (n:Int) (n:Int) (by omega) (by omega) (by rw[hb];omega) (by omega);rw[Int.toNat_natCast,hsz,show(Value.agg #[.int .i64 0,.int .i64 0]).cells=#[.int .i64 0,.int .i64 0]from rfl,DO]at hn;clear hi hsz hz hb;have h6:=a7.new w6 54 (dw (By n (0,0)));have kg:Kq w6.heap.size [] w6 (w6.alloc (.cells (dw (By n (0,0))) 54)):=(Kq.refl w6).alloc (AT _) _;have ho:=up (hS6.out.eqv kg h4.out);have hp:=up (h8.out.kq kg h8.out.lt AI);have h9:gs<w6.heap.size:=h8.out.lt;replace h6:=up h6;replace kg:=up kg;replace h9:=up h9;have hh:=up λb(hb:S b)=>(hS6.out.1.low b hb).1
  have hj:=up hS6.out.1.blk.lt;clear hS6 h8 kg;have hq:=tJ (some ⟨gs,0,none⟩) (G+1) (G+1);go_wp2;obtain⟨g,ht⟩:∃g,w6.heap.size=g:=⟨_,rfl⟩;rw[ht]at h6 h9 hh hj h4 ⊢;generalize w6.alloc (.cells (dw (By n (0,0))) 54)=w7 at *;clear hn hq ht;go_loopw [36] (λc wr=>∃k:Nat,k<=n/\c= .int .i64 k/\a7 wr g 54 (dw (By k dM++(By n (0,0)).drop k))/\iM w wr x q fl G nd S/\a7 wr gs 54 (dw L)) λc _=>n- (intOf c).toNat
  case atStart=>exact⟨0,SM _,rfl,by simpa using h6.out,ho.out,hp.out⟩
  case round=>
   clear h6 ho hp;obtain⟨k,hkn,rfl,hB,hS,h7⟩:=hrel;by_cases hlt:k<n
   .have hlen:k<(By k dM++(By n (0,0)).drop k).length:=by simp;omega
    obtain⟨s0,s1⟩:=qm hB hlen;have hset:=vK (n:=k) (u:=dM) hB;rw[xM (by simpa using hlt)]at hset;have fz:∀j,wr.frozen? ⟨g,j,none⟩=false:=hB.frozen;have kB:Kq wr.heap.size [g] wr ((wr.setCell ⟨g,k*2,none⟩ (.int .i64 (-1))).setCell ⟨g,k*2+1,none⟩ (.int .i64 (-1))):=((Kq.refl wr).setCell (p:=⟨g,k*2,none⟩) (λ_=>x5.2 rfl) _).setCell (p:=⟨g,k*2+1,none⟩) (λ_=>x5.2 rfl) _;have ha:=hS.far kB (SI h4.out (AT _)) hj.out hh.out;have hw:=h7.kq kB h7.lt λh=>by have:=x5.1 h;have:=h9.out;omega
    have A2:=up (⟨hset,ha,hw⟩:a7 _ g 54 _/\iM w _ x q fl G nd S/\a7 _ gs 54 _);clear hB hS h7 hset kB ha hw;go_wp2;go_roundw
    case rel=>exact⟨k+1,by omega,by push_cast;rfl,A2.out⟩
    case measure=>first |(simp[intOf];done)|(simp[intOf];omega)
   .obtain rfl:k=n:=by omega
    rw[T1 (by simp),Tf]at hB;have hcp:=FG hL.out hB h7 3;have kc:=Ht wr g (dw (jV k L));have hc:a7 (wr.setRow g (dw (jV k L))) g 54 (dw (jV k L)):=setRow_heap wr g _ _ 54 (0,0) hB;have ha:=up (hS.far kc h4.out hj.out hh.out);replace hc:=up hc;clear hB hS h7 kc;go_wp2;go_ret2
    exact⟨_,rfl,by rw[hm.out];exact⟨g,h4.out,rfl,hc.out⟩,ha.out⟩
end
theorem xl.kq{a b lo n v m}(h:xl a lo n v m)(k:Kq a.heap.size [] a b):xl b lo n v m:=by
 cases m with
 |none=>exact h
 |some L=>obtain⟨g,h1,h2,h3⟩:=h;exact⟨g,h1,h2,h3.kq k h3.lt AI⟩
theorem LV{w' n0 x fl nd}{g:Int}{G:Nat}{nv}{tl:FV}(hg:g=G)(hb:w'.heap[x]?=some (.cells (#[nv,.int .i64 g,.int .u8 fl]++tl.1) 103 (0,0)))(hR:Repr w' (λb=>n0<=b/\b≠x) nv nd):
 ∃q,kh w' x q fl G nd (λb=>n0<=b/\b≠x/\b<w'.heap.size) false co false:=by
 obtain⟨q,rfl⟩:=ed hR;refine⟨q,?_,hR.mono (S':=λb=>n0<=b/\b≠x/\b<w'.heap.size) λb hb hlt=>⟨hb.1,hb.2,hlt⟩,λb hb=>⟨hb.2.2,hb.2.1⟩,λh=>nomatch h⟩;obtain⟨t,rfl⟩:=tl;subst hg;have:mU (.iface (bn nd) (.pointer (some ⟨q,0,none⟩))) G fl (if false then 1 else 0) 0 co false=#[.iface (bn nd) (.pointer (some ⟨q,0,none⟩)),.int .i64 G,.int .u8 fl]++ #[.int .u32 0,.int .i32 0,.int .u32 0,.int .u64 0,.int .u64 0,.int .u64 0,.int .u64 0,.bool false]:=by
  simp[mU,qd]
 rw[this];exact hb
section
variable{h0:Array Obj}{S:Nat->Prop}{nd:Nd}{w:SJ}{x q fl ev G n:Nat}{dn:Bool}{T:cS}{e:Bool}{s:ByteArray}
theorem GY(hx:kh w x q fl G nd S dn T e)(hT:je nd G)(hs:s.size<=300)(hfl:fl<256)(hev:ev<256):
 cb (br ek h0) 24 #[.pointer (some ⟨x,0,none⟩),.string s,.int .u8 ev] w λe' w'=>e'= .returned (.tuple #[.bool (fj ⟨s,fl,ev⟩ nd G (s.size+1) 0).isSome,.int .i64 0])/\iM w w' x q fl G nd S:=by
 refine bu (bP (by decide)) (λw' h=>nomatch h.1) (PH.func Tryz.func24 (by decide)) rfl ?_;simp only[Tryz.ntmps24,No,Sw,SC,SH,SG,IS,IN,OF,IT,Sz,Sx];refine ac λK hK=> ?_
 refine bm λw1 e1=> ?_
 replace e1:=up e1;replace hx:=up hx;go_wp2;refine hK.out _ _ ?_;clear hK K;refine ac λK hK=> ?_
 refine ao ?_;show aV _ _ _ (If 0 (3+6)) _ _;refine bq 0 3 6 (λN hN w3 e3=> ?_) (by decide);simp only[zq1];replace e3:=up (e3.trans e1.out);clear e1;go_wp2;refine hN.out _ _ ?_;clear hN N;have hx3:=hx.out.kq e3.out.kq;have h6:w3.heap.size=w.heap.size:=by rw[e3.out.heap]
 refine f9 (f:=35) (i:=3) (rest:=If 4 (5+0)) rfl rfl λu=>by simp[go_sem] (bP (by decide)) (GM (ev:=ev) (s:=s) hx3 hT hs hfl hev) (λv w4 hr=> ?_) λch w4 hr=>nomatch hr.1
 obtain⟨hv,hx4⟩:=hr;cases hv;generalize hb:(fj ⟨s,fl,ev⟩ nd G (s.size+1) 0).isSome=b;replace hb:=up hb;have hS:iM w w4 x q fl G nd S:=⟨hx4.1,e3.out.kq.trans (hx4.2.mono (by rw[h6];exact AT _) λ_ h _=>h)⟩;have h1:=hS.2.kp.1;replace hS:=up hS;replace h1:=up h1;clear hx4 hx3 e3 hx;simp only[SD,Sv,Su];simp only[AS,zq0];refine bq 4 5 0 (λN hN w5 e5=> ?_) (by decide);simp only[zq1];have hS5:=up (hS.out.eqv e5.kq h1.out);have h4:=up hS5.out.2.kp.1;have h3:=up (e5.kq:Kq w4.heap.size [] w4 w5);clear e5 hS;go_wp2;refine hN.out _ _ (az (hK.out _ _ ?_));clear hN N hK K;refine bm λw6 e6=> ?_
 have hS6:=up (hS5.out.eqv e6.kq h4.out);have h2:=up (h3.out.trans e6.kq:Kq w4.heap.size [] w4 w6);have h5:=up hS6.out.2.kp.1;have hL:=uF w6;clear e6 hS5 h3;go_wp2;refine hL.mono ?_;rintro e' w7 ⟨rfl,b7⟩;have k7:Kq w6.heap.size [] w6 w7:=⟨⟨b7.size,λb hb _=>b7.block b hb⟩,b7.os,b7.output⟩;have h7:=up (hS6.out.eqv k7 h5.out);have hk7:=up (h2.out.trans (k7.mono h2.out.kp.1 nofun):Kq w4.heap.size [] w4 w7);clear hL b7 k7 hS6 h2;go_wp2;go_ret2
 exact⟨by rw[hb.out];rfl,h7.out⟩
theorem JA(hx:kh w x q fl G nd S dn T e)(hT:je nd G)(hs:s.size<=300)(hfl:fl<256)(hev:ev<256)(hn1:1<=n)(h7:n<=20):
 cb (br ek h0) 23 #[.pointer (some ⟨x,0,none⟩),.string s,.int .u8 ev,.int .i64 n] w λe' w'=>∃v,e'= .returned (.tuple #[v,.int .i64 0])/\xl w' w.heap.size n v (fj ⟨s,fl,ev⟩ nd G (s.size+1) 0)/\iM w w' x q fl G nd S:=by
 refine bu (bP (by decide)) (λw' h=>by obtain⟨_,h,_⟩:=h;cases h) (PH.func Tryz.func23 (by decide)) rfl ?_;simp only[Tryz.ntmps23,No,Sw,SC,SH,SG,IS,IN,OF,IT,Sz,Sx];refine ac λK hK=> ?_
 refine bm λw1 e1=> ?_
 replace e1:=up e1;replace hx:=up hx;go_wp2;refine hK.out _ _ ?_;clear hK K;refine ac λK hK=> ?_
 refine ao ?_;show aV _ _ _ (If 0 (4+6)) _ _;refine bq 0 4 6 (λN hN w3 e3=> ?_) (by decide);simp only[zq1];replace e3:=up (e3.trans e1.out);clear e1;go_wp2;refine hN.out _ _ ?_;clear hN N;have hx3:=hx.out.kq e3.out.kq;have h3:w3.heap.size=w.heap.size:=by rw[e3.out.heap]
 refine f9 (f:=34) (i:=4) (rest:=If 5 (5+0)) rfl rfl λu=>by simp[go_sem] (bP (by decide)) (Js (ev:=ev) (s:=s) (n:=n) hx3 hT hs hfl hev hn1 h7) (λv w4 hr=> ?_) λch w4 hr=>by obtain⟨_,h,_⟩:=hr;cases h
 obtain⟨v',hv,hf,hx4⟩:=hr;cases hv;rw[h3]at hf;replace hf:=up hf;have hS:iM w w4 x q fl G nd S:=⟨hx4.1,e3.out.kq.trans (hx4.2.mono (by rw[h3];exact AT _) λ_ h _=>h)⟩;have h1:=hS.2.kp.1;replace hS:=up hS;replace h1:=up h1;clear hx4 hx3 e3 hx;simp only[SD,Sv,Su];simp only[AS,zq0];refine bq 5 5 0 (λN hN w5 e5=> ?_) (by decide);simp only[zq1];have hS5:=up (hS.out.eqv e5.kq h1.out);have h5:=up hS5.out.2.kp.1;have h4:=up (e5.kq:Kq w4.heap.size [] w4 w5);clear e5 hS;go_wp2;refine hN.out _ _ (az (hK.out _ _ ?_));clear hN N hK K;refine bm λw6 e6=> ?_
 have hS6:=up (hS5.out.eqv e6.kq h5.out);have h2:=up (h4.out.trans e6.kq:Kq w4.heap.size [] w4 w6);have h6:=up hS6.out.2.kp.1;have hL:=uF w6;clear e6 hS5 h4;go_wp2;refine hL.mono ?_;rintro e' w7 ⟨rfl,b7⟩;have k7:Kq w6.heap.size [] w6 w7:=⟨⟨b7.size,λb hb _=>b7.block b hb⟩,b7.os,b7.output⟩;have h8:=up (hS6.out.eqv k7 h6.out);have h9:=up (h2.out.trans (k7.mono h2.out.kp.1 nofun):Kq w4.heap.size [] w4 w7);clear hL b7 k7 hS6 h2;go_wp2;go_ret2
 exact⟨_,rfl,hf.out.kq h9.out,h8.out⟩
end
end
section
def Ob(x:mP):Prop:=∀w,x.wr=some w->0<w.1
theorem tz(ln fold l nt at_):∀f first S p x,jk ln fold l nt at_ f first S p=some x->Ob x
 |0,_,_,_,_,h=>by cases h
 |f+1,first,S,p,x,h=>by
  unfold jk at h;split at h
  .cases h;intro w hw;cases hw;simp
  .split at h
   .cases h;intro w hw;cases hw
   split at h
   .split at h
    .cases h;intro w hw;cases hw;simp
    .exact tz ln fold l nt at_ f _ _ _ _ h
   split at h
   .split at h
    .cases h;intro w hw;cases hw;simp
    .exact tz ln fold l nt at_ f _ _ _ _ h
   .exact tz ln fold l nt at_ f _ _ _ _ h
theorem G6(c p rest):Ob (dS c p rest):=by
 intro w hw;unfold dS at hw;grind
theorem Dq{ln fold l p x}(hx:eB ln fold l p=some x):Ob x:=by
 unfold eB at hx;split at hx
 .cases hx;intro w hw;cases hw
 .split at hx
  .cases hx;intro w hw;cases hw
  split at hx
  .cases hx;exact G6 _ _ _
  split at hx
  .exact tz _ _ _ _ _ _ _ _ _ _ hx
  split at hx
  .cases hx;intro w hw;cases hw
  split at hx
  .split at hx
   .cases hx;intro w hw;cases hw;simp
   split at hx
   .cases hx;intro w hw;cases hw;simp
   split at hx
   .cases hx;intro w hw;cases hw;simp
   .cases hx;intro w hw;cases hw
  .cases hx;intro w hw;cases hw
def KE:Option (g8 Nd)->Prop
 |some (.err k _)=>0<k
 |_=>True
theorem tH{x f}(hx:KE x)(hf:∀a s,KE (f a s)):KE (mb x f):=by
 cases x with
 |none=>trivial
 |some r=>cases r with
  |ok a s=>exact hf a s
  |err k a=>exact hx
section
variable{ln fold:Bool}{l:List UInt8}
theorem NH(f):(∀d s,KE (qY ln fold l f d s))/\(∀d id ks s,KE (lV ln fold l f d id ks s))/\(∀d s,KE (sL ln fold l f d s))/\(∀d id ks s,KE (lU ln fold l f d id ks s))/\(∀d s,KE (oe ln fold l f d s))/\(∀k s,KE (iC ln fold l f k s))/\(∀d s,KE (oU ln fold l f d s))/\∀d s,KE (og ln fold l f d s):=by
 induction f with
 |zero=>exact⟨λ_ _=>trivial,λ_ _ _ _=>trivial,λ_ _=>trivial,λ_ _ _ _=>trivial,λ_ _=>trivial,λ_ _=>trivial,λ_ _=>trivial,λ_ _=>trivial⟩
 |succ f ih=>
  obtain⟨i1,i2,i3,i4,i5,i6,i7,i8⟩:=ih;refine⟨λd s=>i2 _ _ _ _,λd id ks s=>tH (i3 d s) λk s=> ?_,λd s=>i4 _ _ _ _,λd id ks s=> ?_,λd s=>tH (i7 d s) λk s=>i6 k s,λk s=> ?_,λd s=> ?_,λd s=> ?_⟩
  .split
   .trivial
   .split
    .exact i2 _ _ _ _
    .trivial
  .unfold lU;split
   .trivial
   .split
    .split
     .exact(by decide:(0:Int)<11)
     split
     .exact(by decide:(0:Int)<9)
     .trivial
    .split
     .exact(by decide:(0:Int)<8)
     .exact tH (i5 d s) λk s=>i4 _ _ _ _
  .unfold iC;split
   .trivial
   .next x hx=>
    split
    .split
     .next w hw=>exact Dq hx _ hw
     grind
    .trivial
  .unfold oU;split
   .trivial
   .next x hx=>
    split
    .next w hw=>exact Dq hx _ hw
    .split
     .exact i8 d s
     split
     .trivial
     split
     .trivial
     .trivial
  .unfold og;split
   .trivial
   .split
    .exact(by decide:(0:Int)<12)
    .refine tH (i1 _ _) λk s=> ?_
     split
     .trivial
     .split
      .trivial
      .exact(by decide:(0:Int)<10)
end
theorem Kn{ln fold l k a}(h:xP ln fold l=some (.err k a)):0<k:=by
 have:=(NH (ln:=ln) (fold:=fold) (l:=l) (deep+8)).1 0 ⟨0,0,0⟩;unfold xP at h;rw[h]at this;exact this
end
section
open Go.RowKit Go.Conc
attribute [local instance] fI
def FU:ByteArray:=⟨#[97]⟩
theorem PU:∃nd σ,gK FU 0=some (.ok nd σ):=by
 have h:(match gK FU 0 with |some (.ok _ _)=>true|_=>false)=true:=by rfl
 grind
theorem HS{s fl k a}(h:gK s fl=some (.err k a)):0<k:=by
 unfold gK at h;split at h
 .grind
 .exact Kn h
def KT(n0:Nat)(w':SJ)(fl:Nat)(r:Option (g8 Nd))(v:T3):Prop:=match r with
 |some (.ok nd σ)=>∃x nv,∃tl:FV,v= .tuple #[vp x,.bool true]/\n0<=x/\w'.heap[x]?=some (.cells (#[nv,.int .i64 σ.g,.int .u8 fl]++tl.1) 103 (0,0))/\Repr w' (λb=>n0<=b/\b≠x) nv nd
 |some (.err k a)=>v= .tuple #[.pointer none,.bool true]
 |none=>False
theorem Nl{h0 w s}{fl:Nat}(hfl:fl<256)(h1:Under h0 w)(hG:fx w)(hE:gI w):
 cb (br ek h0) 19 #[.string s,.int .u8 fl] w λe w'=>∃v,e= .returned v/\Old w w'/\KT w.heap.size w' fl (gK s fl) v:=by
 refine bu (bP (by decide)) (λw' ⟨v,h,_⟩=>nomatch h) (PH.func Tryz.func19 (by decide)) rfl ?_;simp only[Tryz.ntmps19,No,Sw,SC,SH,SG,IS,IN,OF,IT,Sz,Sx];refine ac λK hK=> ?_
 refine bm λw1 e1=> ?_
 have O1:=up e1.old;clear e1;go_wp2;refine hK.out _ _ ?_;clear hK K;refine ac λK hK=> ?_
 refine ao ?_;show aV _ _ _ (If 0 (2+8)) _ _;refine bq 0 2 8 (λN hN w2 e2=> ?_) (by decide);simp only[zq1];have O2:=up (O1.out.eqv e2);clear e2;go_wp2;refine hN.out _ _ ?_;clear hN N;have hG2:=hG.ea O2.out;have h6:Under h0 w2:=h1.ea O2.out;have h7:=hE.ea O2.out;refine bF (f:=26) (i:=2) (rest:=If 3 (7+0)) rfl rfl λu=>by simp[go_sem] (bP (by decide)) (wl (s:=s) hfl h6 hG2 h7) (λv w3 hr=> ?_) λch w3 hr=>by obtain⟨_,h,_⟩:=hr;cases h
 obtain⟨v,e,h8,hs⟩:=hr;cases e;have O3:=up (O2.out.trans h8);have h2:=up (hE.ea O3.out);have h3:=up (hG.ea O3.out);have h4:=up (h1.ea O3.out);have hsz:=up O2.out.size;clear h8 hG hG2 h6 O1 O2 hE h7 h1;cases hr:gK s fl with
 |none=>rw[hr]at hs;exact hs.elim
 |some r=>
 rw[hr]at hs;cases r with
 |ok nd σ=>
  obtain⟨x,nv,tl,rfl,hx,hxb,hrep⟩:=hs;replace hrep:=up hrep;replace hxb:=up hxb;replace hr:=up hr;clear h2 h3 h4;simp only[AS,zq0];refine bq 3 7 0 (λN hN w4 e4=> ?_) (by decide);simp only[zq1];have O4:=up (O3.out.eqv e4);replace e4:=up e4;clear O3;go_wp2;refine hN.out _ _ (az (hK.out _ _ ?_));clear hN N hK K;refine bm λw5 e5=> ?_
  have O5:=up (O4.out.eqv e5);replace e5:=up e5;clear O4;go_wp2;go_ret2
  have h53:w5.heap=w3.heap:=e5.out.heap.trans e4.out.heap;refine⟨_,rfl,O5.out,?_⟩;rw[hr.out];refine⟨x,nv,tl,rfl,SI hsz.out hx,by rw[h53];exact hxb.out,?_⟩;exact(hrep.out.mono (S':=λb=>w.heap.size<=b/\b≠x) λb hb hlt=>⟨SI hsz.out hb.1,hb.2⟩).keep λb hb hlt=>by rw[h53]
 |err k at_=>
  obtain rfl:=hs;have hk:=HS hr;have hk0:¬ k=0:=by omega
  have hkn:(k !=0)=true:=by simpa using hk0
  have hi:=up hkn;replace hr:=up hr;clear hk;simp only[AS,zq0];refine bq 3 7 0 (λN hN w4 e4=> ?_) (by decide);simp only[zq1];have O4:=up (O3.out.eqv e4);have hE4:=up (h2.out.ea e4.old);have h9:=up (h3.out.ea e4.old);have hc:=up (h4.out.ea e4.old);clear O3 e4 h2 h3 h4;go_wp2;refine hN.out _ _ (az (hK.out _ _ ?_));clear hN N hK K;refine ac λK hK=> ?_
  refine ac λK2 hK2=> ?_
  refine bm λw5 e5=> ?_
  have O5:=up (O4.out.eqv e5);have hd:=up (hE4.out.ea e5.old);have he:=up (h9.out.ea e5.old);have hf:=up (hc.out.ea e5.old);clear O4 e5 hE4 h9 hc;go_wp2;refine hK2.out _ _ ?_;clear hK2 K2;refine bG rfl ?_;refine ac λK2 hK2=> ?_
  refine ao ?_;show aV _ _ _ (If 0 (1+7)) _ _;have hg:=he.out;refine bF (f:=26) (i:=0) (rest:=If 1 (7+0)) rfl rfl λu=>by simp[go_sem];try rfl (bP (by decide)) (wl (s:=FU) (fl:=0) (by decide) hf.out hg hd.out) (λv w6 h5=> ?_) λch w6 h5=>by obtain⟨_,h,_⟩:=h5;cases h
  obtain⟨v,e,hh,hs⟩:=h5;cases e;have O6:=up (O5.out.trans hh);clear hh O5 hd he hf hg;obtain⟨nd,σ,ha⟩:=PU;rw[ha]at hs;obtain⟨x,nv,tl,rfl,_,_,_⟩:=hs;clear ha;simp only[SD,Sv,Su];simp only[AS,zq0];refine bq 1 7 0 (λN hN w7 e7=> ?_) (by decide);simp only[zq1];have O7:=up (O6.out.eqv e7);clear O6 e7;go_wp2;refine hN.out _ _ (az (hK2.out _ _ ?_));clear hN N hK2 K2;refine bm λw8 e8=> ?_
  have O8:=up (O7.out.eqv e8);clear O7 e8;go_wp2;go_ret2
  exact⟨_,rfl,O8.out,by
   rw[hr.out];first |rfl|(show Value.tuple #[Value.pointer none,Value.bool (k !=0)]=_;rw[hi.out])⟩
end
structure Sq(n G:Nat)(L:List (Int×Int)):Prop where
 len:L.length=G+1
 all:∃b j:Nat,b<=j/\j<=n/\L[0]?=some ((b:Int),(j:Int))/\∀k,1<=k->k<=G->L[k]?=some (-1,-1)\/∃x y:Nat,b<=x/\x<=y/\y<=j/\L[k]?=some ((x:Int),(y:Int))
theorem xY{M nd}{G:Nat}(hT:je nd G):∀f i,i+f<=M.s.size+1->∀{L},fj M nd G f i=some L->Sq M.s.size G L
 |0,_,_,_,h=>by cases h
 |f+1,i,hif,L,h=>by
  rw[fj]at h;split at h
  .cases ha:DR M nd G i with
   |none=>rw[ha]at h;exact xY hT f (i+1) (by omega) h
   |some l=>
    rw[ha]at h;cases h;unfold DR at ha;cases hp:df (λ_=>true) (bv M nd i) 320 with
    |none=>rw[hp]at ha;cases ha
    |some j=>
     rw[hp]at ha;cases ha;have hbit:=(j4.1 hp).2.1;have hw:=bZ M nd i (by omega) j hbit;obtain⟨hi,hh,hn⟩:=hT.w;obtain⟨h1,h2⟩:=Je (M:=M) (G:=G) hn (Int.le_refl _) (by omega) hbit;refine⟨by simp,i,j,hw.1,hw.2,by rw[Tb,T6 (by omega),Option.map_some,h1],λk hk1 hk2=> ?_⟩;grind
  .exact xY hT f (i+1) (by omega) h
section
open Go.RowKit Go.Conc
attribute [local instance] fI
def tK(s:ByteArray)(n:Nat):ByteArray:=if n<s.size then s.extract 0 n else s
theorem FJ(s n):(tK s n).size<=n:=by
 grind [ByteArray.size_extract,tK]
theorem KI(s)(n:Nat)(w):Calls PH 17 #[.string s,.int .i64 n] w λe w'=>e= .returned (.string (tK s n))/\w'=w:=by
 by_cases h:n<s.size
 .have hc:tK s n=s.extract 0 n:=if_pos h;replace hc:=up hc;go_enter PH.func Tryz.func17 (by decide),Tryz.ntmps17
  go_wp2;go_ret;exact⟨by simp[hc.out],rfl⟩
 .have hc:tK s n=s:=if_neg h;replace hc:=up hc;go_enter PH.func Tryz.func17 (by decide),Tryz.ntmps17
  go_wp2;go_ret;exact⟨by simp[hc.out],rfl⟩
theorem N7:∀n:Nat,n<256->bits .and .u8 (n:Int) 3=((n%4:Nat):Int):=by decide+kernel
theorem Kf(a):∃fl:Nat,fl<4/\bits .and .u8 (a%256) 3=fl:=by
 obtain⟨n,hn⟩:∃n:Nat,a%256=n:=⟨(a%256).toNat,by omega⟩;refine⟨n%4,by omega,?_⟩;rw[hn];exact N7 n (by omega)
theorem HP{w}{x q fl G:Nat}{nd S dn T e}(h:kh w x q fl G nd S dn T e):Calls PH 20 #[vp x] w λe' w'=>e'= .returned (.int .i64 G)/\w'=w:=by
 have c1:w.cell? ⟨x,1,none⟩=some (.int .i64 G):=h.blk.cell 1;go_enter PH.func Tryz.func20 (by decide),Tryz.ntmps20
 go_wp2;go_ret;simp
theorem vL{w g k t D a c}(h:a7 w g t (dw D))(hk:D[k]?=some (a,c)):w.cell? ⟨g,k*2,none⟩=some (.int .i64 a)/\w.cell? ⟨g,k*2+1,none⟩=some (.int .i64 c):=by
 obtain⟨hlt,he⟩:=List.getElem?_eq_some_iff.1 hk;have:=qm h hlt;rw[he]at this;omega
theorem AR{L G k}(hL:L.length=G+1)(hk:k<=G):(jV (G+2) L)[k]?=L[k]?:=by
 grind [jV]
theorem Nt{L G}(hL:L.length=G+1):(jV (G+2) L)[G+1]?=some dM:=by
 grind [jV]
theorem J2{h0 w s t c}(hc: -9223372036854775808<=c/\c<=9223372036854775807)(hj:Under h0 w)(hG:fx w)(hE:gI w):
 cb (br ek h0) 12 #[.string s,.int .i64 c,.string t] w λe w'=>e= .returned (.bool true)/\Old w w':=by
 refine bu (bP (by decide)) (λw' h=>nomatch h.1) (PH.func Tryz.func12 (by decide)) rfl ?_;simp only[Tryz.ntmps12,No,Sw,SC,SH,SG,IS,IN,OF,IT,Sz,Sx];refine ac λK hK=> ?_
 refine bm λw1 e1=> ?_
 have O1:=up e1.old;clear e1;go_wp2;refine hK.out _ _ ?_;clear hK K;refine ac λK hK=> ?_
 refine bm λw2 e2=> ?_
 have O2:=up (O1.out.eqv e2);clear e2 O1;have hcl:=KI t 60 w2;go_wp2;refine hcl.mono ?_;rintro e' w3 ⟨rfl,rfl⟩;have hv:=FJ t 60;generalize tK t 60=t' at hv ⊢;clear hcl;go_wp2;refine hK.out _ _ ?_;clear hK K;obtain⟨fl,hfl,hflb⟩:=Kf c;refine ac λK hK=> ?_
 refine ao ?_;show aV _ _ _ (If 0 (4+6)) _ _;refine bq 0 4 6 (λN hN w4 e4=> ?_) (by decide);simp only[zq1];have O4:=up (O2.out.eqv e4);clear e4 O2;go_wp2;refine hN.out _ _ ?_;clear hN N;have hk:=hG.ea O4.out;have hl:Under h0 w4:=hj.ea O4.out;have hE4:=hE.ea O4.out;refine bF (f:=19) (i:=4) (rest:=If 5 (5+0)) rfl rfl λu=>by simp[go_sem] (bP (by decide)) (Nl (s:=s) (fl:=fl) (by omega) hl hk hE4) (λv w5 hr=> ?_) λch w5 hr=>by obtain⟨_,h,_⟩:=hr;cases h
 obtain⟨v,e,hn,hs⟩:=hr;cases e;have he:=O4.out.size;have O5:=up (O4.out.trans hn);clear hn hG hk hl hE hE4 hj O4;cases hr:gK s fl with
 |none=>rw[hr]at hs;exact hs.elim
 |some r=>
 rw[hr]at hs;simp only[SD,Sv,Su];cases r with
 |err k at_=>
  obtain rfl:=hs;clear hr;simp only[AS,zq0];refine bq 5 5 0 (λN hN w6 e6=> ?_) (by decide);simp only[zq1];have O6:=up (O5.out.eqv e6);clear e6 O5;go_wp2;refine hN.out _ _ (az (hK.out _ _ ?_));clear hN N hK K;refine bm λw7 e7=> ?_
  have O7:=up (O6.out.eqv e7);clear e7 O6;go_wp2;go_ret;exact⟨rfl,O7.out⟩
 |ok nd σ=>
  obtain⟨x,nv,tl,rfl,hx,hxb,hrep⟩:=hs;have hT:=(by
   unfold gK at hr;split at hr
   .cases hr
   .exact N9 (by rw[show s.data.toList.length=s.size from by simp];omega) hr:je nd σ.g)
  obtain⟨G,hh⟩:∃G:Nat,σ.g=G:=⟨σ.g.toNat,by have:=hT.g0;omega⟩;rw[hh]at hT;obtain⟨q,h8⟩:=LV hh hxb hrep;have ha:w.heap.size<=x:=SI he hx;clear hxb hrep hr hx he hh;replace h8:=up h8;replace ha:=up ha;simp only[AS,zq0];refine bq 5 5 0 (λN hN w6 e6=> ?_) (by decide);simp only[zq1];have O6:=up (O5.out.eqv e6);have R6:=up (h8.out.kq e6.kq);clear e6 O5 h8;go_wp2;refine hN.out _ _ (az (hK.out _ _ ?_));clear hN N hK K;refine ac λK hK=> ?_
  refine bm λw7 e7=> ?_
  have O7:=up (O6.out.eqv e7);have R7:=up (R6.out.kq e7.kq);clear e7 O6 R6;go_wp2;refine hK.out _ _ ?_;clear hK K;refine ac λK hK=> ?_
  refine bm λw8 e8=> ?_
  have O8:=up (O7.out.eqv e8);have R8:=up (R7.out.kq e8.kq);clear e8 O7 R7;have ho:=HP R8.out;go_wp2;refine ho.mono ?_;rintro e' w9 ⟨rfl,rfl⟩;clear ho;go_wp2;refine hK.out _ _ ?_;clear hK K;have h9:=hT.g9;refine ac λK hK=> ?_
  refine ao ?_;show aV _ _ _ (If 0 (4+6)) _ _;refine bq 0 4 6 (λN hN w10 e10=> ?_) (by decide);simp only[zq1];have O10:=up (O8.out.eqv e10);have R10:=up (R8.out.kq e10.kq);clear e10 O8 R8;have h9n:G<=9:=by omega
  replace h9:=up h9;go_wp2;refine hN.out _ _ ?_;clear hN N;refine f9 (f:=23) (i:=4) (rest:=If 5 (5+0)) rfl rfl λu=>by simp[go_sem] (bP (by decide)) (JA (ev:=0) (s:=t') (n:=G+2) R10.out hT (by omega) (by omega) (by decide) (by omega) (by have:=h9.out;omega)) (λv w11 hr=> ?_) λch w11 hr=>by obtain⟨_,h,_⟩:=hr;cases h
  obtain⟨v,e,hf,hS⟩:=hr;cases e;have h6:=O10.out.size;have k11:Old w w11:=⟨λb hb=>(hS.2.kp.2 b (SF hb h6) λh=>by have:=x5.1 h;have:=ha.out;omega).trans (O10.out.old b hb),SI h6 hS.2.kp.1,hS.2.os.trans O10.out.os,hS.2.out.trans O10.out.out⟩;have R11:=up hS.1;have O11:=up k11;replace hf:=up hf;clear hS k11 h6 O10 R10;simp only[SD,Sv,Su];simp only[AS,zq0];refine bq 5 5 0 (λN hN w12 e12=> ?_) (by decide);simp only[zq1];have O12:=up (O11.out.eqv e12);have R12:=up (R11.out.kq e12.kq);have hf12:=up (hf.out.kq e12.kq);clear e12 O11 R11 hf;go_wp2;refine hN.out _ _ (az (hK.out _ _ ?_));clear hN N hK K;refine ac λK hK=> ?_
  refine ao ?_;show aV _ _ _ (If 0 (2+6)) _ _;refine bq 0 2 6 (λN hN w13 e13=> ?_) (by decide);simp only[zq1];have O13:=up (O12.out.eqv e13);have R13:=up (R12.out.kq e13.kq);have h7:=up (hf12.out.kq e13.kq);clear e13 O12 R12 hf12;go_wp2;refine hN.out _ _ ?_;clear hN N;refine f9 (f:=24) (i:=2) (rest:=If 3 (5+0)) rfl rfl λu=>by simp[go_sem] (bP (by decide)) (GY (ev:=0) (s:=t') R13.out hT (by omega) (by omega) (by decide)) (λv' w14 hr=> ?_) λch w14 hr=>by obtain⟨h,_⟩:=hr;cases h
  obtain⟨e,hS⟩:=hr;cases e;have h4:=O13.out.size;have k14:Old w w14:=⟨λb hb=>(hS.2.kp.2 b (SF hb h4) λh=>by have:=x5.1 h;have:=ha.out;omega).trans (O13.out.old b hb),SI h4 hS.2.kp.1,hS.2.os.trans O13.out.os,hS.2.out.trans O13.out.out⟩;have O14:=up k14;have hlt0:¬ (G:Int)<0:=by omega
  have hlt1:decide ((G:Int)<0)=false:=by simp
  simp only[SD,Sv,Su];cases hm:fj ⟨t',fl,0⟩ nd G (t'.size+1) 0 with
  |none=>
   have hf:=h7.out;rw[hm]at hf;obtain rfl:=hf;simp only[Option.isSome_none];clear hm h7 hS k14 h4 O13 R13;simp only[AS,zq0];refine bq 3 5 0 (λN hN w15 e15=> ?_) (by decide);simp only[zq1];have O15:=up (O14.out.eqv e15);clear e15 O14;go_wp2;refine hN.out _ _ (az (hK.out _ _ ?_));clear hN N hK K;refine bm λw16 e16=> ?_
   have O16:=up (O15.out.eqv e16);clear e16 O15;have hq:=tJ none 0 0;go_wp2;go_ret;exact⟨rfl,O16.out⟩
  |some L=>
   have hf:=h7.out;rw[hm]at hf;obtain⟨g,hg,rfl,hb13⟩:=hf;have hp:g≠x:=by
    rintro rfl;have h1:=hb13;have h2:=R13.out.blk;unfold a7 at h1 h2;rw[h1]at h2;simp at h2
   have h5:=hb13.kq hS.2 hb13.lt λh=>hp (x5.1 h)
   have hin:=xY hT _ _ (by show 0+(t'.size+1)<=t'.size+1;omega) hm;simp only[Option.isSome_some];clear hm h7 hS k14 h4 O13 R13 hb13 hp hg;replace h5:=up h5;simp only[AS,zq0];refine bq 3 5 0 (λN hN w15 e15=> ?_) (by decide);simp only[zq1];have O15:=up (O14.out.eqv e15);have b15:=up (h5.out.kq (e15.kq (B:=w14.heap.size) (X:=[])) h5.out.lt AI);clear e15 O14 h5;go_wp2;refine hN.out _ _ (az (hK.out _ _ ?_));clear hN N hK K;refine bm λw16 e16=> ?_
   have O16:=up (O15.out.eqv e16);have b16:=b15.out.kq (e16.kq (B:=w15.heap.size) (X:=[])) b15.out.lt AI;clear e16 O15 b15;have hq:=tJ (some ⟨g,0,none⟩) (G+2) (G+2);obtain⟨b,j,hbj,hjs,hd,hi⟩:=hin.all;have hlen:=hin.len;obtain⟨P,hP⟩:∃P:Nat,P=G+1:=⟨_,rfl⟩;have hw:(G:Int)+1=(P:Int):=by omega
   have hPlt:P<G+2:=by omega
   have hPd:decide ((P:Int)<((G+2:Nat):Int))=true:=by simp;omega
   obtain⟨c00,c01⟩:=vL b16 ((AR hlen (SM _)).trans hd);rw[SW]at c00 c01;rw[T8]at c01;obtain⟨cP0,cP1⟩:=vL b16 (Nt hlen);rw[<- hP]at cP0 cP1;have f1:decide ((b:Int)<0)=false:=by simp
   have f2:decide ((j:Int)<(b:Int))=false:=by simp;omega
   have f3:decide ((t'.size:Int)<(j:Int))=false:=by simp;omega
   have f2n:decide (j<b)=false:=by simp;omega
   have f3n:decide (t'.size<j)=false:=by simp;omega
   replace hP:=up hP;replace hi:=up hi;replace hd:=up hd;replace hlen:=up hlen;replace b16:=up b16;clear hin;go_wp2;go_quiet (fail)
   have A17:=up (⟨O16.out.eqv ⟨rfl,rfl,rfl⟩,b16.out.drewN nq⟩:Old w (w16.drewN nq)/\a7 (w16.drewN nq) g 54 (dw (jV (G+2) L)));generalize w16.drewN nq=w17 at *;clear c00 c01 cP0 cP1 O16 b16 f1 f2 f3 f2n f3n hw hPlt hPd;go_wp2;go_loopw [14] (λx14 wr=>∃k:Nat,1<=k/\k<=G+1/\x14= .int .i64 k/\Old w wr/\a7 wr g 54 (dw (jV (G+2) L))) λx14 _=>G+1- (intOf x14).toNat
   case atStart=>exact⟨1,AT _,by omega,rfl,A17.out⟩
   case round=>
    clear A17;obtain⟨k,hk1,hk2,rfl,hO,hB⟩:=hrel;by_cases ht:k<=G
    .have hd1:decide ((k:Int)<=(G:Int))=true:=by simp;omega
     have hd2:(k:Int)<=(G:Int):=by omega
     have hkd:decide ((k:Int)<((G+2:Nat):Int))=true:=by simp;omega
     have hkn:k<G+2:=by omega
     obtain⟨c00,c01⟩:=vL hB ((AR hlen.out (SM _)).trans hd.out);rw[SW]at c00 c01;rw[T8]at c01;have hpk:=AR (L:=L) (G:=G) (k:=k) hlen.out ht;replace hO:=up hO;rcases hi.out k hk1 ht with h|⟨x1,y1,h1,h2,h3,h⟩
     .obtain⟨ck0,ck1⟩:=vL hB (hpk.trans h);replace hB:=up hB;have g1:decide ((b:Int)<=-1)=false:=by simp;omega
      have g2:¬ (b:Int)<=-1:=by omega
      clear h hpk;go_wp2;go_quiet (fail)
      have A2:=up (⟨hO.out.eqv ⟨rfl,rfl,rfl⟩,hB.out.drewN nq⟩:Old w (wr.drewN nq)/\a7 (wr.drewN nq) g 54 (dw (jV (G+2) L)));generalize wr.drewN nq=w18 at *;go_wp2;go_roundw
      case rel=>exact⟨k+1,by omega,by omega,by push_cast;rfl,A2.out⟩
      case measure=>first |(simp[intOf];done)|(simp[intOf];omega)
     .obtain⟨ck0,ck1⟩:=vL hB (hpk.trans h);replace hB:=up hB;have g1:decide ((b:Int)<=(x1:Int))=true:=by simp;omega
      have g2:decide ((x1:Int)<=(y1:Int))=true:=by simp;omega
      have g3:decide ((y1:Int)<=(j:Int))=true:=by simp;omega
      have g1n:decide (b<=x1)=true:=by simp;omega
      have g2n:decide (x1<=y1)=true:=by simp;omega
      have g3n:decide (y1<=j)=true:=by simp;omega
      have g4:((x1:Int)== -1)=false:=by first |(simp;done)|(simp;omega)
      have g5:decide ((x1:Int)= -1)=false:=by first |(simp;done)|(simp;omega)
      clear h hpk;go_wp2;go_quiet (fail)
      have A2:=up (⟨hO.out.eqv ⟨rfl,rfl,rfl⟩,hB.out.drewN nq⟩:Old w (wr.drewN nq)/\a7 (wr.drewN nq) g 54 (dw (jV (G+2) L)));generalize wr.drewN nq=w18 at *;go_wp2;go_roundw
      case rel=>exact⟨k+1,by omega,by omega,by push_cast;rfl,A2.out⟩
      case measure=>first |(simp[intOf];done)|(simp[intOf];omega)
    .obtain rfl:k=G+1:=by omega
     have hd1:decide (((G+1:Nat):Int)<=(G:Int))=false:=by simp;omega
     have hd2:¬ ((G+1:Nat):Int)<=(G:Int):=by omega
     replace hO:=up hO;clear hB;go_wp2;go_ret;exact⟨rfl,hO.out⟩
end
section
open Go.ChangeShapes Go.WideShapes Go.RowKit Go.Conc
attribute [local instance] fI
theorem Ci{W:SJ}(hS:W.ShapedOpen Tryz.prog)(hL:laidMetH Tryz.prog Rows.withinRow.laid W){x0 x2:ByteArray}{x1:Int}(hx1: -9223372036854775808<=x1/\x1<=9223372036854775807){Post:T3->SJ->Prop}(hP:∀w2,Old W w2->Post (.bool true) w2):
 ∃M last o w' t',runNT Tryz.prog (M+1) (solo (G (Frame.enter Tryz.prog 12 #[.string x0,.int .i64 x1,.string x2] .normal) []) W) #[]=(.ended o w',t')/\runN Tryz.prog M (solo (G (Frame.enter Tryz.prog 12 #[.string x0,.int .i64 x1,.string x2] .normal) []) W)= .next last/\step Tryz.prog last= .ended o w'/\Conc.Good Tryz.prog Post last o w' t':=by
 obtain⟨hG,hE⟩:=K3 hS hL;exact EV hS Tryz.func12 (by kernel_rfl) rfl (by kernel_rfl) (J2 (s:=x0) (c:=x1) (t:=x2) hx1 (Cj W) (hG.strike (vh hS)) (hE.strike (vh hS _ (SM _)))) hP
theorem law_lifted(os:Os)(started:os.Started)(H:Type)(enc:TypeId×T3->H)(F:Stop.Interp):
 ReturnsInLeavingWide {calm:=true} Tryz.checked os 12 .any (λw args=>(Rows.withinSpec.pre enc Tryz.prog Tryz.f12 [] false w args/\laidMetH Tryz.prog Rows.withinRow.laid w)/\sizedMet enc Tryz.prog Tryz.f12 (SV Rows.withinSpec) false w args)
  ((SV Rows.withinSpec).postWith enc Tryz.prog Tryz.f12 F (outsideKept [.timePasses]) false true false):=by
 refine returnsInLeavingWide_of_good (C:=Tryz.checked) OT started
  (zQ (enc:=enc) (C:=Tryz.checked) (os:=os) (X:=λw _=>laidMetH Tryz.prog Rows.withinRow.laid w) (laidWorld os) #[.string ⟨#[]⟩,.int .i64 0,.string ⟨#[]⟩] 8 rfl (by kernel_rfl) (by kernel_rfl) (by kernel_rfl) (by kernel_rfl) (by kernel_rfl) (laidMetH_of_parts (laidMet_of_run3 8 (by kernel_rfl) (by kernel_rfl) (by kernel_rfl)) (by kernel_rfl))) ?_
 intro w tape i _ hS _ hok h6 hholds;obtain⟨_,_,_,fn',h7,_,_,_,_,h3⟩:=hok;have e:fn'=Tryz.f12:=Option.some.inj (h7.symm.trans Tryz.func12);subst e;obtain⟨⟨⟨ds,gs,before,hw,hc⟩,hL⟩,hz⟩:=h6;have hW:=DataW.Whole.of_heap (w':=w.forCall tape i) (by rfl) hw;have hL':laidMetH Tryz.prog Rows.withinRow.laid (w.forCall tape i):=hL.of_heap (by rfl);have h5:=hW;obtain⟨p,q,h8,h9,rfl,hfz,hnd⟩:=hW;have hA:DataW.TrodAll enc Tryz.prog (w.forCall tape i) 0 (λ_=>true) true Tryz.f12.params.toList i.args.toList ds p:=h8;rw[Tryz.params12]at hA h3;obtain⟨v0,v1,v2,d0,d1,d2,p0,p1,p2,h4,rfl,rfl,h0,h1,h2⟩:=trodAll_three hA;rw[h4]at h3 h5 ⊢;obtain⟨x0,rfl,rfl,rfl,t0⟩:=ChangeMaps.open_string Tryz.underlying9 (h3 0 9 v0 rfl rfl) h0;obtain⟨x1,rfl,rfl,rfl,t1⟩:=ChangeShapes.open_int Tryz.underlying3 (h3 1 3 v1 rfl rfl) h1;have hx1: -9223372036854775808<=x1/\x1<=9223372036854775807:=by simpa[Lit.wf,IntKind.min,IntKind.max,IntKind.signed,IntKind.bits]using t1
 obtain⟨x2,rfl,rfl,rfl,t2⟩:=ChangeMaps.open_string Tryz.underlying9 (h3 2 9 v2 rfl rfl) h2;have hV:DataW.TrodVars enc Tryz.prog (w.forCall tape i) (λ_=>true) [] gs q:=h9;obtain⟨rfl,rfl⟩:=trodVars_none hV;obtain⟨M,last,o,w',t',e1,e2,e3,e4⟩:=Ci hS hL' hx1 (x0:=x0) (x1:=x1) (x2:=x2) (Post:=λv W2=>(SV Rows.withinSpec).postWith enc Tryz.prog Tryz.f12 F (outsideKept [.timePasses]) false true false (w.forCall tape i) #[.string x0,.int .i64 x1,.string x2] v W2) λw2 hO=>by
  refine postWith_of_post ⟨_,_,_,[],[],[],h5,?_,?_,?_,⟨rfl,hO.out,λk hk=> ?_⟩,λh=>by cases h⟩ (by rw[hO.os];exact⟨0,by simp⟩)
  .exact trodAll_mk1 (shut_bool Tryz.underlying4 true)
  .exact trodAll_mk3 (ChangeMaps.shut_string Tryz.underlying9 t0) (ChangeShapes.shut_int Tryz.underlying3 t1) (ChangeMaps.shut_string Tryz.underlying9 t2)
  .rfl
  .dsimp only;rw[hO.old k hk];split <;>simp_all
 exact⟨M,last,o,w',t',e1,e2,e3,e4.mono λv hp=>postWith_blind hp⟩
theorem Ek:Rows.WithinSaid:=
 OpenClaim.holds_of_wide_leaving_time 12 Tryz.f12 rfl rfl rfl rfl rfl rfl rfl ⟨rfl,rfl,rfl,rfl,rfl⟩ rfl rfl rfl rfl rfl (by kernel_rfl) Tryz.func12 (by kernel_rfl)
  (of_decide_eq_true (by kernel_rfl)) (by unfold Func.isWrapper;rw[if_neg (of_decide_eq_false (by kernel_rfl))];exact⟨rfl,rfl⟩)
  (λos started H enc _ F=>law_lifted os started H enc F)
theorem zR:∀f fn,Tryz.pinned.checked.prog.funcNamed Rows.withinRow.func=some f->Tryz.pinned.checked.prog.funcs[f]?=some fn->true=Tryz.pinned.checked.prog.looks []/\∀(j:Nat) t,fn.params[j]?=some t->Tryz.pinned.checked.prog.wantsStandIn t=false:=λf fn hf hfn=>by
 obtain rfl:f=12:=Option.some.inj ((show Tryz.prog.funcNamed Rows.withinRow.func=some 12 by kernel_rfl).symm.trans hf)|>.symm
 obtain rfl:fn=Tryz.f12:=(Option.some.inj (Tryz.func12.symm.trans hfn)).symm;refine⟨by kernel_rfl,λj t ht=> ?_⟩;rw[Tryz.params12]at ht;match j,ht with
 |0,ht=>
  obtain rfl:9=t:=by simpa using ht
  exact(show Tryz.prog.wantsStandIn 9=false by kernel_rfl)
 |1,ht=>
  obtain rfl:3=t:=by simpa using ht
  exact(show Tryz.prog.wantsStandIn 3=false by kernel_rfl)
 |2,ht=>
  obtain rfl:9=t:=by simpa using ht
  exact(show Tryz.prog.wantsStandIn 9=false by kernel_rfl)
 |j+3,ht=>simp at ht
theorem within_holds:Rows.WithinCardSaid:=
 ⟨Claim7.tied_new_at .later [.handle,.data] true (Claim7.new_of_sixth Ek Rows.withinCard.stood.harness true rfl ⟨rfl,rfl⟩ (by kernel_rfl) (by kernel_rfl) zR) (by kernel_rfl),λD hD=>(by cases hD),within_row_tie,λh=>(by cases h),by kernel_rfl⟩
end
end Go.Proofs.YtkgohmcmmcpigaaGreatDoor
