/- Known holds of every number; no condition. -/
import Derived.Carry
import Derived.Laws.CopyRow
import Derived.Test.YtkgohmcmmcpigaaGreatDoorW08
set_option linter.unusedSectionVars false
set_option linter.unusedSimpArgs false
set_option linter.unusedVariables false
set_option maxHeartbeats 40000000
set_option maxRecDepth 100000
namespace Go.Proofs.YtkgohmcmmcpigaaGreatDoor
open Go
open Go.Lib renaming hid->AI
open _root_.List renaming mem_singleton->AS,not_mem_nil->Su,replicate->Sx,range'->SC,append_toArray->SF,size_toArray->SG,mem_cons->SJ,push_toArray->SK,length_cons->SL,cons_append->SM,nil_append->SN,length_nil->SO,getElem_cons_zero->SP,getElem_cons_succ->SQ,getElem_toArray->SR,getElem?_cons_zero->SV,take_succ_cons->SZ,drop_succ_cons->T0,getElem?_toArray->T6,mem_cons_of_mem->T7,getElem?_eq_getElem->Tb,getElem?_cons_succ->Te,drop_eq_nil_of_le->Tg,mem_cons_self->Tl,length_take->Tq,append_nil->Tt
open Go.Act renaming put->Sv
open _root_.Nat renaming le_refl->Sw,lt_of_lt_of_le->SI,reduceSub->SS,reduceAdd->SU,le_trans->SW,zero_le->T8,min->Th,lt_irrefl->Ti,lt_succ_self->Tp
open _root_.Or renaming inl->Sy,inr->SY
open Go renaming World->Sz,callFunc->SH,Value->T4
open _root_.Array renaming replicate_zero->SD,replicate_succ->SE,getElem?_eq_some_iff->SX,map_append->Tr
open _root_.Option renaming map_eq_some_iff->T5
open Go.Value renaming int->T9
open Go.OpenSpec renaming ofChange->Ta
open _root_.Bool renaming and_eq_true->Tc,or_eq_true->Tf
open Go.World renaming putObj_heap_other->Td
open Go.Builtin renaming copy_->Tj
open Go.Region renaming ready->Tk,wanted->Tz
open Go.Exit renaming inBlock->Tm
open _root_.Decidable renaming em->Tn
open Go.Oper renaming semAt_some->Ts,wp->Tu
open Go.NoPanic renaming normal->Tv
open _root_.And renaming intro->Ty
section
open Go.RowKit
attribute [local go_sem] Ts
theorem FK{P ops Q md}{S R:Sz->Prop}{fuel listed a w}(i d v f args){oi}(hi:ops[i]?=some oi)(hd:oi.dst=some d)(hw:Tz oi (yielded ops a.tmps)=true)(hr:Tk md ops listed=[i])
 (hrun:(execOp a.eval oi).run P w= .ok (.enter f args) w) (hc:Calls P f args w λe w'=>e= .returned v/\R w')
 (h:∀w',R w'->S w'/\wpAnyH P md ops Q S fuel (listed.setIfInBounds i true) (a.put (some d) v) w'):wpAnyH P md ops Q S (fuel+1) listed a w:=
 wpAnyH_all hr (by simp) λj hj=>by
  obtain rfl:=AS.1 hj;simp[wpOp,hi,if_pos hw];refine .inl ?_;simp[Tu,hrun];refine Calls.mono hc ?_;grind
theorem Jt{M k l m d i j}(hs:M.s.size<=300)(hi:i<=M.s.size)(hb:(dI M k l m d i).testBit j=true)(hm:i<j\/(d:Int)<l):
 ∃c,df (λc=>(decide (i<c)||decide ((d:Int)<l))&& (dI M k l m (bS l m d) c).testBit j) (bv M k i) 320=some c:=by
 cases h:df (λc=>(decide (i<c)||decide (d<l))&& (dI M k l m (bS l m d) c).testBit j) (bv M k i) 320 with
 |some c=>exact⟨c,rfl⟩
 |none=>
  rw[oX]at h;rw[Bd hi hs,Nat.testBit_or,Tf]at hb;rcases hb with hb|hb
  .split at hb
   .rw[tN,decide_eq_true_eq]at hb;omega
   grind
  grind [pd]
theorem Gs(A n)(h:A.size=n):A=((List.range n).map λi=>A.getD i undef).toArray:=by
 subst h;refine Array.ext (by simp) λi h1 h2=> ?_
 simp_all
theorem OU(w t q m i j):
 Caps (((((w.alloc (.cells #[.pointer (some ⟨q,0,none⟩)] t)).alloc (.cells #[.pointer (some ⟨m,0,none⟩)] 174)).alloc (.cells #[.int .i64 i] 3)).alloc (.cells #[.int .i64 j] 3)).alloc (.cells #[.int .i64 0] 3)) w.heap.size (w.heap.size+1+1) (w.heap.size+1) (w.heap.size+1+1+1) t q m i j/\
 a7 (((((w.alloc (.cells #[.pointer (some ⟨q,0,none⟩)] t)).alloc (.cells #[.pointer (some ⟨m,0,none⟩)] 174)).alloc (.cells #[.int .i64 i] 3)).alloc (.cells #[.int .i64 j] 3)).alloc (.cells #[.int .i64 0] 3)) (w.heap.size+1+1+1+1) 3 #[.int .i64 (0:Nat)]/\
 Kq w.heap.size [] w (((((w.alloc (.cells #[.pointer (some ⟨q,0,none⟩)] t)).alloc (.cells #[.pointer (some ⟨m,0,none⟩)] 174)).alloc (.cells #[.int .i64 i] 3)).alloc (.cells #[.int .i64 j] 3)).alloc (.cells #[.int .i64 0] 3)):=by
 obtain⟨hc,hk⟩:=Ll w t q m i j;have nw:∀(W:Sz)(t c)(n:Nat),W.heap.size=n->a7 (W.alloc (.cells c t)) n t c:=λW t c n h=>h▸a7.new W t c
 exact⟨hc.kq ((Kq.refl _).alloc (Sw _) _) λg hg=>⟨hc.lt g hg,Su⟩,nw _ _ _ _ (by simp),hk.alloc (Sw _) _⟩
theorem CU{E}(hE:fu E){g G}(hG:lL E g G){id l m k}(hk:gy E k)(hwk:WalkC E g G k)(hn:Nd.rep id k l m∈subs E.R):WalkC E g G (.rep id k l m):=by
 intro w q i j L hM hR hi hb hL hg;have hj:=(bZ E.M _ i hi j hb).2;rw[yK]at hb;rw[de];show Calls PM 242 _ _ _;have hl:=hE.rep id k l m hn;have hd:=λ(d i:Nat)(h:d<1900000)=>uo hE hk hn ((l-d).toNat+(E.M.s.size-i)+1) d i (Tp _)
 have hsz:=hE.size;obtain⟨v,hB,hSq,hRk⟩:∃v,a7 w q 288 #[.int .i64 id,v,.int .i64 l,.int .i64 m]/\E.S q/\Repr w E.S v k:=by
  cases hR with
  |rep a b c=>exact⟨_,b,a,c⟩
 obtain⟨p,rfl⟩:=ed hRk;obtain⟨hc,b8,k1⟩:=OU w 286 q E.m i j;have W0:WS E g (.rep id k l m) q w _ L i j:=⟨(WB.start hE hM hR hg).own (X:=[]) (Sw _) (λ_ h=>nomatch h) k1,hc⟩;replace W0:=AI W0;replace b8:=AI b8;replace hb:=AI hb;replace hd:=AI hd;have hB':=AI hB;have hRk':=AI hRk;have h1:=fN k ⟨p,0,none⟩;have h2:=gu k ⟨p,0,none⟩;have h3:=i9 k;have h4:=jD k ⟨p,0,none⟩;have h5:=kC k ⟨p,0,none⟩;have h6:=walk_call k;refine callsIn_wide (n:=4).1 (callsIn_of_wp_marks (PM.func Tryz.func242 (by decide)) rfl trivial ?_ rfl);simp only[Tryz.ntmps242,SG,SL,SO,SU,SS,SE,SD,SK,SF,SN,SM];refine wpIn_wide.2 ?_;go_wp2;generalize World.alloc _ _=W1 at W0 b8 ⊢;refine wp_loop_ghost_k (λn a W=>∃(d i' D:Nat)(L':Sp),(l-d).toNat+(E.M.s.size-i')<n/\d+n<=1500000/\(a.tmps.size=65/\a.tmps.getD 0 undef= .pointer (some ⟨q,0,none⟩)/\a.tmps.getD 1 undef= .pointer (some ⟨E.m,0,none⟩)/\a.tmps.getD 2 undef= .int .i64 i/\a.tmps.getD 3 undef= .int .i64 j/\a.tmps.getD 4 undef= .pointer (some ⟨w.heap.size,0,none⟩)/\a.tmps.getD 5 undef= .pointer (some ⟨w.heap.size+1,0,none⟩)/\a.tmps.getD 6 undef= .pointer (some ⟨w.heap.size+1+1,0,none⟩)/\a.tmps.getD 7 undef= .pointer (some ⟨w.heap.size+1+1+1,0,none⟩)/\a.tmps.getD 8 undef= .pointer (some ⟨D,0,none⟩))/\WS E g (.rep id k l m) q w W L' i' j/\w.heap.size+1+1+1<D/\a7 W D 3 #[.int .i64 d]/\Marks w.heap.size a.defers W/\(dI E.M k l m d i').testBit j=true/\i'<=E.M.s.size/\L'.length=G+1/\dH (jJ E.M k l m (de E.M k) j n d i') L'=dH (jJ E.M k l m (de E.M k) j (l.toNat+400) 0 i) L) (l.toNat+400) ?_ ?_
 .exact⟨0,i,_,L,by simp;omega,by omega,⟨rfl,rfl,rfl,rfl,rfl,rfl,rfl,rfl,rfl,rfl⟩,W0.out,by omega,b8.out,trivial,hb.out,hi,hL,rfl⟩
 rintro n ⟨tm,ds⟩ W ⟨d,i',D,L',hlt,hdn,⟨hy,t0,t1,t2,t3,t4,t5,t6,t7,t8⟩,ha,hD,hm,g0,hf,hi',hL',hfin⟩ J K hJ hK;obtain⟨X,hX⟩:∃X:Nat->T4,(λi=>tm.getD i undef)=X:=⟨_,rfl⟩;have g1:∀i,tm.getD i undef=X i:=λi=>congrFun hX i
 have htm:tm=#[X 0,X 1,X 2,X 3,X 4,X 5,X 6,X 7,X 8,X 9,X 10,X 11,X 12,X 13,X 14,X 15,X 16,X 17,X 18,X 19,X 20,X 21,X 22,X 23,X 24,X 25,X 26,X 27,X 28,X 29,X 30,X 31,X 32,X 33,X 34,X 35,X 36,X 37,X 38,X 39,X 40,X 41,X 42,X 43,X 44,X 45,X 46,X 47,X 48,X 49,X 50,X 51,X 52,X 53,X 54,X 55,X 56,X 57,X 58,X 59,X 60,X 61,X 62,X 63,X 64]:=by
  have:=Gs tm 65 hy;rw[hX]at this;exact this
 rw[g1]at t0 t1 t2 t3 t4 t5 t6 t7 t8;rw[t0,t1,t2,t3,t4,t5,t6,t7,t8]at htm;rw[htm];obtain⟨f,rfl⟩:∃f,n=f+1:=⟨n-1,by omega⟩;have hWS0:=AI ha;have hMk0:=AI g0;have hB0:=AI hm;have hDlt:=hm.lt;have v2:=ha.caps.b2.cell 0;have v4:=ha.caps.b4.cell 0;have v1:=ha.caps.b1.cell 0;have v3:=ha.caps.b3.cell 0;have v8:=hm.cell 0;have ho:=(ha.wb.old hE hG q hSq).trans hB'.out;have v9:W.cell? ⟨q,2,none⟩=some (.int .i64 l):=a7.cell ho 2;have v7:W.cell? ⟨q,1,none⟩=some (.iface (bn k) (.pointer (some ⟨p,0,none⟩))):=a7.cell ho 1;replace hfin:=AI hfin;replace hf:=AI hf;replace hlt:=AI hlt;by_cases hgo:i'<j\/(d:Int)<l
 .obtain⟨cc,hcc⟩:=Jt hE.size hi' hf.out hgo;have hff:=hfin.out;rw[jJ,if_pos hgo,hcc,yG]at hff;obtain⟨qf,h8⟩:∃qf:Nat->Bool,(λc=>(decide (i'<c)||decide ((d:Int)<l))&& (dI E.M k l m (bS l m d) c).testBit j)=qf:=⟨_,rfl⟩;rw[h8]at hcc;replace h8:=AI h8;replace hff:=AI hff;replace hcc:=AI hcc;rcases(Tn (i'<j)).imp AI AI with hij|hij
  case' inl=>
   have e1:decide (i'<j)=true:=decide_eq_true hij.out
  case' inr=>
   have e1:decide (i'<j)=false:=decide_eq_false hij.out;have e2:decide ((d:Int)<l)=true:=decide_eq_true (hgo.resolve_left hij.out)
  all_goals
   replace hgo:=AI hgo;go_wp2;go_quiet (fail)
   have kd:Kq W.heap.size [] W (W.drewN nq):=(Kq.refl W).drewN nq;have hW3:=(hWS0.out.boxes (w.heap.size+1+1+1) (by simp)).1;have S1:=hWS0.out.own (X:=[]) hW3 (λ_ h=>nomatch h) kd;have M1:=hMk0.out.stay hMk0.out (X:=[]) (λ_ h=>nomatch h) kd;have B1:a7 (W.drewN nq) D 3 #[.int .i64 d]:=hB0.out;replace v1:=(show(W.drewN nq).cell? _=_ from v1);replace v2:=(show(W.drewN nq).cell? _=_ from v2);replace v3:=(show(W.drewN nq).cell? _=_ from v3);replace v7:=(show(W.drewN nq).cell? _=_ from v7);have hDlt1:D<(W.drewN nq).heap.size:=hDlt;have z3:w.heap.size+1+1+1<(W.drewN nq).heap.size:=hW3;generalize W.drewN nq=W1 at *;have kd:Kq W1.heap.size [] W1 W1.drew:=(Kq.refl W1).drew;replace S1:=S1.own (X:=[]) z3 (λ_ h=>nomatch h) kd;replace M1:=M1.stay M1 (X:=[]) (λ_ h=>nomatch h) kd;replace B1:a7 W1.drew D 3 #[.int .i64 d]:=B1;have hRk1:=hRk'.out.keep (w':=W1.drew) λb hb _=>S1.wb.old hE hG b hb
   have hC:=AI (hk W1.drew p i' S1.wb.mem hRk1 hi');replace S1:=AI S1;replace M1:=AI M1;replace B1:=AI B1;replace hRk1:=AI hRk1;go_wp2;go_still_tail 6,(by kernel_rfl)
   change wpList _ _ _ _ _ W1.drew;go_wp2;refine hC.out.mono ?_;rintro e w2 ⟨rfl,g2,k2⟩;have S2:=AI (S1.out.asked hE hG g2 k2);have hr:=S1.out.wb.new.2.1;have B2:=AI (B1.out.kq k2 B1.out.lt λhx=>by have:=AS.1 hx;omega);have M2:=AI (M1.out.stay M1.out (λx hx=>by rw[AS.1 hx];exact S1.out.wb.mem.fC) k2);have hDl2:=B2.out.lt;try clear e2
   go_wp2;have hw:=AI (bZ E.M k i' hi');obtain⟨P,hP⟩:∃P,bv E.M k i'=P:=⟨_,rfl⟩;rw[hP]at hw;have h9:=hcc.out;rw[hP]at h9;replace h9:=AI h9;replace hP:=AI hP;rw[hP.out];have hp:=AI (j4.1 h9.out);refine wpIn_wide (n:=4).1 (qe (X:=[E.r,g,w.heap.size+1+1]) (t:=32) (p:=P) (by decide) rfl ?_
    (λc W'=>df qf P c=some cc/\WS E g (.rep id k l m) q w W' L' i' j/\a7 W' D 3 #[.int .i64 d]/\Marks w.heap.size ds W')
    (λx c W'=>x= .exit 2/\c=cc/\WS E g (.rep id k l m) q w W' (dH (de E.M k i' cc) L') cc j/\a7 W' D 3 #[.int .i64 d]/\Marks w.heap.size ds W') ?_ ?_ ?_ ?_ ?_ ?_ ?_ ?_ ?_)
   case refine_7=>
    intro ll c W' K hK;gi_wp2
    exact hK
   case refine_1=>
    intro x hx;have h1:=S2.out.wb.new;have h2:=S2.out.wb.kq.kp.1;simp only[SJ,Su,or_false]at hx;omega
   case refine_2=>
    rintro c W' W'' ⟨h1,h2,h3,h5⟩ hk';exact⟨h1,h2.own (X:=[]) (by omega) (λ_ h=>nomatch h) hk',h3.kq hk' (by omega) Su,h5.stay M2.out (X:=[]) (λ_ h=>nomatch h) hk'⟩
   case refine_3=>
    rintro x c W' W'' ⟨h1,h2,h3,h4,h5⟩ hk';exact⟨h1,h2,h3.own (X:=[]) (by omega) (λ_ h=>nomatch h) hk',h4.kq hk' (by omega) Su,h5.stay M2.out (X:=[]) (λ_ h=>nomatch h) hk'⟩
   case refine_4=>
    rintro c W' ⟨h1,h2⟩ hb;rw[df,if_neg (by rw[hb];simp)]at h1;exact⟨h1,h2⟩
   case refine_5=>exact⟨h9.out,S2.out,B2.out,M2.out⟩
   case refine_9=>
    rintro W' ⟨h1,_⟩ _;cases h1
   case refine_10=>
    rintro _ c W' hk1 hb ⟨rfl,rfl,h3,hs,h4⟩ ht;have hcs:=(hw.out c hb);have hstep:i'<c\/(d:Int)<l:=by
     have:=hp.out.2.2.1;rw[<- congrFun h8.out c,Tc,Tf,decide_eq_true_eq,decide_eq_true_eq]at this;exact this.1
    have h7:=hp.out.2.2.1;rw[<- congrFun h8.out c,Tc]at h7;replace h7:=AI h7.2;replace hstep:=AI hstep;have kA:Kq W'.heap.size [] W' (W'.alloc (.cells #[.int .i64 d] 3)):=(Kq.refl W').alloc (Sw _) _;have kB:Kq W'.heap.size [] W' (W'.alloc (.cells #[.int .i64 (bS l m d:Nat)] 3)):=(Kq.refl W').alloc (Sw _) _;have nB:a7 (W'.alloc (.cells #[.int .i64 d] 3)) W'.heap.size 3 #[.int .i64 d]:=a7.new W' _ _;have nB2:a7 (W'.alloc (.cells #[.int .i64 (bS l m d:Nat)] 3)) W'.heap.size 3 #[.int .i64 (bS l m d:Nat)]:=a7.new W' _ _;have g3:=hs.lt;have S3:=h3.own (X:=[]) (by omega) (λ_ h=>nomatch h) kA;have S4:=h3.own (X:=[]) (by omega) (λ_ h=>nomatch h) kB;have hz:=(S3.wb.old hE hG q hSq).trans hB'.out;have hA:=AI (o9 hz (by omega:d<2000000));have u1:=S3.caps.b1.cell 0;have u8:=nB.cell 0;have u9:=hs.cell 0;have uf:=nB.frozen;have M3:=h4.stay h4 (X:=[]) (λ_ h=>nomatch h) kB;have hh:=(kB.kp.2 _ (SX.1 ht).1 Su).trans ht;replace S4:=AI S4;replace M3:=AI M3;replace nB2:=AI nB2;replace hh:=AI hh;refine wpIn_wide.2 ?_;go_wp2;refine hA.out.mono ?_;rintro e u ⟨rfl,hu⟩;subst u;go_wp2;have hl0:=hlt.out;have hs0:=hstep.out;refine Handed.intro f (Tp f) (hJ _ _ _ ⟨bS l m d,c,W'.heap.size,dH (de E.M k i' c) L',by unfold bS;split <;>omega,by unfold bS;split <;>omega,⟨rfl,rfl,rfl,rfl,rfl,rfl,rfl,rfl,rfl,rfl⟩,S4.out,by omega,nB2.out,⟨⟨w2.heap.size,rfl,by omega,hh.out,λd' hv e=> ?_⟩,M3.out⟩,h7.out,hcs.2,by rw[oZ];exact hL',hff.out⟩);rw[e]at hv;exact Ti _ (M2.out.lt _ hv)
   case refine_8=>
    rintro ll c W' hltW hk1 hb ⟨h1,h2,h3,h5⟩;rw[df]at h1;have hcs:=hw.out c hb;have kd:Kq W'.heap.size [] W' W'.drew:=(Kq.refl _).drew;have g3:=h3.lt;have hS:WS E g (.rep id k l m) q w W'.drew L' i' j/\a7 W'.drew D 3 #[.int .i64 d]/\Marks w.heap.size ds W'.drew:=⟨h2.own (X:=[]) (by omega) (λ_ h=>nomatch h) kd,h3,h5.stay h5 (X:=[]) (λ_ h=>nomatch h) kd⟩;replace h1:=AI h1;replace kd:=AI kd;have hL3:∀{K Y Yx},¬ LetsOut (Exit.then K (Tm 3 (jY [E.r,g,w.heap.size+1+1] W' Y Yx))):=λ⟨_,_,h⟩=>h
    gi_wp2
    have hzd:W'.drew.heap.size=W'.heap.size:=rfl;have hBq6:=(hS.1.wb.old hE hG q hSq).trans hB'.out;have htri:Hid (i'<c)\/(Hid (¬ i'<c)/\Hid ((d:Int)<l))\/(Hid ¬ i'<c/\Hid ¬ (d:Int)<l):=by
     rcases Tn (i'<c)with h|h
     .exact .inl (AI h)
     .rcases Tn ((d:Int)<l)with h'|h'
      .exact .inr (.inl ⟨AI h,AI h'⟩)
      .exact .inr (.inr ⟨AI h,AI h'⟩)
    rcases htri with t1|⟨t1,t2⟩|⟨t1,t2⟩
    case' inl=>
     have e1:decide (i'<c)=true:=decide_eq_true t1.out;refine gO (S:=λu=>WS E g (.rep id k l m) q w u L' i' j/\a7 u D 3 #[.int .i64 d]/\Marks w.heap.size ds u) (by kernel_rfl) hL3 (by kernel_rfl) ?_;show wpAnyH _ _ _ _ _ 22 _ _ W'.drew;generalize W'.drew=W6 at hS kd hzd hBq6 ⊢;refine takeD 0 33 (.int .i64 c) rfl rfl (by kernel_rfl) (by kernel_rfl) (by kernel_rfl) (λ_ _ _ h=>h) (Sy ⟨by rfl,λw' hS'=> ?_⟩) hS ?_
     .skip
      go_simp
     simp only[Sv,zq0];refine takeD 1 34 (.int .i64 i') rfl rfl (by kernel_rfl) (by kernel_rfl) (by kernel_rfl) (λ_ _ _ h=>h) (Sy ⟨by rfl,λw' hS'=> ?_⟩) hS ?_
     .have h1:=hS'.1.caps.b2.cell 0;go_simp
     simp only[Sv,zq0];refine takeD 2 35 (.bool true) rfl rfl (by kernel_rfl) (by kernel_rfl) (by kernel_rfl) (λ_ _ _ h=>h) (Sy ⟨by rfl,λw' hS'=> ?_⟩) hS ?_
     .have h1:=e1;go_simp
     simp only[Sv,zq0];refine takeD 3 36 (.bool true) rfl rfl (by kernel_rfl) (by kernel_rfl) (by kernel_rfl) (λ_ _ _ h=>h) (Sy ⟨by rfl,λw' hS'=> ?_⟩) hS ?_
     .skip
      go_simp
     simp only[Sv,zq0];refine takeD 4 37 undef rfl rfl (by kernel_rfl) (by kernel_rfl) (by kernel_rfl) (λ_ _ _ h=>h) (SY ⟨by rfl,rfl⟩) hS ?_;simp only[Sv,zq0];refine takeD 5 38 undef rfl rfl (by kernel_rfl) (by kernel_rfl) (by kernel_rfl) (λ_ _ _ h=>h) (SY ⟨by rfl,rfl⟩) hS ?_;simp only[Sv,zq0];refine takeD 6 39 undef rfl rfl (by kernel_rfl) (by kernel_rfl) (by kernel_rfl) (λ_ _ _ h=>h) (SY ⟨by rfl,rfl⟩) hS ?_;simp only[Sv,zq0];refine takeD 7 40 undef rfl rfl (by kernel_rfl) (by kernel_rfl) (by kernel_rfl) (λ_ _ _ h=>h) (SY ⟨by rfl,rfl⟩) hS ?_;simp only[Sv,zq0];refine takeD 8 41 undef rfl rfl (by kernel_rfl) (by kernel_rfl) (by kernel_rfl) (λ_ _ _ h=>h) (SY ⟨by rfl,rfl⟩) hS ?_;simp only[Sv,zq0];refine takeD 9 42 undef rfl rfl (by kernel_rfl) (by kernel_rfl) (by kernel_rfl) (λ_ _ _ h=>h) (SY ⟨by rfl,rfl⟩) hS ?_;simp only[Sv,zq0]
    case' inr.inl=>
     have e1:decide (i'<c)=false:=decide_eq_false t1.out;have e2:decide ((d:Int)<l)=true:=decide_eq_true t2.out;refine gO (S:=λu=>WS E g (.rep id k l m) q w u L' i' j/\a7 u D 3 #[.int .i64 d]/\Marks w.heap.size ds u) (by kernel_rfl) hL3 (by kernel_rfl) ?_;show wpAnyH _ _ _ _ _ 22 _ _ W'.drew;generalize W'.drew=W6 at hS kd hzd hBq6 ⊢;refine takeD 0 33 (.int .i64 c) rfl rfl (by kernel_rfl) (by kernel_rfl) (by kernel_rfl) (λ_ _ _ h=>h) (Sy ⟨by rfl,λw' hS'=> ?_⟩) hS ?_
     .skip
      go_simp
     simp only[Sv,zq0];refine takeD 1 34 (.int .i64 i') rfl rfl (by kernel_rfl) (by kernel_rfl) (by kernel_rfl) (λ_ _ _ h=>h) (Sy ⟨by rfl,λw' hS'=> ?_⟩) hS ?_
     .have h1:=hS'.1.caps.b2.cell 0;go_simp
     simp only[Sv,zq0];refine takeD 2 35 (.bool false) rfl rfl (by kernel_rfl) (by kernel_rfl) (by kernel_rfl) (λ_ _ _ h=>h) (Sy ⟨by rfl,λw' hS'=> ?_⟩) hS ?_
     .have h1:=e1;go_simp
     simp only[Sv,zq0];refine takeD 3 36 (.bool false) rfl rfl (by kernel_rfl) (by kernel_rfl) (by kernel_rfl) (λ_ _ _ h=>h) (Sy ⟨by rfl,λw' hS'=> ?_⟩) hS ?_
     .skip
      go_simp
     simp only[Sv,zq0];refine takeD 4 37 (.int .i64 d) rfl rfl (by kernel_rfl) (by kernel_rfl) (by kernel_rfl) (λ_ _ _ h=>h) (Sy ⟨by rfl,λw' hS'=> ?_⟩) hS ?_
     .have h1:=hS'.2.1.cell 0;go_simp
     simp only[Sv,zq0];refine takeD 5 38 (.pointer (some ⟨q,0,none⟩)) rfl rfl (by kernel_rfl) (by kernel_rfl) (by kernel_rfl) (λ_ _ _ h=>h) (Sy ⟨by rfl,λw' hS'=> ?_⟩) hS ?_
     .have h1:=hS'.1.caps.b1.cell 0;go_simp
     simp only[Sv,zq0];refine takeD 6 39 (.pointer (some ⟨q,0,none⟩)) rfl rfl (by kernel_rfl) (by kernel_rfl) (by kernel_rfl) (λ_ _ _ h=>h) (Sy ⟨by rfl,λw' hS'=> ?_⟩) hS ?_
     .skip
      go_simp
     simp only[Sv,zq0];refine takeD 7 40 (.pointer (some ⟨q,2,none⟩)) rfl rfl (by kernel_rfl) (by kernel_rfl) (by kernel_rfl) (λ_ _ _ h=>h) (Sy ⟨by rfl,λw' hS'=> ?_⟩) hS ?_
     .skip
      go_simp
     simp only[Sv,zq0];refine takeD 8 41 (.int .i64 l) rfl rfl (by kernel_rfl) (by kernel_rfl) (by kernel_rfl) (λ_ _ _ h=>h) (Sy ⟨by rfl,λw' hS'=> ?_⟩) hS ?_
     .have h1:=a7.cell ((hS'.1.wb.old hE hG q hSq).trans hB'.out) 2;go_simp
     simp only[Sv,zq0];refine takeD 9 42 (.bool true) rfl rfl (by kernel_rfl) (by kernel_rfl) (by kernel_rfl) (λ_ _ _ h=>h) (Sy ⟨by rfl,λw' hS'=> ?_⟩) hS ?_
     .have h1:=e2;go_simp
     simp only[Sv,zq0]
    case inr.inr=>
     have e1:decide (i'<c)=false:=decide_eq_false t1.out;have e2:decide ((d:Int)<l)=false:=decide_eq_false t2.out;refine gO (S:=λu=>WS E g (.rep id k l m) q w u L' i' j/\a7 u D 3 #[.int .i64 d]/\Marks w.heap.size ds u) (by kernel_rfl) hL3 (by kernel_rfl) ?_;show wpAnyH _ _ _ _ _ 22 _ _ W'.drew;generalize W'.drew=W6 at hS kd hzd hBq6 ⊢;refine takeD 0 33 (.int .i64 c) rfl rfl (by kernel_rfl) (by kernel_rfl) (by kernel_rfl) (λ_ _ _ h=>h) (Sy ⟨by rfl,λw' hS'=> ?_⟩) hS ?_
     .skip
      go_simp
     simp only[Sv,zq0];refine takeD 1 34 (.int .i64 i') rfl rfl (by kernel_rfl) (by kernel_rfl) (by kernel_rfl) (λ_ _ _ h=>h) (Sy ⟨by rfl,λw' hS'=> ?_⟩) hS ?_
     .have h1:=hS'.1.caps.b2.cell 0;go_simp
     simp only[Sv,zq0];refine takeD 2 35 (.bool false) rfl rfl (by kernel_rfl) (by kernel_rfl) (by kernel_rfl) (λ_ _ _ h=>h) (Sy ⟨by rfl,λw' hS'=> ?_⟩) hS ?_
     .have h1:=e1;go_simp
     simp only[Sv,zq0];refine takeD 3 36 (.bool false) rfl rfl (by kernel_rfl) (by kernel_rfl) (by kernel_rfl) (λ_ _ _ h=>h) (Sy ⟨by rfl,λw' hS'=> ?_⟩) hS ?_
     .skip
      go_simp
     simp only[Sv,zq0];refine takeD 4 37 (.int .i64 d) rfl rfl (by kernel_rfl) (by kernel_rfl) (by kernel_rfl) (λ_ _ _ h=>h) (Sy ⟨by rfl,λw' hS'=> ?_⟩) hS ?_
     .have h1:=hS'.2.1.cell 0;go_simp
     simp only[Sv,zq0];refine takeD 5 38 (.pointer (some ⟨q,0,none⟩)) rfl rfl (by kernel_rfl) (by kernel_rfl) (by kernel_rfl) (λ_ _ _ h=>h) (Sy ⟨by rfl,λw' hS'=> ?_⟩) hS ?_
     .have h1:=hS'.1.caps.b1.cell 0;go_simp
     simp only[Sv,zq0];refine takeD 6 39 (.pointer (some ⟨q,0,none⟩)) rfl rfl (by kernel_rfl) (by kernel_rfl) (by kernel_rfl) (λ_ _ _ h=>h) (Sy ⟨by rfl,λw' hS'=> ?_⟩) hS ?_
     .skip
      go_simp
     simp only[Sv,zq0];refine takeD 7 40 (.pointer (some ⟨q,2,none⟩)) rfl rfl (by kernel_rfl) (by kernel_rfl) (by kernel_rfl) (λ_ _ _ h=>h) (Sy ⟨by rfl,λw' hS'=> ?_⟩) hS ?_
     .skip
      go_simp
     simp only[Sv,zq0];refine takeD 8 41 (.int .i64 l) rfl rfl (by kernel_rfl) (by kernel_rfl) (by kernel_rfl) (λ_ _ _ h=>h) (Sy ⟨by rfl,λw' hS'=> ?_⟩) hS ?_
     .have h1:=a7.cell ((hS'.1.wb.old hE hG q hSq).trans hB'.out) 2;go_simp
     simp only[Sv,zq0];refine takeD 9 42 (.bool false) rfl rfl (by kernel_rfl) (by kernel_rfl) (by kernel_rfl) (λ_ _ _ h=>h) (Sy ⟨by rfl,λw' hS'=> ?_⟩) hS ?_
     .have h1:=e2;go_simp
     simp only[Sv,zq0];refine takeD 10 43 (.bool false) rfl rfl (by kernel_rfl) (by kernel_rfl) (by kernel_rfl) (λ_ _ _ h=>h) (Sy ⟨by rfl,λw' hS'=> ?_⟩) hS ?_
     .skip
      go_simp
     simp only[Sv,zq0];refine takeD 11 44 (.bool false) rfl rfl (by kernel_rfl) (by kernel_rfl) (by kernel_rfl) (λ_ _ _ h=>h) (Sy ⟨by rfl,λw' hS'=> ?_⟩) hS ?_
     .skip
      go_simp
     simp only[Sv,zq0];refine takeD 12 45 undef rfl rfl (by kernel_rfl) (by kernel_rfl) (by kernel_rfl) (λ_ _ _ h=>h) (SY ⟨by rfl,rfl⟩) hS ?_;simp only[Sv,zq0];refine takeD 13 46 undef rfl rfl (by kernel_rfl) (by kernel_rfl) (by kernel_rfl) (λ_ _ _ h=>h) (SY ⟨by rfl,rfl⟩) hS ?_;simp only[Sv,zq0];refine takeD 14 47 undef rfl rfl (by kernel_rfl) (by kernel_rfl) (by kernel_rfl) (λ_ _ _ h=>h) (SY ⟨by rfl,rfl⟩) hS ?_;simp only[Sv,zq0];refine takeD 15 48 undef rfl rfl (by kernel_rfl) (by kernel_rfl) (by kernel_rfl) (λ_ _ _ h=>h) (SY ⟨by rfl,rfl⟩) hS ?_;simp only[Sv,zq0];refine takeD 16 49 undef rfl rfl (by kernel_rfl) (by kernel_rfl) (by kernel_rfl) (λ_ _ _ h=>h) (SY ⟨by rfl,rfl⟩) hS ?_;simp only[Sv,zq0];refine takeD 17 50 undef rfl rfl (by kernel_rfl) (by kernel_rfl) (by kernel_rfl) (λ_ _ _ h=>h) (SY ⟨by rfl,rfl⟩) hS ?_;simp only[Sv,zq0];refine takeD 18 51 undef rfl rfl (by kernel_rfl) (by kernel_rfl) (by kernel_rfl) (λ_ _ _ h=>h) (SY ⟨by rfl,rfl⟩) hS ?_;simp only[Sv,zq0];refine takeD 19 52 undef rfl rfl (by kernel_rfl) (by kernel_rfl) (by kernel_rfl) (λ_ _ _ h=>h) (SY ⟨by rfl,rfl⟩) hS ?_;simp only[Sv,zq0];refine takeD 20 53 undef rfl rfl (by kernel_rfl) (by kernel_rfl) (by kernel_rfl) (λ_ _ _ h=>h) (SY ⟨by rfl,rfl⟩) hS ?_;simp only[Sv,zq0];refine takeD 21 54 (.bool false) rfl rfl (by kernel_rfl) (by kernel_rfl) (by kernel_rfl) (λ_ _ _ h=>h) (Sy ⟨by rfl,λw' hS'=> ?_⟩) hS ?_
     .skip
      go_simp
     simp only[Sv,zq0];refine wpAnyH_done (by kernel_rfl) ?_ _;replace hS:=AI hS;have h0:qf c=false:=by rw[<- congrFun h8.out c,e1,e2];rfl
     replace h0:=AI h0;gi_wp2
     refine⟨kd.out.mono (by omega) nofun,?_,hS.out⟩;have:=h1.out;rw[if_neg (by rw[h0.out];simp)]at this;exact this
    all_goals
     refine takeD 10 43 (.bool true) rfl rfl (by kernel_rfl) (by kernel_rfl) (by kernel_rfl) (λ_ _ _ h=>h) (Sy ⟨by rfl,λw' hS'=> ?_⟩) hS ?_
     .skip
      go_simp
     simp only[Sv,zq0];refine takeD 11 44 (.bool true) rfl rfl (by kernel_rfl) (by kernel_rfl) (by kernel_rfl) (λ_ _ _ h=>h) (Sy ⟨by rfl,λw' hS'=> ?_⟩) hS ?_
     .skip
      go_simp
     simp only[Sv,zq0];refine takeD 12 45 (.pointer (some ⟨q,0,none⟩)) rfl rfl (by kernel_rfl) (by kernel_rfl) (by kernel_rfl) (λ_ _ _ h=>h) (Sy ⟨by rfl,λw' hS'=> ?_⟩) hS ?_
     .have h1:=hS'.1.caps.b1.cell 0;go_simp
     simp only[Sv,zq0];refine takeD 13 46 (.pointer (some ⟨E.m,0,none⟩)) rfl rfl (by kernel_rfl) (by kernel_rfl) (by kernel_rfl) (λ_ _ _ h=>h) (Sy ⟨by rfl,λw' hS'=> ?_⟩) hS ?_
     .have h1:=hS'.1.caps.b3.cell 0;go_simp
     simp only[Sv,zq0];refine takeD 14 47 (.pointer (some ⟨q,0,none⟩)) rfl rfl (by kernel_rfl) (by kernel_rfl) (by kernel_rfl) (λ_ _ _ h=>h) (Sy ⟨by rfl,λw' hS'=> ?_⟩) hS ?_
     .have h1:=hS'.1.caps.b1.cell 0;go_simp
     simp only[Sv,zq0];refine takeD 15 48 (.int .i64 d) rfl rfl (by kernel_rfl) (by kernel_rfl) (by kernel_rfl) (λ_ _ _ h=>h) (Sy ⟨by rfl,λw' hS'=> ?_⟩) hS ?_
     .have h1:=hS'.2.1.cell 0;go_simp
     simp only[Sv,zq0];refine takeD 17 50 (.int .i64 c) rfl rfl (by kernel_rfl) (by kernel_rfl) (by kernel_rfl) (λ_ _ _ h=>h) (Sy ⟨by rfl,λw' hS'=> ?_⟩) hS ?_
     .skip
      go_simp
     simp only[Sv,zq0];refine takeD 19 52 (.int .i64 j) rfl rfl (by kernel_rfl) (by kernel_rfl) (by kernel_rfl) (λ_ _ _ h=>h) (Sy ⟨by rfl,λw' hS'=> ?_⟩) hS ?_
     .have h1:=hS'.1.caps.b4.cell 0;go_simp
     simp only[Sv,zq0];have g4:=o9 hBq6 (by omega:d<2000000);refine FK (R:=λu=>u=W6) 16 49 _ 244 #[.pointer (some ⟨q,0,none⟩),.int .i64 d] rfl rfl (by rfl) (by kernel_rfl) (by go_simp) g4 ?_;rintro u hu;subst u;refine⟨hS,?_⟩;simp only[Sv,zq0];have hmA:bS l m d<=d+1:=by unfold bS;split <;>omega
     have hlt0:=hlt.out;have hH:=hd.out (bS l m d) c (by omega) (by omega) W6 q hS.1.wb.mem hS.1.wb.rep hcs.2;refine FK (R:=λu=>cI E u/\Kq W6.heap.size [E.r] W6 u) 18 51 _ 243 #[.pointer (some ⟨q,0,none⟩),.pointer (some ⟨E.m,0,none⟩),.int .i64 (bS l m d:Nat),.int .i64 c] rfl rfl (by rfl) (by kernel_rfl) (by go_simp) hH ?_;rintro W7 ⟨g9,k7⟩;have hr6:=hS.1.wb.new.2.1;have S7:WS E g (.rep id k l m) q w W7 L' i' j/\a7 W7 D 3 #[.int .i64 d]/\Marks w.heap.size ds W7:=⟨hS.1.asked hE hG g9 k7,hS.2.1.kq k7 hS.2.1.lt λhx=>by have:=AS.1 hx;omega,hS.2.2.stay hS.2.2 (λx hx=>by rw[AS.1 hx];exact hS.1.wb.mem.fC) k7⟩;refine⟨S7,?_⟩;simp only[Sv,zq0];have gb:=oV j (dI E.M k l m (bS l m d) c) W7 (by omega);refine FK (R:=λu=>Kq W7.heap.size [] W7 u) 20 53 _ 131 #[ep (dI E.M k l m (bS l m d) c),.int .i64 j] rfl rfl (by rfl) (by kernel_rfl) (by go_simp) gb ?_;rintro W8 k8;have z7:=S7.2.1.lt;have S8:WS E g (.rep id k l m) q w W8 L' i' j/\a7 W8 D 3 #[.int .i64 d]/\Marks w.heap.size ds W8:=⟨S7.1.own (X:=[]) (by omega) (λ_ h=>nomatch h) k8,S7.2.1.kq k8 S7.2.1.lt Su,S7.2.2.stay S7.2.2 (X:=[]) (λ_ h=>nomatch h) k8⟩;refine⟨S8,?_⟩;simp only[Sv,zq0];have hS2:=hS;have hS:=S8;refine takeD 21 54 (.bool ((dI E.M k l m (bS l m d) c).testBit j)) rfl rfl (by kernel_rfl) (by kernel_rfl) (by kernel_rfl) (λ_ _ _ h=>h) (Sy ⟨by rfl,λw' hS'=> ?_⟩) hS ?_
     .skip
      go_simp
     simp only[Sv,zq0];refine wpAnyH_done (by kernel_rfl) ?_ _;have kall:Hid (Kq W'.heap.size [E.r] W' W8):=AI (((kd.out.mono (Sw _) nofun).trans (k7.mono kd.out.kp.1 λ_ h _=>h)).trans (k8.mono (SW kd.out.kp.1 k7.kp.1) nofun));have h0:qf c=(dI E.M k l m (bS l m d) c).testBit j:=by
      rw[<- congrFun h8.out c];first
       |(rw[e1];simp;done)
       |(rw[e1,e2];simp)
     replace hS:=AI hS;replace h0:=AI h0;replace e1:=AI e1;by_cases hq:(dI E.M k l m (bS l m d) c).testBit j=true
     .have gf:c=cc:=by
       have:=h1.out;rw[if_pos (by rw[hb,h0.out,hq];rfl)]at this;exact Option.some.inj this
      subst gf;rw[hq];replace hq:=AI hq;have z8:w.heap.size+1+1+1<W8.heap.size:=(hS.out.1.boxes (w.heap.size+1+1+1) (by simp)).1;have hRk8:=hRk'.out.keep (w':=W8.drew) λb hb _=>hS.out.1.wb.old hE hG b hb
      have k9d:Kq W8.heap.size [] W8 W8.drew:=(Kq.refl W8).drew;have S9:=hS.out.1.own (X:=[]) z8 (λ_ h=>nomatch h) k9d;have M9:=hS.out.2.2.stay hS.out.2.2 (X:=[]) (λ_ h=>nomatch h) k9d;have B9:Hid (a7 W8.drew D 3 #[.int .i64 d]):=AI hS.out.2.1;have hCw:=AI (hwk W8.drew p i' c L' S9.wb.mem hRk8 hi' (by rw[hP.out];exact hb) hL' S9.wb.sp);have hBq8:=(hS.out.1.wb.old hE hG q hSq).trans hB'.out;have u1:=hS.out.1.caps.b1.cell 0;have u2:=hS.out.1.caps.b2.cell 0;have u3:=hS.out.1.caps.b3.cell 0;have u5:W8.cell? ⟨q,1,none⟩=some (.iface (bn k) (.pointer (some ⟨p,0,none⟩))):=a7.cell hBq8 1;have hL7:∀{K Y Yx},¬ LetsOut (Exit.then K (Tm 3 (jY [E.r,g,w.heap.size+1+1] W' Y Yx))):=λ⟨_,_,h⟩=>h
      replace S9:=AI S9;replace M9:=AI M9;gi_wp2
      refine qq 7 (by kernel_rfl) hL7 (by kernel_rfl) (by kernel_rfl) ?_;simp only[SZ,List.take_zero,T0,List.drop_zero];repeat still_step
      try refine wpStill_nil ?_
      change wpList _ _ _ _ _ W8.drew;go_wp2;refine hCw.out.mono ?_;rintro e W9 ⟨rfl,gh,gr,k9⟩;have S10:=S9.out.walked hE hG gh gr k9;have gv:∀x∈[E.r,g],W8.drew.heap[x]?≠some (.deferred (some [])):=λx hx=>by
       simp only[SJ,Su,or_false]at hx;rcases hx with rfl|rfl
       .exact S9.out.wb.mem.fC
       .exact fC S9.out.wb.sp
      have M10:=M9.out.stay M9.out gv k9;have hg6:=S9.out.wb.new.2.2.1;have hr7:=S9.out.wb.new.2.1;have B10:=B9.out.kq k9 B9.out.lt λhx=>by
       simp only[SJ,Su,or_false]at hx;omega
      have u4:=S10.caps.b2.cell 0;have u6:=S10.caps.b2.frozen;have kB:Kq W9.heap.size [w.heap.size+1+1] W9 (W9.setCell ⟨w.heap.size+1+1,0,none⟩ (.int .i64 c)):=(Kq.refl W9).setCell (p:=⟨w.heap.size+1+1,0,none⟩) (λ_=>AS.2 rfl) _;have M11:=M10.stay M10 (λx hx=>by rw[AS.1 hx];exact fC S10.caps.b2) kB;have B11:=B10.kq kB B10.lt λhx=>by have:=AS.1 hx;omega
      have S11:=S10.moved c;have kfin:Kq W'.heap.size [E.r,g,w.heap.size+1+1] W' (W9.setCell ⟨w.heap.size+1+1,0,none⟩ (.int .i64 c)):=(((kall.out.mono (Sw _) λx hx _=>by rw[AS.1 hx];exact Tl).trans (k9d.mono kall.out.kp.1 nofun)).trans (k9.mono kall.out.kp.1 λx hx _=>by
       simp only[SJ,Su,or_false]at hx ⊢;exact hx.imp (λh=>h) .inl)).trans (kB.mono (SW kall.out.kp.1 k9.kp.1) λx hx _=>by rw[AS.1 hx];simp)
      replace M11:=AI M11;replace B11:=AI B11;replace S11:=AI S11;replace kfin:=AI kfin;dsimp only;first
       |go_step
       |(refine ‹∀(a:Act)(w_1:Sz),wpList PM _ _ [] a w_1->_› _ _ ?_)
      refine wpList_nil ?_;gi_wp2
      exact⟨kfin.out,rfl,S11.out,B11.out,M11.out⟩
     .have he:=Bool.eq_false_iff.2 hq;rw[he];replace he:=AI he;gi_wp2
      refine⟨kall.out.mono (Sw _) λx hx _=>by rw[AS.1 hx];exact Tl,?_,hS.out⟩;have:=h1.out;rw[if_neg (by rw[h0.out,he.out];simp)]at this;exact this
 .have hff:=hfin.out;rw[jJ,if_neg hgo]at hff;have e1:decide (i'<j)=false:=decide_eq_false λh=>hgo (.inl h)
  have e2:decide ((d:Int)<l)=false:=decide_eq_false λh=>hgo (.inr h)
  have hfin2:Hid (L'=dH (jJ E.M k l m (de E.M k) j (l.toNat+400) 0 i) L):=AI hff;replace hgo:=AI hgo;go_wp2;go_quiet (fail)
  have kd:Kq W.heap.size [] W (W.drewN nq):=(Kq.refl W).drewN nq;have M1:=AI (hMk0.out.stay hMk0.out (X:=[]) (λ_ h=>nomatch h) kd);have S1:=AI (hWS0.out.own (X:=[]) (hWS0.out.boxes (w.heap.size+1+1+1) (by simp)).1 (λ_ h=>nomatch h) kd);generalize W.drewN nq=W1 at *;go_wp2;refine ot rfl M1.out λW' hk'=> ?_
  have hB:=S1.out.wb.own (X:=[]) (Sw _) (λ_ h=>nomatch h) hk';rw[<- hfin2.out];exact⟨rfl,hB.mem,hB.sp,hB.kq⟩
end
section
open Go.RowKit
mutual
theorem walk_any{E}(hE:fu E)(hW:te E){g G}(hG:lL E g G):∀nd,(∀a∈subs nd,a∈subs E.R)->WalkC E g G nd
 | .set i a b c d,h=>CK
 | .edge i f,h=>BE
 | .seq i ks,h=>
  have h':=λa ha=>h a (by rw[subs];grind)
  CM hE hG (mp hE hW ks h') (sg hE hW hG ks h') (h _ (sub_self _))
 | .alt i ks,h=>
  have h':=λa ha=>h a (by rw[subs];grind)
  Dn hE hG (mp hE hW ks h') (sg hE hW hG ks h') (hW.alt i ks (h _ (sub_self _)))
 | .grp i k n,h=>Da hE hG (walk_any hE hW hG k λa ha=>h a (by rw[subs];grind)) (h _ (sub_self _))
 | .rep i k l m,h=>
  have h':=λa ha=>h a (by rw[subs];grind)
  CU hE hG (ox hE hW k h') (walk_any hE hW hG k h') (h _ (sub_self _))
theorem sg{E:ME}(hE:fu E)(hW:te E){g G:Nat}(hG:lL E g G):∀ks,(∀a∈gJ ks,a∈subs E.R)->∀k∈ks,WalkC E g G k
 |[],_,k,hk=>by cases hk
 |x::ks,h,k,hk=>by
  rcases SJ.1 hk with e|hk
  .have:=walk_any hE hW hG x λa ha=>h a (List.mem_append_left _ ha)
   rw[e];omega
  .exact sg hE hW hG ks (λa ha=>h a (List.mem_append_right _ ha)) k hk
end
end
section
open Go.RowKit
attribute [local go_sem] Ts
abbrev dM:Int×Int:=(-1,-1)
def G1(E:ME)(g G i:Nat)(w:Sz)(e:Ending)(w':Sz):Prop:=cI E w'/\match df (λ_=>true) (bv E.M E.R i) 320 with
 |none=>e= .returned (.slice none 0 0)/\Kq w.heap.size [E.r] w w'
 |some j=>e= .returned E.sp/\a7 w' g 54 (dw (dH (((0:Int),i,j)::de E.M E.R i j) (Sx (G+1) dM)))/\Kq w.heap.size [E.r,g] w w'
theorem CR{fn p t}(h:fn.results=#[.cell p t]){tmps a x w}(ha:tmps.getD p undef= .pointer (some ⟨a,0,none⟩))(la:(loadVar t ⟨a,0,none⟩).run PM w= .ok x w):(results fn tmps).run PM w= .ok x w:=by
 simp_all[results,asAddr]
theorem JX{t b v w}(h0:∀w,(isAgg t).run PM w= .ok false w)(hc:w.cell? ⟨b,0,none⟩=some v):(loadVar t ⟨b,0,none⟩).run PM w= .ok v w:=by
 simp[loadVar,h0,hc]
theorem pV{fn p t t' n B g tmps R v}(hr:fn.results=#[.cell p t])(hp:tmps.getD p undef= .pointer (some ⟨g,0,none⟩))(h0:∀w,(isAgg t).run PM w= .ok false w):
 ∀{ds W},a7 W g t' #[v]->Marks B ds W->(∀W',Kq B [] W W'->R (.returned v) W')->LeavesInM Fence.wide n PM fn tmps R ds .returning W
 |[],W,hg,_,hR=>⟨_,CR hr hp (JX h0 (hg.cell 0)),hR W (.refl W)⟩
 |d::ds,W,hg,⟨⟨D,h1,h2,h3,h4⟩,h⟩,hR=>by
  refine⟨by simp,.inl ⟨D,_,by rw[h1],run_takeDeferred h3,pV hr hp h0 (B:=B) ((Td (by rintro rfl;exact fC hg h3)).trans hg) (h.keep λD' hD hm h3'=> ?_) λW' hk=>hR W' (((Kq.refl W).put (λh=>absurd h (by omega)) _).trans (hk.mono (Sw _) λ_ h _=>h))⟩⟩;refine Td ?_;grind
theorem OV(w v)(m i:Nat):
 ∃W,W=(((w.alloc (.cells #[.pointer (some ⟨m,0,none⟩)] 174)).alloc (.cells #[v] 86)).alloc (.cells #[.int .i64 i] 3)).alloc (.cells #[.slice none 0 0] 48)/\a7 W w.heap.size 174 #[.pointer (some ⟨m,0,none⟩)]/\a7 W (w.heap.size+1) 86 #[v]/\a7 W (w.heap.size+1+1) 3 #[.int .i64 i]/\a7 W (w.heap.size+1+1+1) 48 #[.slice none 0 0]/\Kq w.heap.size [] w W:=by
 have st:∀(W:Sz)(o:Obj){b:Nat}{t c},a7 W b t c->a7 (W.alloc o) b t c:=λW o{b t c} h=>h.alloc o
 have nw:∀(W:Sz)(t c)(n:Nat),W.heap.size=n->a7 (W.alloc (.cells c t)) n t c:=λW t c n h=>h▸a7.new W t c
 exact⟨_,rfl,st _ _ (st _ _ (st _ _ (a7.new w _ _))),st _ _ (st _ _ (nw _ _ _ _ (by simp))),st _ _ (nw _ _ _ _ (by simp)),nw _ _ _ _ (by simp),((((Kq.refl w).alloc (Sw _) _).alloc (by simp) _).alloc (by simp) _).alloc (by simp) _⟩
theorem xM:∀{L:Sp}{n},n<L.length->(Sx n dM++L.drop n).set n dM=Sx (n+1) dM++L.drop (n+1)
 |x::L,0,_=>rfl
 |x::L,n+1,h=>by
  have:=xM (L:=L) (n:=n) (by simpa using h);grind
theorem Oo{E}(hE:fu E)(hW:te E){g G}(hG:lL E g G){w q i L}(hM:cI E w)(hR:Repr w E.S (.iface (bn E.R) (.pointer (some ⟨q,0,none⟩))) E.R)(hi:i<=E.M.s.size)(hL:L.length=G+1)(hg:a7 w g 54 (dw L)):
 Calls PM 81 #[.pointer (some ⟨E.m,0,none⟩),.iface (bn E.R) (.pointer (some ⟨q,0,none⟩)),.int .i64 i] w (G1 E g G i w):=by
 have hk:=ox hE hW E.R λa h=>h
 have hwk:=walk_any hE hW hG E.R λa h=>h
 have hsz:=hE.size;have B0:=WB.start hE hM hR hg;have h1:=fN E.R ⟨q,0,none⟩;have h2:=gu E.R ⟨q,0,none⟩;have h3:=i9 E.R;have h4:=jD E.R ⟨q,0,none⟩;have h5:=kC E.R ⟨q,0,none⟩;have h6:=walk_call E.R;obtain⟨W1,hW1,b1,b2,b3,b4,k1⟩:=OV w (.iface (bn E.R) (.pointer (some ⟨q,0,none⟩))) E.m i;have B1:=B0.own (X:=[]) (Sw _) (λ_ h=>nomatch h) k1;have hC:=hk W1 q i B1.mem B1.rep hi;have v1:=b1.cell 0;have v2:=b2.cell 0;have v3:=b3.cell 0;rw[hW1]at v1 v2 v3;replace hW1:=AI hW1;replace b1:=AI b1;replace b2:=AI b2;replace b3:=AI b3;replace b4:=AI b4;replace B1:=AI B1;replace hC:=AI hC;replace k1:=AI k1;refine callsIn_wide (n:=4).1 (callsIn_of_wp_marks (PM.func Tryz.func81 (by decide)) rfl trivial ?_ rfl);simp only[Tryz.ntmps81,SG,SL,SO,SU,SS,SE,SD,SK,SF,SN,SM];refine wpIn_wide.2 ?_;go_wp2;rw[<- hW1.out];refine hC.out.mono ?_;rintro e w2 ⟨rfl,hf,k2⟩;have B2:=AI (B1.out.asked hE hG hf k2);have hr:=B1.out.new.2.1;have hgw:=B1.out.new.2.2.1;have st2:∀{b t c},a7 W1 b t c->w.heap.size<=b->a7 w2 b t c:=λhb hlo=>hb.kq k2 hb.lt λhx=>by have:=AS.1 hx;omega
 have c1:=AI (st2 b1.out (Sw _));have c2:=AI (st2 b2.out (by omega));have c3:=AI (st2 b3.out (by omega));have c4:=AI (st2 b4.out (by omega));have hlt2:=c4.out.lt;have k02:=AI ((k1.out.mono (Sw _) nofun:Kq w.heap.size [E.r] w W1).trans (k2.mono k1.out.kp.1 λ_ h _=>h));go_wp2;have hw:=AI (bZ E.M E.R i hi);obtain⟨P,hP⟩:∃P,bv E.M E.R i=P:=⟨_,rfl⟩;rw[hP]at hw;rw[hP];have h8:∀(e:Ending)(w':Sz),(cI E w'/\match df (λ_=>true) P 320 with
  |none=>e= .returned (.slice none 0 0)/\Kq w.heap.size [E.r] w w'
  |some j=>e= .returned E.sp/\a7 w' g 54 (dw (dH (((0:Int),i,j)::de E.M E.R i j) (Sx (G+1) dM)))/\Kq w.heap.size [E.r,g] w w')->G1 E g G i w e w':=λe w' h=>by unfold G1;rw[hP];exact h
 replace hP:=AI hP;replace h8:=AI h8;refine wpIn_wide (n:=4).1 (qe (X:=[E.r,g,w.heap.size+1+1+1]) (t:=14) (p:=P) (by decide) rfl ?_
  (λk W'=>df (λ_=>true) P k=df (λ_=>true) P 320/\WB E g E.R q w W' L/\Kq w.heap.size [E.r] w W'/\a7 W' w.heap.size 174 #[.pointer (some ⟨E.m,0,none⟩)]/\a7 W' (w.heap.size+1) 86 #[.iface (bn E.R) (.pointer (some ⟨q,0,none⟩))]/\a7 W' (w.heap.size+1+1) 3 #[.int .i64 i]/\a7 W' (w.heap.size+1+1+1) 48 #[.slice none 0 0])
  (λc k W'=>c= .ret/\df (λ_=>true) P 320=some k/\WB E g E.R q w W' (dH (((0:Int),i,k)::de E.M E.R i k) (Sx (G+1) dM))/\a7 W' (w.heap.size+1+1+1) 48 #[E.sp]) ?_ ?_ ?_ ?_ ?_ ?_ ?_ ?_ ?_)
 case refine_7=>
  intro ll c W' K hK;gi_wp2
  exact hK
 case refine_1=>
  intro x hx;simp only[SJ,Su,or_false]at hx;omega
 case refine_2=>
  rintro c W' W'' ⟨h1,h2,h3,h4,h5,h6,h7⟩ hk';exact⟨h1,h2.own (X:=[]) (by omega) (λ_ h=>nomatch h) hk',h3.trans (hk'.mono (by omega) nofun),h4.kq hk' (by omega) Su,h5.kq hk' (by omega) Su,h6.kq hk' (by omega) Su,h7.kq hk' (by omega) Su⟩
 case refine_3=>
  rintro x c W' W'' ⟨h1,h2,h3,h4⟩ hk';exact⟨h1,h2,h3.own (X:=[]) (by omega) (λ_ h=>nomatch h) hk',h4.kq hk' (by omega) Su⟩
 case refine_4=>
  rintro c W' ⟨h1,h2⟩ hb;rw[df,if_neg (by rw[hb];simp)]at h1;exact⟨h1,h2⟩
 case refine_5=>exact⟨rfl,B2.out,k02.out,c1.out,c2.out,c3.out,c4.out⟩
 case refine_9=>
  rintro W' ⟨h1,h2,h3,h4,h5,h6,h7⟩ hD;have hn:df (λ_=>true) P 320=none:=h1.symm;have fz:=h7.frozen;have f0:=h7.cell 0;have kB:Kq W'.heap.size [w.heap.size+1+1+1] W' (W'.setCell ⟨w.heap.size+1+1+1,0,none⟩ (.slice none 0 0)):=(Kq.refl W').setCell (p:=⟨w.heap.size+1+1+1,0,none⟩) (λ_=>AS.2 rfl) _;have he:=(SX.1 hD).1;have h0:Marks w.heap.size [{target:=.collected w2.heap.size,args:=#[]}] (W'.setCell ⟨w.heap.size+1+1+1,0,none⟩ (.slice none 0 0)):=⟨⟨w2.heap.size,rfl,by omega,(kB.kp.2 _ he λhx=>by have:=AS.1 hx;omega).trans hD,by simp⟩,trivial⟩;have B3:=h2.own (X:=[w.heap.size+1+1+1]) (by have:=h2.kq.kp.1;exact this) λx hx=>by rw[AS.1 hx];omega kB
  have b3:=h7.bI 0 (.slice none 0 0);have k3:Kq w.heap.size [E.r] w (W'.setCell ⟨w.heap.size+1+1+1,0,none⟩ (.slice none 0 0)):=h3.trans (kB.mono h3.kp.1 λx hx hlt=>by have:=AS.1 hx;omega);replace h0:=AI h0;replace B3:=AI B3;replace b3:=AI b3;replace k3:=AI k3;replace hn:=AI hn;go_wp2;refine pV rfl rfl λu=>by simp[go_sem] b3.out h0.out λW'' h9=>h8.out _ _ ⟨(B3.out.own (X:=[]) (Sw _) (λ_ h=>nomatch h) h9).mem,?_⟩
  rw[hn.out];exact⟨rfl,k3.out.trans (h9.mono (Sw _) nofun)⟩
 case refine_10=>
  rintro _ k W' hk1 hb ⟨rfl,h2,h3,h4⟩ hD;have he:=(SX.1 hD).1;have h0:Marks w.heap.size [{target:=.collected w2.heap.size,args:=#[]}] W':=⟨⟨w2.heap.size,rfl,by omega,hD,by simp⟩,trivial⟩;replace h2:=AI h2;replace h3:=AI h3;replace h4:=AI h4;replace h0:=AI h0;refine wpIn_wide.2 ?_;go_wp2;refine pV rfl rfl λu=>by simp[go_sem] h4.out h0.out λW'' h9=>h8.out _ _ ?_
  have B4:=h3.out.own (X:=[]) (Sw _) (λ_ h=>nomatch h) h9;rw[h2.out];exact⟨B4.mem,rfl,B4.sp,B4.kq⟩
 case refine_8=>
  rintro ll k W' hltW hk1 hb ⟨h1,h2,h3,h4,h5,h6,h7⟩;have ha:df (λ_=>true) P 320=some k:=by
   rw[<- h1,df,if_pos (by rw[hb];rfl)]
  have hks:=hw.out k hb;have cm:W'.cell? ⟨E.m,4,none⟩=some (.slice (some ⟨g,0,none⟩) (G+1) (G+1)):=by rw[<- hG.sp];exact h2.mem.blk.cell 4
  have v1:=h4.cell 0;have hGs:=hG.small;have A0:=AI (⟨h2,h4,h5,h6,h7⟩:WB E g E.R q w W' L/\a7 W' w.heap.size 174 #[.pointer (some ⟨E.m,0,none⟩)]/\a7 W' (w.heap.size+1) 86 #[.iface (bn E.R) (.pointer (some ⟨q,0,none⟩))]/\a7 W' (w.heap.size+1+1) 3 #[.int .i64 i]/\a7 W' (w.heap.size+1+1+1) 48 #[.slice none 0 0]);replace ha:=AI ha;gi_wp2
  gi_loopw [20] (λc wr=>∃n:Nat,n<=G+1/\c= .int .i64 n/\WB E g E.R q w wr (Sx n dM++L.drop n)/\Kq W'.heap.size [g] W' wr/\a7 wr w.heap.size 174 #[.pointer (some ⟨E.m,0,none⟩)]/\a7 wr (w.heap.size+1) 86 #[.iface (bn E.R) (.pointer (some ⟨q,0,none⟩))]/\a7 wr (w.heap.size+1+1) 3 #[.int .i64 i]/\a7 wr (w.heap.size+1+1+1) 48 #[.slice none 0 0]) λc _=>G+1- (intOf c).toNat
  case atStart=>exact⟨0,T8 _,rfl,A0.out.1,.refl _,A0.out.2⟩
  case round=>
   obtain⟨n,hnG,rfl,h2,h3,h4,h5,h6,h7⟩:=hrel;have hlen:(Sx n dM++L.drop n).length=G+1:=by simp;omega
   have cm:wr.cell? ⟨E.m,4,none⟩=some (.slice (some ⟨g,0,none⟩) (G+1) (G+1)):=by rw[<- hG.sp];exact h2.mem.blk.cell 4
   have v1:=h4.cell 0;have fz:∀x,wr.frozen? ⟨g,x,none⟩=false:=h2.sp.frozen;have kR:=h2.kq.kp.1;by_cases hlt:n<G+1
   .obtain⟨s0,s1⟩:=qm h2.sp (by omega:n<(Sx n dM++L.drop n).length);have hset:=vK (n:=n) (u:=dM) h2.sp;rw[xM (by omega:n<L.length)]at hset;have kB:Kq wr.heap.size [g] wr ((wr.setCell ⟨g,n*2,none⟩ (.int .i64 (-1))).setCell ⟨g,n*2+1,none⟩ (.int .i64 (-1))):=((Kq.refl wr).setCell (p:=⟨g,n*2,none⟩) (λ_=>AS.2 rfl) _).setCell (p:=⟨g,n*2+1,none⟩) (λ_=>AS.2 rfl) _;have hc:=h2.mem.hZ hE (X:=[g]) (λx hx=>by rw[AS.1 hx];exact⟨hG.ne_m,hG.ne_r,hG.away⟩) kB;have hd:=h2.walked hE hG hc hset (kB.mono (Sw _) λx hx _=>T7 _ hx);have kn:=h3.trans (kB.mono h3.kp.1 λ_ h _=>h);have ngt:∀x,w.heap.size<=x->x∉[g]:=λx hx h=>by have:=AS.1 h;omega
    have m4:=h4.kq kB h4.lt (ngt _ (Sw _));have m5:=h5.kq kB h5.lt (ngt _ (by omega));have m6:=h6.kq kB h6.lt (ngt _ (by omega));have m7:=h7.kq kB h7.lt (ngt _ (by omega));have A2:=AI (⟨hd,kn,m4,m5,m6,m7⟩:WB E g E.R q w _ (Sx (n+1) dM++L.drop (n+1))/\Kq W'.heap.size [g] W' _/\a7 _ w.heap.size 174 #[.pointer (some ⟨E.m,0,none⟩)]/\a7 _ (w.heap.size+1) 86 #[.iface (bn E.R) (.pointer (some ⟨q,0,none⟩))]/\a7 _ (w.heap.size+1+1) 3 #[.int .i64 i]/\a7 _ (w.heap.size+1+1+1) 48 #[.slice none 0 0]);gi_wp2
    go_roundw
    case rel=>exact⟨n+1,by omega,by push_cast;rfl,A2.out⟩
    case measure=>simp[intOf];omega
   .obtain rfl:n=G+1:=by omega
    have hdr:Sx (G+1) dM++L.drop (G+1)=Sx (G+1) dM:=by rw[Tg (by omega),Tt]
    rw[hdr]at h2 hlen;obtain⟨s0,s1⟩:=qm h2.sp (by omega:0<(Sx (G+1) dM).length);have hset:=vK (n:=0) (u:=((i:Int),(k:Int))) h2.sp;rw[Nat.zero_mul,Nat.zero_add]at hset s1;rw[Nat.zero_mul]at s0;have v3:=h6.cell 0;have v5:=h5.cell 0;have kB:Kq wr.heap.size [g] wr ((wr.setCell ⟨g,0,none⟩ (.int .i64 i)).setCell ⟨g,1,none⟩ (.int .i64 k)):=((Kq.refl wr).setCell (p:=⟨g,0,none⟩) (λ_=>AS.2 rfl) _).setCell (p:=⟨g,1,none⟩) (λ_=>AS.2 rfl) _;have ngt:∀x,w.heap.size<=x->x∉[g]:=λx hx h=>by have:=AS.1 h;omega
    have hc:=h2.mem.hZ hE (X:=[g]) (λx hx=>by rw[AS.1 hx];exact⟨hG.ne_m,hG.ne_r,hG.away⟩) kB;have hd:=h2.walked hE hG hc hset (kB.mono (Sw _) λx hx _=>T7 _ hx);have m4:=h4.kq kB h4.lt (ngt _ (Sw _));have m5:=h5.kq kB h5.lt (ngt _ (by omega));have m6:=h6.kq kB h6.lt (ngt _ (by omega));have m7:=h7.kq kB h7.lt (ngt _ (by omega));have kn:=h3.trans (kB.mono h3.kp.1 λ_ h _=>h);have y1:=m4.cell 0;have y2:=m5.cell 0;have y3:=m6.cell 0;have A2:=AI (⟨hd,kn,m4,m5,m6,m7⟩:WB E g E.R q w _ ((Sx (G+1) dM).set 0 ((i:Int),(k:Int)))/\Kq W'.heap.size [g] W' _/\a7 _ w.heap.size 174 #[.pointer (some ⟨E.m,0,none⟩)]/\a7 _ (w.heap.size+1) 86 #[.iface (bn E.R) (.pointer (some ⟨q,0,none⟩))]/\a7 _ (w.heap.size+1+1) 3 #[.int .i64 i]/\a7 _ (w.heap.size+1+1+1) 48 #[.slice none 0 0]);have hL7:∀{K Y Yx},¬ LetsOut (Exit.then K (Tm 1 (jY [E.r,g,w.heap.size+1+1+1] W' Y Yx))):=λ⟨_,_,h⟩=>h
    gi_wp2
    refine qq 7 (by kernel_rfl) hL7 (by kernel_rfl) (by kernel_rfl) ?_;simp only[SZ,List.take_zero,T0,List.drop_zero];repeat still_step
    try refine wpStill_nil ?_
    change wpList _ _ _ _ _ wr.drew;go_wp2;obtain⟨a1,a2,a3,a4,a5,a6⟩:=A2.out;have kR:=a1.kq.kp.1;have kd:Kq ((wr.setCell ⟨g,0,none⟩ (.int .i64 i)).setCell ⟨g,1,none⟩ (.int .i64 k)).heap.size [] ((wr.setCell ⟨g,0,none⟩ (.int .i64 i)).setCell ⟨g,1,none⟩ (.int .i64 k)) ((wr.setCell ⟨g,0,none⟩ (.int .i64 i)).setCell ⟨g,1,none⟩ (.int .i64 k)).drew:=(Kq.refl _).drew;have e1:=a1.own (X:=[]) kR (λ_ h=>nomatch h) kd;have e2:=a2.trans (kd.mono a2.kp.1 nofun);have e3:=a3.kq kd a3.lt Su;have e4:=a4.kq kd a4.lt Su;have e5:=a5.kq kd a5.lt Su;have e6:=a6.kq kd a6.lt Su;generalize World.drew _=W8 at *;have y1:=e3.cell 0;have y2:=e4.cell 0;have y3:=e5.cell 0;have hCw:=AI (hwk W8 q i k _ e1.mem e1.rep hi (by rw[hP.out];exact hb) (by rw[List.length_set];simp) e1.sp);have A3:=AI (⟨e1,e2,e3,e4,e5,e6⟩:WB E g E.R q w W8 ((Sx (G+1) dM).set 0 ((i:Int),(k:Int)))/\Kq W'.heap.size [g] W' W8/\a7 W8 w.heap.size 174 #[.pointer (some ⟨E.m,0,none⟩)]/\a7 W8 (w.heap.size+1) 86 #[.iface (bn E.R) (.pointer (some ⟨q,0,none⟩))]/\a7 W8 (w.heap.size+1+1) 3 #[.int .i64 i]/\a7 W8 (w.heap.size+1+1+1) 48 #[.slice none 0 0]);gi_wp2
    refine⟨trivial,(CallsIn.inRound ll (callsIn_wide.2 hCw.out)).mono ?_⟩;rintro e W9 ⟨rfl,hh,hj,k9⟩;obtain⟨a1,a2,a3,a4,a5,a6⟩:=A3.out;have e1:=a1.walked hE hG hh hj k9;have kR:=a1.kq.kp.1;have nin:∀x,w.heap.size<=x->x∉[E.r,g]:=λx hx h=>by
     simp only[SJ,Su,or_false]at h;omega
    have e3:=a3.kq k9 a3.lt (nin _ (Sw _));have e6:=a6.kq k9 a6.lt (nin _ (by omega));have cm:W9.cell? ⟨E.m,4,none⟩=some (.slice (some ⟨g,0,none⟩) (G+1) (G+1)):=by rw[<- hG.sp];exact e1.mem.blk.cell 4
    have z1:=e3.cell 0;have z6:=e6.cell 0;have zf:=e6.frozen;have kB:Kq W9.heap.size [w.heap.size+1+1+1] W9 (W9.setCell ⟨w.heap.size+1+1+1,0,none⟩ (.slice (some ⟨g,0,none⟩) (G+1) (G+1))):=(Kq.refl W9).setCell (p:=⟨w.heap.size+1+1+1,0,none⟩) (λ_=>AS.2 rfl) _;have f1:=e1.own (X:=[w.heap.size+1+1+1]) e1.kq.kp.1 λx hx=>by rw[AS.1 hx];omega kB
    have f6:a7 (W9.setCell ⟨w.heap.size+1+1+1,0,none⟩ (.slice (some ⟨g,0,none⟩) (G+1) (G+1))) (w.heap.size+1+1+1) 48 #[E.sp]:=by
     rw[hG.sp];exact e6.bI 0 (.slice (some ⟨g,0,none⟩) (G+1) (G+1))
    have kfin:Kq W'.heap.size [E.r,g,w.heap.size+1+1+1] W' (W9.setCell ⟨w.heap.size+1+1+1,0,none⟩ (.slice (some ⟨g,0,none⟩) (G+1) (G+1))):=((a2.mono (Sw _) λx hx _=>by rw[AS.1 hx];simp).trans (k9.mono a2.kp.1 λx hx _=>by
     simp only[SJ,Su,or_false]at hx ⊢;exact hx.imp (λh=>h) .inl)).trans (kB.mono (SW a2.kp.1 k9.kp.1) λx hx _=>by rw[AS.1 hx];simp)
    replace f1:=AI f1;replace f6:=AI f6;replace kfin:=AI kfin;gi_wp2
    exact⟨kfin.out,rfl,ha.out,f1.out,f6.out⟩
end
section
open Go.RowKit
theorem Ei:words co=#[.int .u64 0,.int .u64 0,.int .u64 0,.int .u64 0]:=by simp[words,qd]
theorem Ay{fn p q}(h:fn.results=#[.cell p 101,.tmp q]){tmps b cs w v}(hp:tmps.getD p undef= .pointer (some ⟨b,0,none⟩))(hr:a7 w b 101 cs)(hs:cs.size=4)(hq:tmps.getD q undef=v):
 (results fn tmps).run PM w= .ok (.tuple #[.agg cs,v]) w:=by
 have hu:∃n e,PM.underlying 101=some (.array n e):=⟨_,_,(congrFun (aK ..) _).trans Tryz.underlying101⟩;have hi:(PM.info? 101).map (·.size)=some 4:=by kernel_rfl
 obtain⟨n,e,hu⟩:=hu;have:=run_loadVar_row (P:=PM) w b 101 101 cs _ _ hr hu rfl (by rw[hi,hs]);simp_all[results,asAddr]
theorem J3{w g t T V}(h:a7 w g t (words T)):
 a7 ((((w.setCell ⟨g,0,none⟩ (.int .u64 (wz V 0))).setCell ⟨g,1,none⟩ (.int .u64 (wz V 1))).setCell ⟨g,2,none⟩ (.int .u64 (wz V 2))).setCell ⟨g,3,none⟩ (.int .u64 (wz V 3))) g t (words V):=by
 have:=(((h.bI 0 (.int .u64 (wz V 0))).bI 1 (.int .u64 (wz V 1))).bI 2 (.int .u64 (wz V 2))).bI 3 (.int .u64 (wz V 3));simp_all[words]
theorem IR{S nd}(hC:fh S nd){w q}(hR:Repr w S (.iface (bn nd) (.pointer (some ⟨q,0,none⟩))) nd)(hS:∀b,S b->b<w.heap.size):
 Calls PM 78 #[.iface (bn nd) (.pointer (some ⟨q,0,none⟩))] w λe w'=>e= .returned (.tuple #[kL (du co (bj nd).1),.bool (bj nd).2])/\Kq w.heap.size [] w w':=by
 have h1:=ja nd ⟨q,0,none⟩;have h2:=jL nd ⟨q,0,none⟩;have h3:=kX nd;obtain⟨W1,hW1,b1,b2,k1⟩:∃W,W=(w.alloc (.cells #[.int .u64 0,.int .u64 0,.int .u64 0,.int .u64 0] 101)).alloc (.cells #[.int .u64 0,.int .u64 0,.int .u64 0,.int .u64 0] 101)/\a7 W w.heap.size 101 (words co)/\a7 W (w.heap.size+1) 101 (words co)/\Kq w.heap.size [] w W:=by
  rw[Ei];refine⟨_,rfl,(a7.new w _ _).alloc _,?_,((Kq.refl w).alloc (Sw _) _).alloc (by simp) _⟩;have:=a7.new (w.alloc (.cells #[.int .u64 0,.int .u64 0,.int .u64 0,.int .u64 0] 101)) 101 #[.int .u64 0,.int .u64 0,.int .u64 0,.int .u64 0];simpa using this
 have h0:=AI (hC W1 q (w.heap.size+1) co (hR.keep λb hb hlt=>k1.kp.2 b hlt Su) λh=>by have:=hS _ h;omega b2);replace b1:=AI b1;replace k1:=AI k1;replace hW1:=AI hW1;go_enter PM.func Tryz.func78 (by decide),Tryz.ntmps78
 go_wp2;rw[<- hW1.out];refine h0.out.mono ?_;rintro e w2 ⟨rfl,b2,k2⟩;have hlt:=k1.out.kp.1;have kk:=AI ((k1.out.mono (Sw _) nofun:Kq w.heap.size [] w W1).trans (k2.mono hlt λx hx h=>by have:=AS.1 hx;omega));have b1':=b1.out.kq k2 b1.out.lt λhx=>by have:=AS.1 hx;omega
 obtain⟨V,hV⟩:∃V,du co (bj nd).1=V:=⟨_,rfl⟩;obtain⟨x,hx⟩:∃x,(bj nd).2=x:=⟨_,rfl⟩;rw[hV]at b2;simp only[hx];replace hV:=AI hV;replace hx:=AI hx;replace b1':=AI b1';have f0:∀i,w2.frozen? ⟨w.heap.size,i,none⟩=false:=b1'.out.frozen;have r0:=eu b2 (i:=0) (by decide);have r1:=eu b2 (i:=1) (by decide);have r2:=eu b2 (i:=2) (by decide);have r3:=eu b2 (i:=3) (by decide);have s0:=eu b1'.out (i:=0) (by decide);have s1:=eu b1'.out (i:=1) (by decide);have s2:=eu b1'.out (i:=2) (by decide);have s3:=eu b1'.out (i:=3) (by decide);go_wp2;refine bodyPost_ret (Ay (p:=2) (q:=3) (v:=.bool x) rfl rfl (J3 (V:=V) b1'.out) rfl rfl) rfl ⟨by rw[hV.out,hx.out];rfl,?_⟩;have no:∀i,(⟨w.heap.size,i,none⟩:Addr).block<w.heap.size->(⟨w.heap.size,i,none⟩:Addr).block∈[]:=λi h=>absurd h (Ti _)
 exact(((kk.out.setCell (no 0) _).setCell (no 1) _).setCell (no 2) _).setCell (no 3) _
theorem uJ:(PM.info? 54).map (λi=>(i.size,i.zero,i.bytes))=some (2,some (.agg #[.int .i64 0,.int .i64 0]),16):=by kernel_rfl
theorem DO(n):madeCells #[.int .i64 0,.int .i64 0] (n*2)=dw (Sx n (0,0)):=by
 unfold madeCells dw;induction n with
 |zero=>simp[eY]
 |succ n ih=>
  rw[show(n+1)*2=n*2+1+1 from by omega,Array.range_succ,Array.range_succ,Tr,Tr,ih,List.replicate_succ'];simp[eY]
theorem MX(s)(f e G:Nat)(hG:G<1000)(w):
 Calls PM 79 #[.string s,.int .u8 f,.int .u8 e,.int .i64 G] w λx w'=>x= .returned (.pointer (some ⟨w.heap.size+2,0,none⟩))/\
  a7 w' (w.heap.size+2) 218 #[.string s,.int .u8 f,.int .u8 e,.map (some w.heap.size),.slice (some ⟨w.heap.size+1,0,none⟩) (G+1) (G+1)]/\w'.heap[w.heap.size]?=some (.map #[] 0)/\
  a7 w' (w.heap.size+1) 54 (dw (Sx (G+1) (0,0)))/\Kq w.heap.size [] w w':=by
 obtain⟨i,hi,hsz,hz,hb⟩:∃i,PM.info? 54=some i/\i.size=2/\i.zero=some (.agg #[.int .i64 0,.int .i64 0])/\i.bytes=16:=by
  have:=uJ;rw[T5]at this;obtain⟨i,h1,h2⟩:=this;simp only[Prod.mk.injEq]at h2;exact⟨i,h1,h2.1,h2.2.1,h2.2.2⟩
 have hm:=run_make (P:=PM) (w.alloc (.map #[] 0)) 48 54 i _ ((congrFun (aK ..) _).trans Tryz.underlying48) hi hz .i64 .i64 ((G:Int)+1) ((G:Int)+1) (by omega) (by omega) (by rw[hb];omega) (by omega);rw[show((G:Int)+1).toNat=G+1 from by omega,hsz,show(Value.agg #[.int .i64 0,.int .i64 0]).cells=#[.int .i64 0,.int .i64 0]from rfl,DO,show(w.alloc (.map #[] 0)).heap.size=w.heap.size+1 from by simp]at hm;have hmm:(Instr.makeMap 216 none).run PM w= .ok (.map (some w.heap.size)) (w.alloc (.map #[] 0)):=run_makeMap (P:=PM) _ w;go_enter PM.func Tryz.func79 (by decide),Tryz.ntmps79
 go_wp2;go_ret;refine⟨rfl,?_,?_,?_,(((Kq.refl w).alloc (Sw _) _).alloc (by simp) _).alloc (by simp) _⟩
 .have:=a7.new ((w.alloc (.map #[] 0)).alloc (.cells (dw (Sx (G+1) (0,0))) 54)) 218 #[.string s,.int .u8 f,.int .u8 e,.map (some w.heap.size),.slice (some ⟨w.heap.size+1,0,none⟩) (G+1) (G+1)];simpa using this
 .exact((((Kq.refl (w.alloc (.map #[] 0))).alloc (Sw _) _).alloc (by simp) _).kp.2 w.heap.size (by simp) Su).trans (by show(w.heap.push _)[w.heap.size]?=_;simp)
 .have:=(a7.new (w.alloc (.map #[] 0)) 54 (dw (Sx (G+1) (0,0)))).alloc (.cells #[.string s,.int .u8 f,.int .u8 e,.map (some w.heap.size),.slice (some ⟨w.heap.size+1,0,none⟩) (G+1) (G+1)] 218);simpa using this
def uT(s:ByteArray)(f e G:Nat)(nd:Nd)(S:Nat->Prop)(B:Nat):ME:=⟨⟨s,f,e⟩,nd,B+2,B,.slice (some ⟨B+1,0,none⟩) (G+1) (G+1),S⟩
theorem Mm{s}{f e G:Nat}{nd S B}(hs:s.size<=300)(hf:f<256)(he:e<256)(hT:je nd G)(hS:∀b,S b->b<B):fu (uT s f e G nd S B):=by
 obtain⟨hi,hh,hw⟩:=hT.w;refine⟨hs,hf,he,be.one nd hw,λa ha=> ?_,λi k l m h=> ?_,λi ks h=> ?_,λh=>absurd (hS _ h) (Ti _),λb h=>SI (hS b h) (Nat.le_add_right ..)⟩<;>first |(have:=λa ha=>by have:=be.ids nd hw a ha;omega a ha;have h1:=p9 (n:=a.id.toNat) (by omega);rwa [show a.id.toNat=a.id from by omega]at h1)|(obtain⟨_,_,_,_,hn⟩:=be.sub nd hw _ h;grind [be])|(obtain⟨lo,h',_,_,hn⟩:=be.sub nd hw _ h;simp[be]at hn;have:=bV.le ks hn.2;omega)
theorem yI{s}{f e G:Nat}{nd S B}(hT:je nd G):te (uT s f e G nd S B):=by
 obtain⟨hi,hh,hw⟩:=hT.w;refine⟨λi a b c d h=> ?_,λi ks h=> ?_⟩
 .obtain⟨_,_,_,_,hn⟩:=be.sub nd hw _ h;simp_all[be]
 .obtain⟨lo,h',_,_,hn⟩:=be.sub nd hw _ h;simp[be]at hn;have:=bV.le ks hn.2;omega
theorem Ml{s}{f e G:Nat}{nd S B}(hT:je nd G)(hS:∀b,S b->b<B):lL (uT s f e G nd S B) (B+1) G:=by
 obtain⟨hi,hh,hw⟩:=hT.w;have h9:=hT.g9;refine⟨rfl,by omega,by show B+1≠B;omega,by show B+1≠B+2;omega,λh=>by have:=hS _ h;omega,λi k n h=> ?_⟩;obtain⟨_,_,_,_,hn⟩:=be.sub nd hw _ h;simp[be]at hn;omega
theorem JQ{s}{f e G:Nat}{nd S w w' v}(hR:Repr w S v nd)(hS:∀b,S b->b<w.heap.size)
 (h1:a7 w' (w.heap.size+2) 218 #[.string s,.int .u8 f,.int .u8 e,.map (some w.heap.size),.slice (some ⟨w.heap.size+1,0,none⟩) (G+1) (G+1)]) (h2:w'.heap[w.heap.size]?=some (.map #[] 0)) (hk:Kq w.heap.size [] w w'):cI (uT s f e G nd S w.heap.size) w':=
 ⟨h1,⟨_,_,h2,λe he=>by simp at he⟩,v,hR.keep λb hb hlt=>hk.kp.2 b hlt Su⟩
theorem ci{P md ops Q S fuel listed a w}(i d v){oi}(hi:ops[i]?=some oi)(hd:oi.dst=some d)
 (hs:Region.noSelect ops=true) (hf:Region.free md ops listed i=true) (hr:(Tk md ops listed).contains i=true) (hQ:∀c a w,Q (.panic c) (a.put (some d) v) w->Q (.panic c) a w) (hy:YieldsIf P ops S oi v a) (hS:S w)
 (h:wpAnyH P md ops Q S fuel (listed.setIfInBounds i true) (a.put (some d) v) w):wpAnyH P md ops Q S (fuel+1) listed a w:=
 wpAnyH_take hi hs hf hr (by rw[hd];omega) hy hS (by rw[hd];omega)
theorem jz{P md ops Q S fuel listed a w}(i){oi}(hi:ops[i]?=some oi)(hg:oi.guard=none)(hr:Tk md ops listed=[i])
 (h:oi.wp P a w (λa' w'=>S w'/\wpAnyH P md ops Q S fuel (listed.setIfInBounds i true) a' w') Q):wpAnyH P md ops Q S (fuel+1) listed a w:=
 wpAnyH_all hr (by simp) λj hj=>by
  simp_all[Tz,wpOp]
theorem zJ{P o a w K Q}(d)(hd:o.dst=some d)(f args)(hrun:(execOp a.eval o).run P w= .ok (.enter f args) w)(v)(R:Sz->Prop)
 (hc:Calls P f args w λe w'=>e= .returned v/\R w') (h:∀w',R w'->K (a.put (some d) v) w'):o.wp P a w K Q:=by
 simp[Tu,hrun];refine hc.mono λe w'' hh=> ?_
 grind
theorem LB{P o a w K Q}(d)(hd:o.dst=some d)(v w')(hrun:(execOp a.eval o).run P w= .ok (.value v) w')(h:K (a.put (some d) v) w'):o.wp P a w K Q:=by
 simp_all[Oper.upon_value,Tu]
theorem zI{P o a w K Q}(hd:o.dst=none)(w')(hrun:(execOp a.eval o).run P w= .ok .skip w')(h:K a w'):o.wp P a w K Q:=by
 simp[Tu,hrun,Oper.upon_skip,hd];exact h
def mU(nv:T4)(g:Int)(fl:Nat)(d st:Int)(T:cS)(e:Bool):Array T4:=#[nv,.int .i64 g,.int .u8 fl,.int .u32 d,.int .i32 st,.int .u32 0,.int .u64 (wz T 0),.int .u64 (wz T 1),.int .u64 (wz T 2),.int .u64 (wz T 3),.bool e]
theorem Ia{S nd}(hC:fh S nd){w p x q fl tp g d st T e}(hp:a7 w p tp #[.pointer (some ⟨x,0,none⟩)])
 (hx:a7 w x 103 (mU (.iface (bn nd) (.pointer (some ⟨q,0,none⟩))) g fl d st T e)) (hR:Repr w S (.iface (bn nd) (.pointer (some ⟨q,0,none⟩))) nd) (hS:∀b,S b->b<w.heap.size) (hpx:p≠x):
 Calls PM 77 #[.pointer (some ⟨p,0,none⟩)] w λe' w'=>e'= .returned (.tuple #[])/\a7 w' x 103 (mU (.iface (bn nd) (.pointer (some ⟨q,0,none⟩))) g fl d st (du co (bj nd).1) (bj nd).2)/\Kq w.heap.size [x] w w':=by
 have c0:w.cell? ⟨p,0,none⟩=some (.pointer (some ⟨x,0,none⟩)):=hp.cell 0;have c1:w.cell? ⟨x,0,none⟩=some (.iface (bn nd) (.pointer (some ⟨q,0,none⟩))):=hx.cell 0;have hF:=AI λw1(k:Kq w.heap.size [] w w1)=>IR hC (hR.keep (w':=w1) λb hb hlt=>k.kp.2 b hlt Su) λb hb=>SI (hS b hb) k.kp.1
 replace hp:=AI hp;replace hx:=AI hx;replace hR:=AI hR;go_enter PM.func Tryz.func77 (by decide),Tryz.ntmps77
 go_wp2;refine wp_region_noPanic ?_;refine wp_region_held_drew (S:=λw'=>w'.cell? ⟨p,0,none⟩=some (.pointer (some ⟨x,0,none⟩))/\w'.cell? ⟨x,0,none⟩=some (.iface (bn nd) (.pointer (some ⟨q,0,none⟩)))) (by rfl) ⟨c0,c1⟩ ?_;intro hS0;refine ci 0 2 (.pointer (some ⟨x,0,none⟩)) rfl rfl (by kernel_rfl) (by kernel_rfl) (by kernel_rfl) (λ_ _ _ h=>h) (Sy ⟨by rfl,λw' hS'=> ?_⟩) hS0 ?_
 .obtain⟨h1,h2⟩:=hS';go_simp
 simp only[Sv,zq0];refine ci 1 3 (.pointer (some ⟨x,0,none⟩)) rfl rfl (by kernel_rfl) (by kernel_rfl) (by kernel_rfl) (λ_ _ _ h=>h) (Sy ⟨by rfl,λw' hS'=> ?_⟩) hS0 ?_
 .obtain⟨h1,h2⟩:=hS';go_simp
 simp only[Sv,zq0];refine ci 2 4 (.pointer (some ⟨x,0,none⟩)) rfl rfl (by kernel_rfl) (by kernel_rfl) (by kernel_rfl) (λ_ _ _ h=>h) (Sy ⟨by rfl,λw' hS'=> ?_⟩) hS0 ?_
 .obtain⟨h1,h2⟩:=hS';go_simp
 simp only[Sv,zq0];refine ci 3 5 (.pointer (some ⟨x,0,none⟩)) rfl rfl (by kernel_rfl) (by kernel_rfl) (by kernel_rfl) (λ_ _ _ h=>h) (Sy ⟨by rfl,λw' hS'=> ?_⟩) hS0 ?_
 .obtain⟨h1,h2⟩:=hS';go_simp
 simp only[Sv,zq0];refine ci 4 6 (.pointer (some ⟨x,0,none⟩)) rfl rfl (by kernel_rfl) (by kernel_rfl) (by kernel_rfl) (λ_ _ _ h=>h) (Sy ⟨by rfl,λw' hS'=> ?_⟩) hS0 ?_
 .obtain⟨h1,h2⟩:=hS';go_simp
 simp only[Sv,zq0];refine ci 5 7 (.iface (bn nd) (.pointer (some ⟨q,0,none⟩))) rfl rfl (by kernel_rfl) (by kernel_rfl) (by kernel_rfl) (λ_ _ _ h=>h) (Sy ⟨by rfl,λw' hS'=> ?_⟩) hS0 ?_
 .obtain⟨h1,h2⟩:=hS';go_simp
 simp only[Sv,zq0];refine jz 6 rfl rfl (by kernel_rfl) ?_;refine zJ 8 rfl 78 #[.iface (bn nd) (.pointer (some ⟨q,0,none⟩))] (by go_simp) _ (λw'=>Kq w.heap.size [] w w') ((hF.out w.drew (Kq.refl w).drew).mono λe' w' h=>⟨h.1,(((Kq.refl w).drew).trans h.2:Kq w.heap.size [] w w')⟩) ?_;intro w3 k3;have hp3:=hp.out.kq k3 hp.out.lt Su;have hx3:=hx.out.kq k3 hx.out.lt Su;have h0:w3.cell? ⟨p,0,none⟩=some (.pointer (some ⟨x,0,none⟩))/\w3.cell? ⟨x,0,none⟩=some (.iface (bn nd) (.pointer (some ⟨q,0,none⟩))):=⟨hp3.cell 0,hx3.cell 0⟩;refine⟨h0,?_⟩;obtain⟨V,hV⟩:∃V,du co (bj nd).1=V:=⟨_,rfl⟩;obtain⟨z,hz⟩:∃z,(bj nd).2=z:=⟨_,rfl⟩;simp only[hV,hz];unfold kL;simp only[Sv,zq0];refine ci 7 1 (.tuple #[.agg #[.int .u64 (wz V 0),.int .u64 (wz V 1),.int .u64 (wz V 2),.int .u64 (wz V 3)],.bool z]) rfl rfl (by kernel_rfl) (by kernel_rfl) (by kernel_rfl) (λ_ _ _ h=>h) (Sy ⟨by rfl,λw' hS'=> ?_⟩) h0 ?_
 .obtain⟨h1,h2⟩:=hS';go_simp
 simp only[Sv,zq0];refine ci 8 9 (.agg #[.int .u64 (wz V 0),.int .u64 (wz V 1),.int .u64 (wz V 2),.int .u64 (wz V 3)]) rfl rfl (by kernel_rfl) (by kernel_rfl) (by kernel_rfl) (λ_ _ _ h=>h) (Sy ⟨by rfl,λw' hS'=> ?_⟩) h0 ?_
 .obtain⟨h1,h2⟩:=hS';go_simp
 simp only[Sv,zq0];refine ci 9 10 (.bool z) rfl rfl (by kernel_rfl) (by kernel_rfl) (by kernel_rfl) (λ_ _ _ h=>h) (Sy ⟨by rfl,λw' hS'=> ?_⟩) h0 ?_
 .obtain⟨h1,h2⟩:=hS';go_simp
 simp only[Sv,zq0];refine ci 10 11 (.pointer (some ⟨x,0,none⟩)) rfl rfl (by kernel_rfl) (by kernel_rfl) (by kernel_rfl) (λ_ _ _ h=>h) (Sy ⟨by rfl,λw' hS'=> ?_⟩) h0 ?_
 .obtain⟨h1,h2⟩:=hS';go_simp
 simp only[Sv,zq0];refine ci 11 12 (.pointer (some ⟨x,6,none⟩)) rfl rfl (by kernel_rfl) (by kernel_rfl) (by kernel_rfl) (λ_ _ _ h=>h) (Sy ⟨by rfl,λw' hS'=> ?_⟩) h0 ?_
 .obtain⟨h1,h2⟩:=hS';go_simp
 simp only[Sv,zq0];have fz:∀j,w3.frozen? ⟨x,j,none⟩=false:=hx3.frozen;have x6:=hx3.cell 6;have x7:=hx3.cell 7;have x8:=hx3.cell 8;have x9:=hx3.cell 9;simp only[mU,T6,Te,SV]at x6 x7 x8 x9;refine jz 12 rfl rfl (by kernel_rfl) ?_;refine zI rfl ((((w3.setCell ⟨x,6,none⟩ (.int .u64 (wz V 0))).setCell ⟨x,7,none⟩ (.int .u64 (wz V 1))).setCell ⟨x,8,none⟩ (.int .u64 (wz V 2))).setCell ⟨x,9,none⟩ (.int .u64 (wz V 3))) ?_ ?_
 .go_simp
 have hx4:a7 ((((w3.setCell ⟨x,6,none⟩ (.int .u64 (wz V 0))).setCell ⟨x,7,none⟩ (.int .u64 (wz V 1))).setCell ⟨x,8,none⟩ (.int .u64 (wz V 2))).setCell ⟨x,9,none⟩ (.int .u64 (wz V 3))) x 103 (mU (.iface (bn nd) (.pointer (some ⟨q,0,none⟩))) g fl d st V e):=(((hx3.bI 6 (.int .u64 (wz V 0))).bI 7 (.int .u64 (wz V 1))).bI 8 (.int .u64 (wz V 2))).bI 9 (.int .u64 (wz V 3));have hp4:=(((hp3.far (p:=⟨x,6,none⟩) (by exact hpx) (.int .u64 (wz V 0))).far (p:=⟨x,7,none⟩) (by exact hpx) (.int .u64 (wz V 1))).far (p:=⟨x,8,none⟩) (by exact hpx) (.int .u64 (wz V 2))).far (p:=⟨x,9,none⟩) (by exact hpx) (.int .u64 (wz V 3));have k4:Kq w.heap.size [x] w ((((w3.setCell ⟨x,6,none⟩ (.int .u64 (wz V 0))).setCell ⟨x,7,none⟩ (.int .u64 (wz V 1))).setCell ⟨x,8,none⟩ (.int .u64 (wz V 2))).setCell ⟨x,9,none⟩ (.int .u64 (wz V 3))):=
  ((((k3.mono (Sw _) nofun:Kq w.heap.size [x] w w3).setCell (p:=⟨x,6,none⟩) (λ_=>AS.2 rfl) _).setCell (p:=⟨x,7,none⟩) (λ_=>AS.2 rfl) _).setCell (p:=⟨x,8,none⟩) (λ_=>AS.2 rfl) _).setCell (p:=⟨x,9,none⟩) (λ_=>AS.2 rfl) _
 generalize (((w3.setCell ⟨x,6,none⟩ (.int .u64 (wz V 0))).setCell ⟨x,7,none⟩ (.int .u64 (wz V 1))).setCell ⟨x,8,none⟩ (.int .u64 (wz V 2))).setCell ⟨x,9,none⟩ (.int .u64 (wz V 3))=w4 at hx4 hp4 k4 ⊢;have h3:w4.cell? ⟨p,0,none⟩=some (.pointer (some ⟨x,0,none⟩))/\w4.cell? ⟨x,0,none⟩=some (.iface (bn nd) (.pointer (some ⟨q,0,none⟩))):=⟨hp4.cell 0,hx4.cell 0⟩;refine⟨h3,?_⟩;refine ci 13 13 (.pointer (some ⟨x,0,none⟩)) rfl rfl (by kernel_rfl) (by kernel_rfl) (by kernel_rfl) (λ_ _ _ h=>h) (Sy ⟨by rfl,λw' hS'=> ?_⟩) h3 ?_
 .obtain⟨h1,h2⟩:=hS';go_simp
 simp only[Sv,zq0];refine ci 14 14 (.pointer (some ⟨x,10,none⟩)) rfl rfl (by kernel_rfl) (by kernel_rfl) (by kernel_rfl) (λ_ _ _ h=>h) (Sy ⟨by rfl,λw' hS'=> ?_⟩) h3 ?_
 .obtain⟨h1,h2⟩:=hS';go_simp
 simp only[Sv,zq0];have x10:=hx4.cell 10;have fz4:∀j,w4.frozen? ⟨x,j,none⟩=false:=hx4.frozen;simp only[mU,T6,Te,SV]at x10;refine jz 15 rfl rfl (by kernel_rfl) ?_;refine zI rfl (w4.setCell ⟨x,10,none⟩ (.bool z)) ?_ ?_
 .go_simp
 have hx5:a7 (w4.setCell ⟨x,10,none⟩ (.bool z)) x 103 (mU (.iface (bn nd) (.pointer (some ⟨q,0,none⟩))) g fl d st V z):=hx4.bI 10 (.bool z);refine⟨⟨(hp4.far (p:=⟨x,10,none⟩) (by exact hpx) (.bool z)).cell 0,hx5.cell 0⟩,?_⟩;refine wpAnyH_done (by kernel_rfl) ?_ _;refine Tv ?_;exact bodyPost_end (results_none rfl _ _ _) rfl ⟨rfl,by rw[hV,hz];exact hx5,k4.setCell (p:=⟨x,10,none⟩) (λ_=>AS.2 rfl) _⟩
end
section
open Go.RowKit Go.Conc
attribute [local instance] fI
@[go_sem] theorem PH.RU(args w):(SH 50 args).run PH w= .ok (.enter 50 args) w:=a8 (PH.func Tryz.func50 (by decide)) (by kernel_rfl) rfl args w
@[go_sem] theorem PH.RM(args w):(SH 77 args).run PH w= .ok (.enter 77 args) w:=a8 (PH.func Tryz.func77 (by decide)) (by kernel_rfl) rfl args w
@[go_sem] theorem PH.RN(args w):(SH 76 args).run PH w= .ok (.enter 76 args) w:=a8 (PH.func Tryz.func76 (by decide)) (by kernel_rfl) rfl args w
@[go_sem] theorem PH.Rp(args w):(SH 109 args).run PH w= .ok (.enter 109 args) w:=a8 (PH.func Tryz.func109 (by decide)) (by kernel_rfl) rfl args w
@[go_sem] theorem PH.Rf(args w):(SH 128 args).run PH w= .ok (.enter 128 args) w:=a8 (PH.func Tryz.func128 (by decide)) (by kernel_rfl) rfl args w
@[go_sem] theorem PH.Re(args w):(SH 129 args).run PH w= .ok (.enter 129 args) w:=a8 (PH.func Tryz.func129 (by decide)) (by kernel_rfl) rfl args w
@[go_sem] theorem PH.Rq(args w):(SH 108 args).run PH w= .ok (.enter 108 args) w:=a8 (PH.func Tryz.func108 (by decide)) (by kernel_rfl) rfl args w
@[go_sem] theorem PH.Rd(args w):(SH 130 args).run PH w= .ok (.enter 130 args) w:=a8 (PH.func Tryz.func130 (by decide)) (by kernel_rfl) rfl args w
@[go_sem] theorem PH.QQ(args w):(SH 157 args).run PH w= .ok (.enter 157 args) w:=a8 (PH.func Tryz.func157 (by decide)) (by kernel_rfl) rfl args w
@[go_sem] theorem PH.RZ(args w):(SH 34 args).run PH w= .ok (.enter 34 args) w:=a8 (PH.func Tryz.func34 (by decide)) (by kernel_rfl) rfl args w
@[go_sem] theorem PH.RY(args w):(SH 35 args).run PH w= .ok (.enter 35 args) w:=a8 (PH.func Tryz.func35 (by decide)) (by kernel_rfl) rfl args w
@[go_sem] theorem PH.Sd(args w):(SH 23 args).run PH w= .ok (.enter 23 args) w:=a8 (PH.func Tryz.func23 (by decide)) (by kernel_rfl) rfl args w
@[go_sem] theorem PH.Sc(args w):(SH 24 args).run PH w= .ok (.enter 24 args) w:=a8 (PH.func Tryz.func24 (by decide)) (by kernel_rfl) rfl args w
@[go_sem] theorem PH.Sg(args w):(SH 19 args).run PH w= .ok (.enter 19 args) w:=a8 (PH.func Tryz.func19 (by decide)) (by kernel_rfl) rfl args w
@[go_sem] theorem PH.Si(args w):(SH 17 args).run PH w= .ok (.enter 17 args) w:=a8 (PH.func Tryz.func17 (by decide)) (by kernel_rfl) rfl args w
@[go_sem] theorem PH.Sh(args w):(SH 18 args).run PH w= .ok (.enter 18 args) w:=a8 (PH.func Tryz.func18 (by decide)) (by kernel_rfl) rfl args w
@[go_sem] theorem PH.Se(args w):(SH 21 args).run PH w= .ok (.enter 21 args) w:=a8 (PH.func Tryz.func21 (by decide)) (by kernel_rfl) rfl args w
@[go_sem] theorem PH.Sb(args w):(SH 25 args).run PH w= .ok (.enter 25 args) w:=a8 (PH.func Tryz.func25 (by decide)) (by kernel_rfl) rfl args w
@[go_sem] theorem PH.S6(args w):(SH 29 args).run PH w= .ok (.enter 29 args) w:=a8 (PH.func Tryz.func29 (by decide)) (by kernel_rfl) rfl args w
theorem GP{a n w}(hc:w.cell? a=some (.int .u32 n)):(SH 127 #[.pointer (some a)]).run PH w= .ok (.value (.int .u32 n)) w:=
 run_call_load (PH.func Tryz.func127 (by decide)) (by kernel_rfl) (by kernel_rfl) (by kernel_rfl) .u32 wU hc
theorem GO{a n u w}(hc:w.cell? a=some u)(hz:w.frozen? a=false):(SH 156 #[.pointer (some a),.int .u32 n]).run PH w= .ok (.value (.tuple #[])) (w.setCell a (.int .u32 n)):=
 run_call_store (PH.func Tryz.func156 (by decide)) (by kernel_rfl) (by kernel_rfl) (by kernel_rfl) wT hc hz
theorem yE{x j b w}(hc:w.cell? ⟨x,j,none⟩=some (.int .u32 (if b then 1 else 0))):Calls PH 108 #[.pointer (some ⟨x,j,none⟩)] w λe w'=>e= .returned (.bool b)/\w'=w:=by
 have h1:=GP hc;cases b;all_goals
  go_enter PH.func Tryz.func108 (by decide),Tryz.ntmps108
  go_wp2;go_ret;simp
theorem MO(w):Calls PH 157 #[.bool true] w λe w'=>e= .returned (.int .u32 1)/\w'=w:=by
 go_enter PH.func Tryz.func157 (by decide),Tryz.ntmps157
 go_wp2;go_ret;simp
section
variable{h0:Array Obj}{w:Sz}{x j:Nat}
theorem JO{u}(hc:w.cell? ⟨x,j,none⟩=some u)(hz:w.frozen? ⟨x,j,none⟩=false):
 tR (br ek h0) 130 #[.pointer (some ⟨x,j,none⟩),.bool true] w λw'=>jw w' (w.setCell ⟨x,j,none⟩ (.int .u32 1)):=by
 refine rV (bP (by decide)) (PH.func Tryz.func130 (by decide)) rfl rfl ?_;simp only[Tryz.ntmps130,SG,SL,SO,SU,SS,SE,SD,SK,SF,SN,SM];refine bm λw1 e1=> ?_
 have c1:=(e1.cell _).trans hc;have z1:=(e1.frozen _).trans hz;refine wp_region_noPanic ?_;refine wp_region_held_drew (S:=λ_=>True) (by rfl) trivial ?_;intro hS0;refine ci 0 4 (.pointer (some ⟨x,j,none⟩)) rfl rfl (by kernel_rfl) (by kernel_rfl) (by kernel_rfl) (λ_ _ _ h=>h) (Sy ⟨by rfl,λw' hS'=> ?_⟩) hS0 ?_
 .go_simp
 simp only[Sv,zq0];refine ci 1 5 (.pointer (some ⟨x,j,none⟩)) rfl rfl (by kernel_rfl) (by kernel_rfl) (by kernel_rfl) (λ_ _ _ h=>h) (Sy ⟨by rfl,λw' hS'=> ?_⟩) hS0 ?_
 .go_simp
 simp only[Sv,zq0];refine ci 2 6 (.pointer (some ⟨x,j,none⟩)) rfl rfl (by kernel_rfl) (by kernel_rfl) (by kernel_rfl) (λ_ _ _ h=>h) (Sy ⟨by rfl,λw' hS'=> ?_⟩) hS0 ?_
 .go_simp
 simp only[Sv,zq0];refine ci 3 7 (.bool true) rfl rfl (by kernel_rfl) (by kernel_rfl) (by kernel_rfl) (λ_ _ _ h=>h) (Sy ⟨by rfl,λw' hS'=> ?_⟩) hS0 ?_
 .go_simp
 simp only[Sv,zq0];refine jz 4 rfl rfl (by kernel_rfl) ?_;refine zJ 8 rfl 157 #[.bool true] (by go_simp) _ (λw'=>w'=w1.drew) (MO _) ?_;rintro _ rfl;refine⟨trivial,?_⟩;simp only[Sv,zq0];refine jz 5 rfl rfl (by kernel_rfl) ?_;have hst:=GO (n:=1) (w:=w1.drew) c1 z1;refine LB 9 rfl (.tuple #[]) (w1.drew.setCell ⟨x,j,none⟩ (.int .u32 1)) ?_ ?_
 .go_simp
 refine⟨trivial,?_⟩;refine wpAnyH_done (by kernel_rfl) ?_ _;refine Tv ?_;exact⟨.inl rfl,rfl,(⟨e1.heap,e1.os,e1.out⟩:jw w1.drew w).set ⟨x,j,none⟩ (.int .u32 1)⟩
end
theorem jw.kq{w w' B X}(h:jw w' w):Kq B X w w':=⟨⟨by simp[h.heap],λb _ _=>by rw[h.heap]⟩,h.os,h.out⟩
theorem La{w x fl nv g d st T e}(h:a7 w x 103 (mU nv g fl d st T e))(s'):a7 (w.setCell ⟨x,4,none⟩ (.int .i32 s')) x 103 (mU nv g fl d s' T e):=h.bI 4 (.int .i32 s')
theorem OI{w x fl nv g d st T e}(h:a7 w x 103 (mU nv g fl d st T e))(d'):a7 (w.setCell ⟨x,3,none⟩ (.int .u32 d')) x 103 (mU nv g fl d' st T e):=h.bI 3 (.int .u32 d')
theorem Kt{h0 S nd}(hC:fh S nd){w p x q fl tp g T e}(hp:a7 w p tp #[.pointer (some ⟨x,0,none⟩)])
 (hx:a7 w x 103 (mU (.iface (bn nd) (.pointer (some ⟨q,0,none⟩))) g fl 0 0 T e)) (hR:Repr w S (.iface (bn nd) (.pointer (some ⟨q,0,none⟩))) nd) (hS:∀b,S b->b<w.heap.size/\b≠x) (hpx:p≠x):
 cb (br ek h0) 109 #[.pointer (some ⟨x,3,none⟩),.func (.func 77) #[] #[.pointer (some ⟨p,0,none⟩)]] w λe' w'=>e'= .returned (.tuple #[])/\a7 w' x 103 (mU (.iface (bn nd) (.pointer (some ⟨q,0,none⟩))) g fl 1 0 (du co (bj nd).1) (bj nd).2)/\Kq w.heap.size [x] w w':=by
 refine vl (bP (by decide)) (PH.func Tryz.func109 (by decide)) rfl rfl ?_;simp only[Tryz.ntmps109,SG,SL,SO,SU,SS,SE,SD,SK,SF,SN,SM];refine ac λK hK=> ?_
 refine ao ?_;show aV _ _ _ (SC 0 (3+1)) _ _;refine bq 0 3 1 (λN hN w1 e1=> ?_) (by decide);simp only[zq1];have k1:Kq w.heap.size [x] w w1:=e1.kq;have hx1:=hx.kq (e1.kq (B:=w.heap.size) (X:=[])) hx.lt Su;have A1:=AI (⟨k1,hx1⟩:_/\_);have z3:w1.cell? ⟨x,3,none⟩=some (.int .u32 0):=hx1.cell 3;replace hx:=AI hx;replace hp:=AI hp;replace hR:=AI hR;go_wp2;refine hN.out _ _ ?_;refine f9 (f:=128) (i:=3) (rest:=SC 4 0) rfl rfl λu=>by simp[go_sem] (bP (by decide)) (Mo (A1.out.2.cell 4) (A1.out.2.frozen 4)) (λv w2 hr=> ?_) λch w2 hr=>nomatch hr.1
 obtain⟨hv,e2⟩:=hr;cases hv;have h1:=(La A1.out.2 1).kq (e2.kq (B:=w1.heap.size) (X:=[])) A1.out.2.lt Su;have k2:Kq w.heap.size [x] w w2:=(A1.out.1.setCell (p:=⟨x,4,none⟩) (λ_=>AS.2 rfl) (.int .i32 1)).trans e2.kq;have A2:=AI (⟨k2,h1⟩:_/\_);simp only[Sv,zq0];refine az (hK.out _ _ ?_);refine bm λw3 e3=> ?_
 have k3:Kq w.heap.size [x] w w3:=A2.out.1.trans e3.kq;have hx3:=A2.out.2.kq (e3.kq (B:=w2.heap.size) (X:=[])) A2.out.2.lt Su;have hnx:∀b,b≠x->b∉[x]:=λb h hx=>h (AS.1 hx)
 have hp3:=hp.out.kq k3 hp.out.lt (hnx _ hpx);have hR3:=hR.out.keep (w':=w3) λb hb hlt=>k3.kp.2 b hlt (hnx _ (hS b hb).2)
 have hlt3:w.heap.size<=w3.heap.size:=k3.kp.1;have hL:=yE (b:=false) (x:=x) (j:=3) (w:=w3) (hx3.cell 3);have hF:=AI (Ia hC hp3 hx3 hR3 (λb hb=>SI (hS b hb).1 hlt3) hpx);have A3:=AI k3;go_wp2;refine hL.mono ?_;rintro e' w4 ⟨rfl,rfl⟩;go_wp2;refine hF.out.mono ?_;rintro e' w5 ⟨rfl,hx5,k5⟩;have k5':Kq w.heap.size [x] w w5:=A3.out.trans (k5.mono A3.out.kp.1 λ_ h _=>h);replace hx5:=AI hx5;go_wp2;refine⟨_,_,_,_,rfl,λu=>by simp[go_sem],bP (by decide),λc cs K hc hm hK=>JO (hx5.out.cell 3) (hx5.out.frozen 3) c cs K hc hm λw6 e6=>hK w6 ?_⟩;have hx6:=(OI hx5.out 1).kq (e6.kq (B:=w5.heap.size) (X:=[])) hx5.out.lt Su;have k6:Kq w.heap.size [x] w w6:=(k5'.setCell (p:=⟨x,3,none⟩) (λ_=>AS.2 rfl) (.int .u32 1)).trans e6.kq;refine⟨_,_,_,_,rfl,λu=>by simp[go_sem],bP (by decide),λc cs K hc hm hK=>Hm (hx6.cell 4) (hx6.frozen 4) c cs K hc hm λw7 e7=>hK w7 ?_⟩;exact⟨(La hx6 0).kq (e7.kq (B:=w6.heap.size) (X:=[])) hx6.lt Su,(k6.setCell (p:=⟨x,4,none⟩) (λ_=>AS.2 rfl) (.int .i32 0)).trans e7.kq⟩
structure kh(w:Sz)(x q fl:Nat)(g:Int)(nd:Nd)(S:Nat->Prop)(dn:Bool)(T:cS)(e:Bool):Prop where
 blk:a7 w x 103 (mU (.iface (bn nd) (.pointer (some ⟨q,0,none⟩))) g fl (if dn then 1 else 0) 0 T e)
 rep:Repr w S (.iface (bn nd) (.pointer (some ⟨q,0,none⟩))) nd
 low:∀b,S b->b<w.heap.size/\b≠x
 had:dn=true->T=du co (bj nd).1/\e=(bj nd).2
theorem kh.kq{w w' x q fl g nd S dn T e}(h:kh w x q fl g nd S dn T e)(k:Kq w.heap.size [] w w'):kh w' x q fl g nd S dn T e:=
 ⟨h.blk.kq k h.blk.lt Su,h.rep.keep λb hb hlt=>k.kp.2 b hlt Su,λb hb=>⟨SI (h.low b hb).1 k.kp.1,(h.low b hb).2⟩,h.had⟩
theorem PX{h0 S nd}(hC:fh S nd){w p x q fl tp g dn T e}(hp:a7 w p tp #[.pointer (some ⟨x,0,none⟩)])
 (hx:kh w x q fl g nd S dn T e) (hpx:p≠x):
 cb (br ek h0) 76 #[.pointer (some ⟨x,3,none⟩),.func (.func 77) #[] #[.pointer (some ⟨p,0,none⟩)]] w λe' w'=>e'= .returned (.tuple #[])/\kh w' x q fl g nd S true (du co (bj nd).1) (bj nd).2/\Kq w.heap.size [x] w w':=by
 refine bu (bP (by decide)) (λw' h=>nomatch h.1) (PH.func Tryz.func76 (by decide)) rfl ?_;simp only[Tryz.ntmps76,SG,SL,SO,SU,SS,SE,SD,SK,SF,SN,SM];refine ac λK hK=> ?_
 refine bm λw1 e1=> ?_
 have hL:=yE (b:=dn) (x:=x) (j:=3) (w:=w1) ((e1.cell _).trans (hx.blk.cell 3));replace e1:=AI e1;replace hx:=AI hx;replace hp:=AI hp;cases dn
 .go_wp2;refine hL.mono ?_;rintro e' w4 ⟨rfl,rfl⟩;go_wp2;refine hK.out _ _ ?_;refine bG rfl ?_;refine ao ?_;show aV _ _ _ (SC 0 (2+1)) _ _;refine bq 0 2 1 (λN hN w2 e2=> ?_) (by decide);simp only[zq1];replace e2:=AI (e2.trans e1.out);go_wp2;refine hN.out _ _ ?_;have hk:=e2.out.kq (B:=w.heap.size) (X:=[]);have h1:=hx.out.kq hk;refine f9 (f:=109) (i:=2) (rest:=SC 3 0) rfl rfl λu=>by simp[go_sem] (bP (by decide)) (Kt hC (hp.out.kq hk hp.out.lt Su) h1.blk h1.rep h1.low hpx) (λv w3 hr=> ?_) λch w3 hr=>nomatch hr.1
  obtain⟨hv,h3,k3⟩:=hr;cases hv;have hle:=hk.kp.1;have k03:Kq w.heap.size [x] w w3:=(e2.out.kq).trans (k3.mono hle λ_ h _=>h);refine az ⟨rfl,_,results_none rfl _ _ _,rfl,⟨h3,h1.rep.keep λb hb hlt=>k3.kp.2 b hlt λh=>(h1.low b hb).2 (AS.1 h),λb hb=>⟨SI (h1.low b hb).1 k3.kp.1,(h1.low b hb).2⟩,λ_=>⟨rfl,rfl⟩⟩,k03⟩
 .go_wp2;refine hL.mono ?_;rintro e' w4 ⟨rfl,rfl⟩;go_wp2;refine hK.out _ _ ?_;refine bK rfl ?_;refine fS ?_;obtain⟨rfl,rfl⟩:=hx.out.had rfl;exact⟨rfl,_,results_none rfl _ _ _,rfl,hx.out.kq e1.out.kq,e1.out.kq⟩
end
theorem LS{M k ks i j}:(dL M (k::ks) i).testBit j=true↔∃c,c<320/\(bv M k i).testBit c=true/\(dL M ks c).testBit j=true:=by rw[dL,pd]
section
section
variable{M:MT}
def gU(G:Int)(i j:Nat)(ns:Notes):Prop:=∀x∈ns,0<x.1/\x.1<=G/\i<=x.2.1/\x.2.1<=x.2.2/\x.2.2<=j
theorem gU.nil{G i j}:gU G i j []:=λ_ h=>nomatch h
theorem gU.app{G i c j a b}(ha:gU G i c a)(hb:gU G c j b)(h1:i<=c)(h2:c<=j):gU G i j (a++b):=λx hx=>by
 rcases List.mem_append.1 hx with h|h
 .have:=ha x h;omega
 .have:=hb x h;omega
theorem uE{G k l m wk j}(hwk:∀i c,i<=M.s.size->(bv M k i).testBit c=true->gU G i c (wk i c)):
 ∀f done i,i<=M.s.size->gU G i j (jJ M k l m wk j f done i)
 |0,_,_,_=>.nil
 |f+1,done,i,hi=>by
  rw[jJ];split
  .split
   .next c hc=>
    rw[j4]at hc;obtain⟨h1,h2,h3,_⟩:=hc;rw[Tc]at h3;have hw:=bZ M k i hi c h2;exact(hwk i c hi h2).app (uE hwk f _ c hw.2) hw.1 (vz (l:=l) (m:=m) (λi hi=>bZ M k i hi) _ _ c hw.2 j h3.2).1
   .exact uE hwk f _ i hi
  .exact .nil
mutual
theorem walk_in{G lo hi}:∀nd,be G lo hi nd->∀i j,i<=M.s.size->(bv M nd i).testBit j=true->gU G i j (de M nd i j)
 | .set ..,_,_,_,_,_=>by rw[de];exact .nil
 | .edge ..,_,_,_,_,_=>.nil
 | .seq _ ks,hn,i,j,hi,h=>zS ks hn.2 i j hi h
 | .alt _ ks,hn,i,j,hi,h=>zT ks hn.2 i j hi
 | .grp _ k num,hn,i,j,hi,h=>by
  intro x hx;rcases SJ.1 hx with rfl|hx
  .exact⟨hn.2.1,hn.2.2.1,Sw _,(bZ M k i hi j h).1,Sw _⟩
  .exact walk_in k hn.2.2.2 i j hi h x hx
 | .rep _ k l m,hn,i,j,hi,h=>uE (λi c hi hb=>walk_in k hn.2.2.2.2 i c hi hb) _ 0 i hi
theorem zS{G lo hi:Int}:∀(ks:List Nd),bV G lo hi ks->∀i j,i<=M.s.size->(dL M ks i).testBit j=true->gU G i j (jI M ks i j)
 |[],_,_,_,_,_=>.nil
 |k::ks,hn,i,j,hi,h=>by
  obtain⟨mid,hn1,hn2⟩:=hn;rw[jI];split
  .next c hc=>
   rw[j4]at hc;obtain⟨h1,h2,h3,_⟩:=hc;have hw:=bZ M k i hi c h2;exact(walk_in k hn1 i c hi h2).app (zS ks hn2 c j hw.2 h3) hw.1 (qH M ks c hw.2 j h3).1
  .next hc=>
   rw[oX]at hc;obtain⟨c,h1,h2,h3⟩:=LS.1 h<;>grind
theorem zT{G lo hi:Int}:∀(ks:List Nd),bV G lo hi ks->∀i j,i<=M.s.size->gU G i j (oq M ks i j)
 |[],_,_,_,_=>.nil
 |k::ks,hn,i,j,hi=>by
  obtain⟨mid,hn1,hn2⟩:=hn;rw[oq];split
  .next h=>exact walk_in k hn1 i j hi h
  .exact zT ks hn2 i j hi
end
end
end
section
open Go.RowKit Go.Conc
attribute [local instance] fI
theorem yF(g:Nat):∀ns L hg,(∀n∈ns,0<=n.1)->(dH ns L)[g]?=some (ns.foldl (λx n=>if n.1=(g:Int)then((n.2.1:Int),(n.2.2:Int))else x) L[g])
 |[],L,hg,_=>by simp[dH]
 |n::ns,L,hg,h=>by
  have:=yF g ns (L.set n.1.toNat (n.2.1,n.2.2)) (by simpa using hg) λm hm=>h m (T7 _ hm)
  refine(show _=_ from this).trans ?_;grind
theorem Fa{ns G}(h:∀n∈ns,0<=n.1):dH ns (Sx (G+1) dM)=(List.range (G+1)).map (nn ns):=by
 apply List.ext_getElem?;grind [yF,nn,oZ]
theorem J1{w x fl nv g d st T e}(h:a7 w x 103 (mU nv g fl d st T e)):w.cell? ⟨x,6,none⟩=some (.int .u64 (wz T 0))/\w.cell? ⟨x,7,none⟩=some (.int .u64 (wz T 1))/\w.cell? ⟨x,8,none⟩=some (.int .u64 (wz T 2))/\w.cell? ⟨x,9,none⟩=some (.int .u64 (wz T 3)):=⟨h.cell 6,h.cell 7,h.cell 8,h.cell 9⟩
def P0(w':Sz)(lo:Nat)(G:Nat)(v:T4):Option (List (Int×Int))->Prop
 |none=>v= .slice none 0 0
 |some L=>∃g,lo<=g/\v= .slice (some ⟨g,0,none⟩) (G+1) (G+1)/\a7 w' g 54 (dw L)
structure za(E:ME)(w:Sz)(x q fl:Nat)(g:Int)(nd:Nd)(S:Nat->Prop)(B G p:Nat)(wr:Sz):Prop where
 mem:cI E wr
 rx:kh wr x q fl g nd S true (du co (bj nd).1) (bj nd).2
 sp:∃L:Sp,L.length=G+1/\a7 wr (B+1) 54 (dw L)
 box:a7 wr p 22 #[.pointer (some ⟨x,0,none⟩)]
 kq:Kq w.heap.size [x] w wr
theorem za.NE{E w wr u x q fl B G p g nd S}(h:za E w x q fl g nd S B G p wr){X}(k:Kq wr.heap.size X wr u)(hX:∀b∈X,B<=b)(hx:x<B)(hp:p<B)(hS:∀b,S b->b<B)(hwB:w.heap.size<=B)
 (hM:cI E u) (hs:∃L,L.length=G+1/\a7 u (B+1) 54 (dw L)):za E w x q fl g nd S B G p u:=by
 have no:∀b,b<B->b∉X:=λb hb hx=>by have:=hX b hx;omega
 exact⟨hM,⟨h.rx.blk.kq k h.rx.blk.lt (no _ hx),h.rx.rep.keep λb hb hlt=>k.kp.2 b hlt (no _ (hS b hb)),λb hb=>⟨SI (h.rx.low b hb).1 k.kp.1,(h.rx.low b hb).2⟩,h.rx.had⟩,hs,h.box.kq k h.box.lt (no _ hp),
  h.kq.trans (k.mono h.kq.kp.1 λb hb hlt=>by have:=hX b hb;omega)⟩
theorem za.Hv{E w wr u x q fl B G p g nd S}(h:za E w x q fl g nd S B G p wr)(k:Kq wr.heap.size [] wr u)(hx:x<B)(hp:p<B)(hS:∀b,S b->b<B)(h0:w.heap.size<=B):za E w x q fl g nd S B G p u:=by
 obtain⟨L,hL,hB⟩:=h.sp;exact h.NE k (λb hb=>nomatch hb) hx hp hS h0 (h.mem.kq k) ⟨L,hL,hB.kq k hB.lt Su⟩
theorem HZ{h0 S nd w}{x q fl ev G:Nat}{dn T e}{s:ByteArray}{i}(hx:kh w x q fl G nd S dn T e)(hT:je nd G)(hs:s.size<=300)(hfl:fl<256)(hev:ev<256)(hi:i<=s.size):
 cb (br ek h0) 50 #[.pointer (some ⟨x,0,none⟩),.string s,.int .u8 ev,.int .i64 i] w λe' w'=>∃v,e'= .returned v/\P0 w' w.heap.size G v (fj ⟨s,fl,ev⟩ nd G (s.size+1-i) i)/\kh w' x q fl G nd S true (du co (bj nd).1) (bj nd).2/\Kq w.heap.size [x] w w':=by
 have hC:fh S nd:=first_any (E:=uT s fl ev G nd S 0) (yI hT) (λi k l m h=>by
  obtain⟨hi,hh,hw⟩:=hT.w;obtain⟨_,_,_,_,hn⟩:=be.sub nd hw _ h;simp only[be]at hn;have:=p9 (n:=l.toNat) (by omega);rwa [show((l.toNat:Nat):Int)=l from by omega]at this) (λi ks h=>by
  obtain⟨hi,hh,hw⟩:=hT.w;obtain⟨lo,h',_,_,hn⟩:=be.sub nd hw _ h;simp only[be]at hn;have:=bV.le ks hn.2;have:=be.ids nd hw _ h;simp only[Nd.id]at this;omega) nd λa h=>h
 refine bu (bP (by decide)) (λw' ⟨v,h,_⟩=>nomatch h) (PH.func Tryz.func50 (by decide)) rfl ?_;simp only[Tryz.ntmps50,SG,SL,SO,SU,SS,SE,SD,SK,SF,SN,SM];refine ac λK hK=> ?_
 refine bm λw1 e1=> ?_
 replace e1:=AI e1;replace hx:=AI hx;go_wp2;refine hK.out _ _ ?_;obtain⟨p,hp⟩:∃p,p=w1.heap.size:=⟨_,rfl⟩;have hpw:p=w.heap.size:=by rw[hp,e1.out.heap]
 have hkW:Kq w1.heap.size [] w1 (w1.alloc (.cells #[.pointer (some ⟨x,0,none⟩)] 22)):=(Kq.refl w1).alloc (Sw _) _;have hx1:=(hx.out.kq e1.out.kq).kq hkW;have hb1:a7 (w1.alloc (.cells #[.pointer (some ⟨x,0,none⟩)] 22)) p 22 #[.pointer (some ⟨x,0,none⟩)]:=hp▸a7.new w1 _ _;have hk1:Kq w.heap.size [x] w (w1.alloc (.cells #[.pointer (some ⟨x,0,none⟩)] 22)):=(e1.out.kq).alloc (by rw[hpw.symm.trans hp];exact Sw _) _;rw[<- hp];generalize w1.alloc (.cells #[.pointer (some ⟨x,0,none⟩)] 22)=W at *;have hpx:p≠x:=by have:=hx.out.blk.lt;omega
 replace hpw:=AI hpw;clear hkW hx e1 hp;refine ac λK hK=> ?_
 refine ao ?_;show aV _ _ _ (SC 0 (4+1)) _ _;refine bq 0 4 1 (λN hN w2 e2=> ?_) (by decide);simp only[zq1];have hl:=hx1.kq e2.kq;have hb2:=hb1.kq (e2.kq (B:=W.heap.size) (X:=[])) hb1.lt Su;have hk2:Kq w.heap.size [x] w w2:=hk1.trans e2.kq;have v0:w2.cell? ⟨p,0,none⟩=some (.pointer (some ⟨x,0,none⟩)):=hb2.cell 0;have A2:=AI (⟨hl,hb2,hk2⟩:_/\_/\_);go_wp2;refine hN.out _ _ ?_;refine f9 (f:=76) (i:=4) (rest:=SC 5 0) rfl rfl λu=>by simp[go_sem] (bP (by decide)) (PX hC A2.out.2.1 A2.out.1 hpx) (λv w3 hr=> ?_) λch w3 hr=>nomatch hr.1
 obtain⟨hv,hx3,k3⟩:=hr;cases hv;have hb3:=A2.out.2.1.kq k3 A2.out.2.1.lt λh=>hpx (AS.1 h)
 have hk3:Kq w.heap.size [x] w w3:=A2.out.2.2.trans (k3.mono A2.out.2.2.kp.1 λ_ h _=>h);have A3:=AI (⟨hx3,hb3,hk3⟩:_/\_/\_);simp only[SR,SQ,SP];simp only[Sv,zq0];refine az (hK.out _ _ ?_);refine bm λw4 e4=> ?_
 have hx4:=A3.out.1.kq e4.kq;have hd:=A3.out.2.1.kq (e4.kq (B:=w3.heap.size) (X:=[])) A3.out.2.1.lt Su;have ho:Kq w.heap.size [x] w w4:=A3.out.2.2.trans e4.kq;have v0:w4.cell? ⟨p,0,none⟩=some (.pointer (some ⟨x,0,none⟩)):=hd.cell 0;have v1:w4.cell? ⟨x,1,none⟩=some (.int .i64 G):=hx4.blk.cell 1;have v2:w4.cell? ⟨x,2,none⟩=some (.int .u8 fl):=hx4.blk.cell 2;have A4:=AI (⟨hx4,hd,ho⟩:_/\_/\_);have hN:=AI (MX s fl ev G (by have:=hT.g9;omega) w4.drew);go_wp2;go_still_tail 10,by kernel_rfl
 change wpList _ _ _ _ _ w4.drew;go_wp2;refine hN.out.mono ?_;rintro e' w5 ⟨rfl,hm5,he,hf,k5⟩;have hg:w4.drew.heap.size=w4.heap.size:=rfl;rw[hg]at hm5 he hf k5;rw[hg];obtain⟨B,hB⟩:∃B,w4.heap.size=B:=⟨_,rfl⟩;have k45:Kq w4.heap.size [] w4 w5:=((Kq.refl w4).drew).trans k5;have h3:w.heap.size<=B:=hB▸A4.out.2.2.kp.1;have h6:∀b,S b->b<w4.heap.size:=λb hb=>(A4.out.1.low b hb).1
 have hE:=Mm (s:=s) (f:=fl) (e:=ev) (G:=G) hs hfl hev hT h6;have hW:=yI (s:=s) (f:=fl) (e:=ev) (G:=G) (S:=S) (B:=w4.heap.size) hT;have hG:=Ml (s:=s) (f:=fl) (e:=ev) (G:=G) hT h6;have hq:=JQ (s:=s) (f:=fl) (e:=ev) (G:=G) (w':=w5) A4.out.1.rep h6 hm5 he k45;have hxB:x<B:=hB▸A4.out.1.blk.lt;have h5:p<B:=hB▸A4.out.2.1.lt;have I5:za (uT s fl ev G nd S w4.heap.size) w x q fl G nd S w4.heap.size G p w5:=⟨hq,A4.out.1.kq k45,⟨_,by simp,hf⟩,A4.out.2.1.kq k45 A4.out.2.1.lt Su,A4.out.2.2.trans (k45.mono A4.out.2.2.kp.1 nofun)⟩;rw[hB]at hE hW hG I5;rw[hB];have h9:=hT.g9;have h4:=AI (hB▸h6:∀b,S b->b<B);replace I5:=AI I5;replace hB:=AI hB;replace h3:=AI h3;replace h9:=AI h9;go_wp2;go_loopw [10] (λc wr=>∃n:Nat,i<=n/\n<=s.size+1/\c= .int .i64 n/\za (uT s fl ev G nd S B) w x q fl G nd S B G p wr/\fj ⟨s,fl,ev⟩ nd G (s.size+1-n) n=fj ⟨s,fl,ev⟩ nd G (s.size+1-i) i) λc _=>s.size+1- (intOf c).toNat
 case atStart=>exact⟨i,Sw _,by omega,rfl,I5.out,rfl⟩
 case round=>
  obtain⟨n,hin,hns,rfl,I,hfd⟩:=hrel;by_cases hle:n<=s.size
  .have v0:wr.cell? ⟨p,0,none⟩=some (.pointer (some ⟨x,0,none⟩)):=I.box.cell 0;have vE:wr.cell? ⟨x,10,none⟩=some (.bool (bj nd).2):=I.rx.blk.cell 10;have v6:=J1 I.rx.blk;have hd1:decide (n<=s.size)=true:=by simpa using hle
   have hd2:(n:Int)<=(s.size:Int):=by omega
   have hfm:∃f,s.size+1-n=f+1/\s.size+1- (n+1)=f:=⟨s.size-n,by omega,by omega⟩;obtain⟨f,hf1,hf2⟩:=hfm;rw[hf1,fj]at hfd;have hmay:JU ⟨s,fl,ev⟩ nd n=((bj nd).2||decide (n<s.size)&&du co (bj nd).1 (s.get! n).toNat):=by simp[JU,du,co]
   rw[hmay]at hfd;obtain⟨V,hV⟩:∃V,du co (bj nd).1=V:=⟨_,rfl⟩;obtain⟨z,hz⟩:∃z,(bj nd).2=z:=⟨_,rfl⟩;rw[hV]at v6 hfd;rw[hz]at vE hfd;replace I:=AI I;replace hfd:=AI hfd;replace hV:=AI hV;replace hz:=AI hz;replace hf1:=AI hf1;replace hf2:=AI hf2;have hc:=(s.get! n).toNat_lt;obtain⟨c,hcc⟩:∃c,(s.get! n).toNat=c:=⟨_,rfl⟩;rw[hcc]at hfd hc;have hH:=BU V c hc;unfold kL at hH;have vN:wr.cell? ⟨x,0,none⟩=some (.iface (bn nd) (.pointer (some ⟨q,0,none⟩))):=I.out.rx.blk.cell 0;have ha:Hid (z=true)\/Hid (z=false/\n<s.size/\V c=true)\/Hid (z=false/\n<s.size/\V c=false)\/Hid (z=false/\n=s.size):=by
    cases z
    .by_cases h:n=s.size
     .exact .inr (.inr (.inr (AI ⟨rfl,h⟩)))
     .cases hv:V c
      .exact .inr (.inr (.inl (AI ⟨rfl,by omega,rfl⟩)))
      .exact .inr (.inl (AI ⟨rfl,by omega,rfl⟩))
    .exact .inl (AI rfl)
   replace hcc:=AI hcc;obtain⟨v60,v61,v62,v63⟩:=v6;rcases ha with h|h|h|h
   case inr.inr.inr=>
    obtain⟨rfl,rfl⟩:=h.out;go_wp2;go_quiet (fail)
    go_wp2;go_roundw
    case rel=>exact⟨s.size+1,by omega,by omega,by push_cast;rfl,I.out.Hv ((Kq.refl wr).drewN nq) hxB h5 h4.out h3.out,by rw[hf2.out];simpa using hfd.out⟩
    case measure=>first |(simp[intOf];done)|(simp[intOf];omega)
   case inr.inr.inl=>
    obtain⟨rfl,hlt,hv⟩:=h.out;have hd3:decide ((n:Int)=(s.size:Int))=false:=by simp;omega
    have hd4:((n:Int)==(s.size:Int))=false:=by simp;omega
    replace hv:=AI hv;go_wp2;go_still_tail 18,by kernel_rfl
    change wpList _ _ _ _ _ wr.drew;have hcs:s[n].toNat=c:=by
     rw[<- hcc.out,show s.get! n=s[n]from by show s.data[n]! =_;rw[getElem!_pos s.data n hlt];rfl]
    rw[hcs]at *;go_wp2_with (first |(go_at_call 80;refine(hH _).mono ?_;rintro e' u ⟨rfl,k2⟩;replace k2:=AI (show Kq wr.heap.size [] wr u from⟨k2.kp,k2.os,k2.out⟩);rw[hv.out])|fail)
    go_roundw
    case rel=>exact⟨n+1,by omega,by omega,by push_cast;rfl,I.out.Hv k2.out hxB h5 h4.out h3.out,by rw[hf2.out];have:=hfd.out;rw[hv.out]at this;simpa using this⟩
    case measure=>first |(simp[intOf];done)|(simp[intOf];omega)
   case' inl=>
    obtain rfl:=h.out;have h2:=hfd.out;rw[Bool.true_or,if_pos rfl]at h2;replace h2:=AI h2;go_wp2;go_quiet (fail)
    have k2:=AI ((Kq.refl wr).drewN nq:Kq wr.heap.size [] wr (wr.drewN nq));replace v0:=show(wr.drewN nq).cell? ⟨p,0,none⟩=_ from v0;replace vN:=show(wr.drewN nq).cell? ⟨x,0,none⟩=_ from vN;generalize wr.drewN nq=u at *;go_wp2
   case' inr.inl=>
    obtain⟨rfl,hlt,hv⟩:=h.out;have hd3:decide ((n:Int)=(s.size:Int))=false:=by simp;omega
    have hd4:((n:Int)==(s.size:Int))=false:=by simp;omega
    have h2:=hfd.out;rw[hv,decide_eq_true hlt,Bool.false_or,Bool.true_and,if_pos rfl]at h2;replace h2:=AI h2;replace hv:=AI hv;go_wp2;go_still_tail 18,by kernel_rfl
    change wpList _ _ _ _ _ wr.drew;have hcs:s[n].toNat=c:=by
     rw[<- hcc.out,show s.get! n=s[n]from by show s.data[n]! =_;rw[getElem!_pos s.data n hlt];rfl]
    rw[hcs]at *;go_wp2_with (first |(go_at_call 80;refine(hH _).mono ?_;rintro e' u ⟨rfl,k2⟩;replace k2:=AI (show Kq wr.heap.size [] wr u from⟨k2.kp,k2.os,k2.out⟩);rw[hv.out];replace v0:u.cell? ⟨p,0,none⟩=some (.pointer (some ⟨x,0,none⟩)):=(I.out.Hv k2.out hxB h5 h4.out h3.out).box.cell 0;replace vN:u.cell? ⟨x,0,none⟩=some (.iface (bn nd) (.pointer (some ⟨q,0,none⟩))):=(I.out.Hv k2.out hxB h5 h4.out h3.out).rx.blk.cell 0)|fail)
   all_goals
    have IU:=AI (I.out.Hv k2.out hxB h5 h4.out h3.out);obtain⟨L,hL,h8⟩:=IU.out.sp;have hA:=Oo hE hW hG (w:=u) (q:=q) (i:=n) (L:=L) IU.out.mem IU.out.rx.rep hle hL h8;refine hA.mono ?_;rintro e' w7 ⟨hj,h7⟩;replace h7:match df (λ_=>true) (bv ⟨s,fl,ev⟩ nd n) 320 with
     |none=>e'= .returned (.slice none 0 0)/\Kq u.heap.size [B] u w7
     |some j=>e'= .returned (.slice (some ⟨B+1,0,none⟩) (G+1) (G+1))/\a7 w7 (B+1) 54 (dw (dH (((0:Int),n,j)::de ⟨s,fl,ev⟩ nd n j) (Sx (G+1) dM)))/\Kq u.heap.size [B,B+1] u w7:=h7
    have h1:=h2.out;rw[DR]at h1;cases hpk:df (λ_=>true) (bv ⟨s,fl,ev⟩ nd n) 320
    .rw[hpk]at h7 h1;obtain⟨rfl,k7⟩:=h7;have I7:=AI (IU.out.NE k7 (λb hb=>by rw[AS.1 hb];exact Sw _) hxB h5 h4.out h3.out hj ⟨L,hL,h8.kq k7 h8.lt λh=>by have:=AS.1 h;omega⟩);replace h1:=AI h1;go_wp2;go_roundw
     case rel=>exact⟨n+1,by omega,by omega,by push_cast;rfl,I7.out,by rw[hf2.out];exact h1.out⟩
     case measure=>first |(simp[intOf];done)|(simp[intOf];omega)
    .rename_i j;rw[hpk]at h7 h1;obtain⟨rfl,hb7,k7⟩:=h7;have I7:=AI (IU.out.NE k7 λb hb=>by simp only[SJ,Su,or_false]at hb;omega hxB h5 h4.out h3.out hj ⟨_,by rw[oZ];simp,hb7⟩);have hk:=(j4.1 hpk).2.1;have hwn:∀m∈((0:Int),n,j)::de ⟨s,fl,ev⟩ nd n j,0<=m.1:=λm hm=>by
      rcases SJ.1 hm with rfl|hm
      .exact Int.le_refl _
      .obtain⟨hi9,hh9,ht⟩:=hT.w;have:=(walk_in (M:=⟨s,fl,ev⟩) nd ht n j hle hk m hm).1;omega
     rw[Fa hwn]at hb7;replace hb7:=AI hb7;replace h1:=AI h1;go_wp2;go_ret;refine⟨_,rfl,?_,I7.out.rx,I7.out.kq⟩;rw[<- h1.out];exact⟨B+1,by have:=h3.out;omega,rfl,hb7.out⟩
  .obtain rfl:n=s.size+1:=by omega
   have hd1:decide (s.size+1<=s.size)=false:=by simp
   have hd2:¬ ((s.size+1:Nat):Int)<=(s.size:Int):=by omega
   rw[show s.size+1- (s.size+1)=0 from by omega,fj]at hfd;replace I:=AI I;replace hfd:=AI hfd;go_wp2;go_ret;refine⟨_,rfl,?_,I.out.rx,I.out.kq⟩;rw[<- hfd.out];rfl
def iM(w w':Sz)(x q fl:Nat)(G:Nat)(nd:Nd)(S:Nat->Prop):Prop:=kh w' x q fl G nd S true (du co (bj nd).1) (bj nd).2/\Kq w.heap.size [x] w w'
section
variable{h0:Array Obj}{S:Nat->Prop}{nd:Nd}{w:Sz}{x q fl ev G:Nat}{dn:Bool}{T:cS}{e:Bool}{s:ByteArray}
end
end
section
open Go.RowKit
theorem CO{P}(w dT sT ty elem g dLen dCap a sLen sCap sz cur t cs)
 (hu:P.underlying dT=some (.slice elem)) (hs:(P.info? elem).map (·.size)=some sz) (hg:w.heap[g]?=some (.cells cur t (0,0))) (hn:cs.length=Th sLen dLen*sz)
 (h0:∀j v,cs[j]?=some v->w.cell? (a.add j)=some v) (h2:cs.length<=cur.size) (h1:∀v∈cs,v.oneCell'=true):
 (Tj #[dT,sT] ty #[.slice (some ⟨g,0,none⟩) dLen dCap,.slice (some a) sLen sCap]).run P w= .ok (goInt (Th sLen dLen)) (w.setRow g (cs++cur.toList.drop cs.length).toArray):=by
 have hl:=run_loadCells_list (P:=P) w a cs h0;have hst:=run_storeCells_at P g 0 t cs 0 cur w hg (by simpa using h2) h1;cases hq:P.info? elem with
 |none=>simp[hq]at hs
 |some i=>
  simp_all[Tj,run_underlying,Builtin.lenOf,Builtin.firstCells,sizeOf,typeInfo]
theorem LJ(a b):eY (a++b)=eY a++eY b:=by simp[eY]
theorem Aa:∀L n,eY (L.take n)=(eY L).take (n*2)
 |[],n=>by simp[eY]
 |p::L,0=>by simp[eY]
 |p::L,n+1=>by
  have:=Aa L n;rw[show(n+1)*2=n*2+1+1 from by omega];show T9 .i64 p.1::T9 .i64 p.2::eY (L.take n)=List.take (n*2+1+1) (T9 .i64 p.1::T9 .i64 p.2::eY L);rw[SZ,SZ,this]
theorem Ab:∀L n,eY (L.drop n)=(eY L).drop (n*2)
 |[],n=>by simp[eY]
 |p::L,0=>by simp[eY]
 |p::L,n+1=>by
  have:=Ab L n;rw[show(n+1)*2=n*2+1+1 from by omega];show eY (L.drop n)=List.drop (n*2+1+1) (T9 .i64 p.1::T9 .i64 p.2::eY L);rw[T0,T0,this]
def jV(n:Nat)(L:Sp):Sp:=L.take n++Sx (n-L.length) dM
theorem FG{w g gs G n L}(hL:L.length=G+1)(hg:a7 w g 54 (dw (Sx n dM)))(hs:a7 w gs 54 (dw L))(ty):
 (Tj #[48,48] ty #[.slice (some ⟨g,0,none⟩) n n,.slice (some ⟨gs,0,none⟩) (G+1) (G+1)]).run PM w= .ok (goInt (Th (G+1) n)) (w.setRow g (dw (jV n L))):=by
 have hi:(PM.info? 54).map (·.size)=some 2:=by
  have:=uJ;rw[T5]at this;grind
 have hlen:(eY (L.take n)).length=Th (G+1) n*2:=by
  rw[Dw,Tq,hL,Nat.mul_comm,Nat.min_comm]
 have h:=CO (P:=PM) w 48 48 ty 54 g n n ⟨gs,0,none⟩ (G+1) (G+1) 2 (dw (Sx n dM)) 54 (eY (L.take n)) ((congrFun (aK ..) _).trans Tryz.underlying48) hi hg hlen
  (λj v hv=>by
   rw[Aa]at hv;have hv2:(eY L)[j]?=some v:=by
    grind
   have e:(⟨gs,0,none⟩:Addr).add j=⟨gs,j,none⟩:=by simp_all[Addr.add]
   rw[e,hs.cell j];simp_all[T6,dw])
  (by grind [SG,Dw,List.length_replicate,dw])
  (λv hv=>by
   unfold eY at hv;rw[List.mem_flatMap]at hv;obtain⟨p,_,hp⟩:=hv;simp only[SJ,Su,or_false]at hp;rcases hp with rfl|rfl<;>rfl)
 have e:(eY (L.take n)++(dw (Sx n dM)).toList.drop (eY (L.take n)).length).toArray=dw (jV n L):=by
  rw[hlen];unfold dw jV;rw[List.toList_toArray,<- Ab,List.drop_replicate,<- LJ,hL];have:n-Th (G+1) n=n- (G+1):=by
   have:Th (G+1) n=min (G+1) n:=rfl;omega
  rw[this]
 rw[h,e]
theorem sO{M nd G}:∀f i{L},fj M nd G f i=some L->L.length=G+1
 |0,_,_,h=>by cases h
 |f+1,i,L,h=>by
  rw[fj]at h;split at h
  .cases ha:DR M nd G i with
   |none=>rw[ha]at h;exact sO f _ h
   |some l=>
    rw[ha]at h;unfold DR at ha;grind
  .exact sO f _ h
end
section
open Go.RowKit Go.Conc
attribute [local instance] fI
theorem iM.eqv{w a b x q fl G nd S}(h:iM w a x q fl G nd S)(k:Kq a.heap.size [] a b)(hlo:w.heap.size<=a.heap.size):iM w b x q fl G nd S:=⟨h.1.kq k,h.2.trans (k.mono hlo nofun)⟩
theorem iM.far{w a b x q fl G g nd S}(h:iM w a x q fl G nd S)(k:Kq a.heap.size [g] a b)(hlo:w.heap.size<=g)(hx:x<g)(hS:∀b,S b->b<g):iM w b x q fl G nd S:=by
 have no:∀b,b<g->b∉[g]:=λb hb hm=>by have:=AS.1 hm;omega
 exact⟨⟨h.1.blk.kq k h.1.blk.lt (no _ hx),h.1.rep.keep λb hb hlt=>k.kp.2 b hlt (no _ (hS b hb)),λb hb=>⟨SI (h.1.low b hb).1 k.kp.1,(h.1.low b hb).2⟩,h.1.had⟩,
  h.2.trans (k.mono h.2.kp.1 λb hb hlt=>by have:=AS.1 hb;omega)⟩
def xl(w':Sz)(lo:Nat)(n:Nat)(v:T4):Option (List (Int×Int))->Prop
 |none=>v= .slice none 0 0
 |some L=>∃g,lo<=g/\v= .slice (some ⟨g,0,none⟩) n n/\a7 w' g 54 (dw (jV n L))
theorem Ht(w g cs):Kq w.heap.size [g] w (w.setRow g cs):=⟨⟨by simp,λb hb hx=>by
 unfold World.setRow;grind⟩,rfl,rfl⟩
theorem tJ(a l c u):(binOp .eql 48 (.slice a l c) (.slice none 0 0)).run PH u= .ok (.bool a.isNone) u:=by
 have h:=run_equal_slice_nil (P:=PH) u 48 54 a l c ((congrFun (aK ..) _).trans Tryz.underlying48);rw[binOp.eq_def];simp_all
section
variable{h0:Array Obj}{S:Nat->Prop}{nd:Nd}{w:Sz}{x q fl ev G n:Nat}{dn:Bool}{T:cS}{e:Bool}{s:ByteArray}
theorem Js(hx:kh w x q fl G nd S dn T e)(hT:je nd G)(hs:s.size<=300)(hfl:fl<256)(hev:ev<256)(hn1:1<=n)(hn2:n<=20):
 cb (br ek h0) 34 #[.pointer (some ⟨x,0,none⟩),.string s,.int .u8 ev,.int .i64 n] w λe' w'=>∃v,e'= .returned (.tuple #[v,.nilIface])/\xl w' w.heap.size n v (fj ⟨s,fl,ev⟩ nd G (s.size+1) 0)/\iM w w' x q fl G nd S:=by
 refine bu (bP (by decide)) (λw' ⟨v,h,_⟩=>nomatch h) (PH.func Tryz.func34 (by decide)) rfl ?_;simp only[Tryz.ntmps34,SG,SL,SO,SU,SS,SE,SD,SK,SF,SN,SM];have hd1:decide (300<s.size)=false:=by simpa using hs
 have hd2:¬ (300:Int)<(s.size:Int):=by omega
 have hd3:decide ((n:Int)<1)=false:=by simp;omega
 have hd4:decide ((20:Int)<(n:Int))=false:=by simp;omega
 have hd5:¬ (n:Int)<1:=by omega
 have hd6:¬ (20:Int)<(n:Int):=by omega
 refine ac λK hK=> ?_
 refine bm λw1 e1=> ?_
 replace e1:=AI e1;replace hx:=AI hx;go_wp2;refine hK.out _ _ ?_;refine ac λK hK=> ?_
 refine bm λw2 e2=> ?_
 replace e2:=AI (e2.trans e1.out);go_wp2;refine hK.out _ _ ?_;refine ac λK hK=> ?_
 refine ao ?_;show aV _ _ _ (SC 0 (3+2)) _ _;refine bq 0 3 2 (λN hN w3 e3=> ?_) (by decide);simp only[zq1];replace e3:=AI (e3.trans e2.out);go_wp2;refine hN.out _ _ ?_;have hx3:=hx.out.kq e3.out.kq;have hh:w3.heap.size=w.heap.size:=by rw[e3.out.heap]
 refine f9 (f:=50) (i:=3) (rest:=SC 4 (1+0)) rfl rfl λu=>by simp[go_sem] (bP (by decide)) (HZ (i:=0) (ev:=ev) (s:=s) hx3 hT hs hfl hev (T8 _)) (λv w4 hr=> ?_) λch w4 hr=>by obtain⟨_,h,_⟩:=hr;cases h
 obtain⟨v',hv,hf,hx4,k4⟩:=hr;cases hv;have hS:iM w w4 x q fl G nd S:=⟨hx4,e3.out.kq.trans (k4.mono (by rw[hh];exact Sw _) λ_ h _=>h)⟩;rw[hh,Nat.sub_zero]at hf;have h6:=hS.2.kp.1;replace hS:=AI hS;replace h6:=AI h6;simp only[SR,SQ,SP];simp only[Sv,zq0];refine bq 4 1 0 (λN hN w5 e5=> ?_) (by decide);simp only[zq1];have hS5:=hS.out.eqv e5.kq h6.out;have h3:w.heap.size<=w5.heap.size:=hS5.2.kp.1;have hl:∀{b:Nat}{t cs},a7 w4 b t cs->a7 w5 b t cs:=λh=>h.kq (e5.kq (B:=w4.heap.size) (X:=[])) h.lt Su
 replace hS5:=AI hS5;replace h3:=AI h3;cases hm:fj ⟨s,fl,ev⟩ nd G (s.size+1) 0 with
 |none=>
  rw[hm]at hf;obtain rfl:=hf;replace hm:=AI hm;go_wp2;refine hN.out _ _ (az (hK.out _ _ ?_));refine bm λw6 e6=> ?_
  have h5:=AI (hS5.out.eqv e6.kq h3.out);have hq:=tJ none 0 0;go_wp2;go_ret2
  exact⟨_,rfl,by rw[hm.out];rfl,h5.out⟩
 |some L=>
  rw[hm]at hf;obtain⟨gs,hj,rfl,hn⟩:=hf;have hL:=sO _ _ hm;have hk:=AI (hl hn);replace hm:=AI hm;replace hj:=AI hj;replace hL:=AI hL;go_wp2;refine hN.out _ _ (az (hK.out _ _ ?_));refine bm λw6 e6=> ?_
  have h5:=AI (hS5.out.eqv e6.kq h3.out);have h9:=AI (hk.out.kq (e6.kq (B:=w5.heap.size) (X:=[])) hk.out.lt Su);have h4:=AI (SW h3.out (by rw[e6.heap];exact Sw _:w5.heap.size<=w6.heap.size));obtain⟨i,hi,hsz,hz,hb⟩:∃i,PM.info? 54=some i/\i.size=2/\i.zero=some (.agg #[.int .i64 0,.int .i64 0])/\i.bytes=16:=by
   have:=uJ;rw[T5]at this;obtain⟨i,h1,h2⟩:=this;simp only[Prod.mk.injEq]at h2;exact⟨i,h1,h2.1,h2.2.1,h2.2.2⟩
  have ho:=run_make (P:=PH) w6 48 54 i _ ((congrFun (aK ..) _).trans Tryz.underlying48) hi hz .i64 .i64 (n:Int) (n:Int) (by omega) (by omega) (by rw[hb];omega) (by omega);rw[Int.toNat_natCast,hsz,show(Value.agg #[.int .i64 0,.int .i64 0]).cells=#[.int .i64 0,.int .i64 0]from rfl,DO]at ho;have h7:=a7.new w6 54 (dw (Sx n (0,0)));have kg:Kq w6.heap.size [] w6 (w6.alloc (.cells (dw (Sx n (0,0))) 54)):=(Kq.refl w6).alloc (Sw _) _;have hp:=AI (h5.out.eqv kg h4.out);have hb7:=AI (h9.out.kq kg h9.out.lt Su);have h8:gs<w6.heap.size:=h9.out.lt;replace h7:=AI h7;replace kg:=AI kg;replace h8:=AI h8;have ha:=AI λb(hb:S b)=>(h5.out.1.low b hb).1
  have hd:=AI h5.out.1.blk.lt;have hq:=tJ (some ⟨gs,0,none⟩) (G+1) (G+1);go_wp2;obtain⟨g,ht⟩:∃g,w6.heap.size=g:=⟨_,rfl⟩;rw[ht]at h7 h8 ha hd h4 ⊢;generalize w6.alloc (.cells (dw (Sx n (0,0))) 54)=w7 at *;go_loopw [36] (λc wr=>∃k:Nat,k<=n/\c= .int .i64 k/\a7 wr g 54 (dw (Sx k dM++(Sx n (0,0)).drop k))/\iM w wr x q fl G nd S/\a7 wr gs 54 (dw L)) λc _=>n- (intOf c).toNat
  case atStart=>exact⟨0,T8 _,rfl,by simpa using h7.out,hp.out,hb7.out⟩
  case round=>
   obtain⟨k,hkn,rfl,hB,hS,he⟩:=hrel;by_cases hlt:k<n
   .have hlen:k<(Sx k dM++(Sx n (0,0)).drop k).length:=by simp;omega
    obtain⟨s0,s1⟩:=qm hB hlen;have hset:=vK (n:=k) (u:=dM) hB;rw[xM (by simpa using hlt)]at hset;have fz:∀j,wr.frozen? ⟨g,j,none⟩=false:=hB.frozen;have kB:Kq wr.heap.size [g] wr ((wr.setCell ⟨g,k*2,none⟩ (.int .i64 (-1))).setCell ⟨g,k*2+1,none⟩ (.int .i64 (-1))):=((Kq.refl wr).setCell (p:=⟨g,k*2,none⟩) (λ_=>AS.2 rfl) _).setCell (p:=⟨g,k*2+1,none⟩) (λ_=>AS.2 rfl) _;have hg:=hS.far kB (SW h4.out (Sw _)) hd.out ha.out;have hw:=he.kq kB he.lt λh=>by have:=AS.1 h;have:=h8.out;omega
    have A2:=AI (⟨hset,hg,hw⟩:a7 _ g 54 _/\iM w _ x q fl G nd S/\a7 _ gs 54 _);go_wp2;go_roundw
    case rel=>exact⟨k+1,by omega,by push_cast;rfl,A2.out⟩
    case measure=>first |(simp[intOf];done)|(simp[intOf];omega)
   .obtain rfl:k=n:=by omega
    rw[Tg (by simp),Tt]at hB;have hcp:=FG hL.out hB he 3;have kc:=Ht wr g (dw (jV k L));have hc:a7 (wr.setRow g (dw (jV k L))) g 54 (dw (jV k L)):=setRow_heap wr g _ _ 54 (0,0) hB;have hg:=AI (hS.far kc h4.out hd.out ha.out);replace hc:=AI hc;go_wp2;go_ret2
    exact⟨_,rfl,by rw[hm.out];exact⟨g,h4.out,rfl,hc.out⟩,hg.out⟩
end
theorem xl.kq{a b lo n v m}(h:xl a lo n v m)(k:Kq a.heap.size [] a b):xl b lo n v m:=by
 cases m with
 |none=>exact h
 |some L=>obtain⟨g,h1,h2,h3⟩:=h;exact⟨g,h1,h2,h3.kq k h3.lt Su⟩
theorem LV{w' n0 x fl nd}{g:Int}{G:Nat}{nv}{tl:FV}(hg:g=G)(hb:w'.heap[x]?=some (.cells (#[nv,.int .i64 g,.int .u8 fl]++tl.1) 103 (0,0)))(hR:Repr w' (λb=>n0<=b/\b≠x) nv nd):
 ∃q,kh w' x q fl G nd (λb=>n0<=b/\b≠x/\b<w'.heap.size) false co false:=by
 obtain⟨q,rfl⟩:=ed hR;refine⟨q,?_,hR.mono (S':=λb=>n0<=b/\b≠x/\b<w'.heap.size) λb hb hlt=>⟨hb.1,hb.2,hlt⟩,λb hb=>⟨hb.2.2,hb.2.1⟩,λh=>nomatch h⟩;obtain⟨t,rfl⟩:=tl;subst hg;have:mU (.iface (bn nd) (.pointer (some ⟨q,0,none⟩))) G fl (if false then 1 else 0) 0 co false=#[.iface (bn nd) (.pointer (some ⟨q,0,none⟩)),.int .i64 G,.int .u8 fl]++ #[.int .u32 0,.int .i32 0,.int .u32 0,.int .u64 0,.int .u64 0,.int .u64 0,.int .u64 0,.bool false]:=by
  simp[mU,qd]
 rw[this];exact hb
section
variable{h0:Array Obj}{S:Nat->Prop}{nd:Nd}{w:Sz}{x q fl ev G n:Nat}{dn:Bool}{T:cS}{e:Bool}{s:ByteArray}
theorem JA(hx:kh w x q fl G nd S dn T e)(hT:je nd G)(hs:s.size<=300)(hfl:fl<256)(hev:ev<256)(hn1:1<=n)(h7:n<=20):
 cb (br ek h0) 23 #[.pointer (some ⟨x,0,none⟩),.string s,.int .u8 ev,.int .i64 n] w λe' w'=>∃v,e'= .returned (.tuple #[v,.int .i64 0])/\xl w' w.heap.size n v (fj ⟨s,fl,ev⟩ nd G (s.size+1) 0)/\iM w w' x q fl G nd S:=by
 refine bu (bP (by decide)) (λw' h=>by obtain⟨_,h,_⟩:=h;cases h) (PH.func Tryz.func23 (by decide)) rfl ?_;simp only[Tryz.ntmps23,SG,SL,SO,SU,SS,SE,SD,SK,SF,SN,SM];refine ac λK hK=> ?_
 refine bm λw1 e1=> ?_
 replace e1:=AI e1;replace hx:=AI hx;go_wp2;refine hK.out _ _ ?_;refine ac λK hK=> ?_
 refine ao ?_;show aV _ _ _ (SC 0 (4+6)) _ _;refine bq 0 4 6 (λN hN w3 e3=> ?_) (by decide);simp only[zq1];replace e3:=AI (e3.trans e1.out);go_wp2;refine hN.out _ _ ?_;have hx3:=hx.out.kq e3.out.kq;have h2:w3.heap.size=w.heap.size:=by rw[e3.out.heap]
 refine f9 (f:=34) (i:=4) (rest:=SC 5 (5+0)) rfl rfl λu=>by simp[go_sem] (bP (by decide)) (Js (ev:=ev) (s:=s) (n:=n) hx3 hT hs hfl hev hn1 h7) (λv w4 hr=> ?_) λch w4 hr=>by obtain⟨_,h,_⟩:=hr;cases h
 obtain⟨v',hv,hf,hx4⟩:=hr;cases hv;rw[h2]at hf;replace hf:=AI hf;have hS:iM w w4 x q fl G nd S:=⟨hx4.1,e3.out.kq.trans (hx4.2.mono (by rw[h2];exact Sw _) λ_ h _=>h)⟩;have h1:=hS.2.kp.1;replace hS:=AI hS;replace h1:=AI h1;simp only[SR,SQ,SP];simp only[Sv,zq0];refine bq 5 5 0 (λN hN w5 e5=> ?_) (by decide);simp only[zq1];have hS5:=AI (hS.out.eqv e5.kq h1.out);have h5:=AI hS5.out.2.kp.1;have h8:=AI (e5.kq:Kq w4.heap.size [] w4 w5);go_wp2;refine hN.out _ _ (az (hK.out _ _ ?_));refine bm λw6 e6=> ?_
 have h3:=AI (hS5.out.eqv e6.kq h5.out);have h4:=AI (h8.out.trans e6.kq:Kq w4.heap.size [] w4 w6);have h6:=AI h3.out.2.kp.1;have hL:=uF w6;go_wp2;refine hL.mono ?_;rintro e' w7 ⟨rfl,b7⟩;have k7:Kq w6.heap.size [] w6 w7:=⟨⟨b7.size,λb hb _=>b7.block b hb⟩,b7.os,b7.output⟩;have h9:=AI (h3.out.eqv k7 h6.out);have ha:=AI (h4.out.trans (k7.mono h4.out.kp.1 nofun):Kq w4.heap.size [] w4 w7);go_wp2;go_ret2
 exact⟨_,rfl,hf.out.kq ha.out,h9.out⟩
end
end
section
def Ob(x:mP):Prop:=∀w,x.wr=some w->0<w.1
theorem tz(ln fold l nt at_):∀f first S p x,jk ln fold l nt at_ f first S p=some x->Ob x
 |0,_,_,_,_,h=>by cases h
 |f+1,first,S,p,x,h=>by
  unfold jk at h;split at h
  .cases h;intro w hw;cases hw;simp
  .split at h
   .cases h;intro w hw;cases hw
   split at h
   .split at h
    .cases h;intro w hw;cases hw;simp
    .exact tz ln fold l nt at_ f _ _ _ _ h
   split at h
   .split at h
    .cases h;intro w hw;cases hw;simp
    .exact tz ln fold l nt at_ f _ _ _ _ h
   .exact tz ln fold l nt at_ f _ _ _ _ h
theorem G6(c p rest):Ob (dS c p rest):=by
 intro w hw;unfold dS at hw;grind
theorem Dq{ln fold l p x}(hx:eB ln fold l p=some x):Ob x:=by
 unfold eB at hx;split at hx
 .cases hx;intro w hw;cases hw
 .split at hx
  .cases hx;intro w hw;cases hw
  split at hx
  .cases hx;exact G6 _ _ _
  split at hx
  .exact tz _ _ _ _ _ _ _ _ _ _ hx
  split at hx
  .cases hx;intro w hw;cases hw
  split at hx
  .split at hx
   .cases hx;intro w hw;cases hw;simp
   split at hx
   .cases hx;intro w hw;cases hw;simp
   split at hx
   .cases hx;intro w hw;cases hw;simp
   .cases hx;intro w hw;cases hw
  .cases hx;intro w hw;cases hw
def KE:Option (g8 Nd)->Prop
 |some (.err k _)=>0<k
 |_=>True
theorem tH{x f}(hx:KE x)(hf:∀a s,KE (f a s)):KE (mb x f):=by
 cases x with
 |none=>trivial
 |some r=>cases r with
  |ok a s=>exact hf a s
  |err k a=>exact hx
section
variable{ln fold:Bool}{l:List UInt8}
theorem NH(f):(∀d s,KE (qY ln fold l f d s))/\(∀d id ks s,KE (lV ln fold l f d id ks s))/\(∀d s,KE (sL ln fold l f d s))/\(∀d id ks s,KE (lU ln fold l f d id ks s))/\(∀d s,KE (oe ln fold l f d s))/\(∀k s,KE (iC ln fold l f k s))/\(∀d s,KE (oU ln fold l f d s))/\∀d s,KE (og ln fold l f d s):=by
 induction f with
 |zero=>exact⟨λ_ _=>trivial,λ_ _ _ _=>trivial,λ_ _=>trivial,λ_ _ _ _=>trivial,λ_ _=>trivial,λ_ _=>trivial,λ_ _=>trivial,λ_ _=>trivial⟩
 |succ f ih=>
  obtain⟨i1,i2,i3,i4,i5,i6,i7,i8⟩:=ih;refine⟨λd s=>i2 _ _ _ _,λd id ks s=>tH (i3 d s) λk s=> ?_,λd s=>i4 _ _ _ _,λd id ks s=> ?_,λd s=>tH (i7 d s) λk s=>i6 k s,λk s=> ?_,λd s=> ?_,λd s=> ?_⟩
  .split
   .trivial
   .split
    .exact i2 _ _ _ _
    .trivial
  .unfold lU;split
   .trivial
   .split
    .split
     .exact(by decide:(0:Int)<11)
     split
     .exact(by decide:(0:Int)<9)
     .trivial
    .split
     .exact(by decide:(0:Int)<8)
     .exact tH (i5 d s) λk s=>i4 _ _ _ _
  .unfold iC;split
   .trivial
   .next x hx=>
    split
    .split
     .next w hw=>exact Dq hx _ hw
     grind
    .trivial
  .unfold oU;split
   .trivial
   .next x hx=>
    split
    .next w hw=>exact Dq hx _ hw
    .split
     .exact i8 d s
     split
     .trivial
     split
     .trivial
     .trivial
  .unfold og;split
   .trivial
   .split
    .exact(by decide:(0:Int)<12)
    .refine tH (i1 _ _) λk s=> ?_
     split
     .trivial
     .split
      .trivial
      .exact(by decide:(0:Int)<10)
end
theorem Kn{ln fold l k a}(h:xP ln fold l=some (.err k a)):0<k:=by
 have:=(NH (ln:=ln) (fold:=fold) (l:=l) (deep+8)).1 0 ⟨0,0,0⟩;unfold xP at h;rw[h]at this;exact this
end
section
open Go.RowKit Go.Conc
attribute [local instance] fI
theorem HS{s fl k a}(h:gK s fl=some (.err k a)):0<k:=by
 unfold gK at h;split at h
 .grind
 .exact Kn h
def KT(n0:Nat)(w':Sz)(fl:Nat)(r:Option (g8 Nd))(v:T4):Prop:=match r with
 |some (.ok nd σ)=>∃x nv,∃tl:FV,v= .tuple #[vp x,.bool true]/\n0<=x/\w'.heap[x]?=some (.cells (#[nv,.int .i64 σ.g,.int .u8 fl]++tl.1) 103 (0,0))/\Repr w' (λb=>n0<=b/\b≠x) nv nd
 |some (.err k a)=>v= .tuple #[.pointer none,.bool true]
 |none=>False
class tK(I:Sz->Prop):Prop where
 old:∀{a b:Sz},Old a b->I a->I b
instance{I J}[hI:tK I][hJ:tK J]:tK λw=>I w/\J w:=⟨λh k=>⟨hI.old h k.1,hJ.old h k.2⟩⟩
instance{A}:tK λ_=>A:=⟨λ_ k=>k⟩
instance{w0}:tK (Old w0):=⟨λh k=>k.trans h⟩
instance:tK fx:=⟨λh k=>k.ea h⟩
instance:tK gI:=⟨λh k=>k.ea h⟩
instance{h0}:tK (Under h0):=⟨λh k=>k.ea h⟩
theorem Old.kq{a b}(h:Old a b){X}:Kq a.heap.size X a b:=⟨⟨h.size,λi hi _=>h.old i hi⟩,h.os,h.out⟩
instance{g t cs}:tK λw=>a7 w g t cs:=⟨λh k=>k.kq (h.kq (X:=[])) k.lt Su⟩
structure nc(w:Sz)(lo hi x fl G:Nat)(nd:Nd):Prop where
 lw:lo<=x
 up:x<hi
 sz:hi<=w.heap.size
 tree:je nd G
 rx:∃q dn T e,kh w x q fl G nd (λb=>lo<=b/\b≠x/\b<hi) dn T e
instance{lo hi x fl G nd}:tK λw=>nc w lo hi x fl G nd:=⟨λh k=>by
 obtain⟨q,dn,T,e,h1⟩:=k.rx;exact⟨k.lw,k.up,SW k.sz h.size,k.tree,q,dn,T,e,h1.kq h.kq⟩⟩
theorem nc.far{w w' lo hi x y fl G nd}(k:nc w lo hi x fl G nd)(h:Kq w.heap.size [y] w w')(hy:y<lo\/hi<=y):nc w' lo hi x fl G nd:=by
 obtain⟨q,dn,T,e,h1⟩:=k.rx;refine⟨k.lw,k.up,SW k.sz h.kp.1,k.tree,q,dn,T,e,h1.blk.kq h h1.blk.lt λe=>by have:=AS.1 e;have:=k.lw;have:=k.up;omega,h1.rep.keep λb hb hlt=>h.kp.2 b hlt λe=> ?_,λb hb=>⟨SI (h1.low b hb).1 h.kp.1,(h1.low b hb).2⟩,h1.had⟩;have:=AS.1 e;omega
theorem nc.T1{w w' lo hi x fl G q nd}(k:nc w lo hi x fl G nd)(h:iM w w' x q fl G nd λb=>lo<=b/\b≠x/\b<hi):nc w' lo hi x fl G nd:=
 ⟨k.lw,k.up,SW k.sz h.2.kp.1,k.tree,_,_,_,_,h.1⟩
theorem Old.far{a b c}(h:Old a b){x}(k:Kq b.heap.size [x] b c)(hx:a.heap.size<=x):Old a c:=
 ⟨λi hi=>(k.kp.2 i (SI hi h.size) λe=>by have:=AS.1 e;omega).trans (h.old i hi),SW h.size k.kp.1,k.os.trans h.os,k.out.trans h.out⟩
def OnW(I:Sz->Prop)(w:Sz):Prop:=I w
theorem OnW.mk{I w}(h:I w):OnW I w:=h
theorem OnW.out{I w}(h:OnW I w):I w:=h
theorem OnW.old{I a b}(H:OnW I a)[hI:tK I](h:Old a b):OnW I b:=hI.old h H
theorem OnW.also{I w}(J:Sz->Prop)(H:OnW I w)(h:J w):OnW (λu=>I u/\J u) w:=⟨H,h⟩
section
variable{P:Program}{D:dZ P}{c:Code}{Q:Exit->Act->Sz->Prop}{a:Act}{w:Sz}{I:Sz->Prop}
theorem e8[hI:tK I](h:∀w1,OnW I w1->c.wp P Q a w1)(H:OnW I w):cL D c Q a w:=bm λw1 e=>h w1 (H.old e.old)
theorem g5[hI:tK I]{l:List Oper}(s n m)(h:∀N,Hid (∀a' w',aV D l.toArray Q (SC (s+n) m) a' w'->N a' w')->∀w1,OnW I w1->wpList P l.toArray (Exit.then N Q) ((l.drop s).take n) a w1)(hl:s+n<=l.length)(H:OnW I w):
 aV D l.toArray Q (SC s (n+m)) a w:=bq s n m (λN hN w1 e=>h N hN w1 (H.old e.old)) hl
end
theorem FJ{s fl nd σ}(h:gK s fl=some (.ok nd σ)):je nd σ.g:=by
 unfold gK at h;split at h
 .cases h
 .exact N9 (by rw[show s.data.toList.length=s.size from by simp];omega) h
theorem J2{w' lo x fl nd}{g:Int}{G:Nat}{nv}{tl:FV}(hg:g=G)(hT:je nd g)(hx:lo<=x)(hb:w'.heap[x]?=some (.cells (#[nv,.int .i64 g,.int .u8 fl]++tl.1) 103 (0,0)))(hR:Repr w' (λb=>lo<=b/\b≠x) nv nd):
 nc w' lo w'.heap.size x fl G nd:=by
 obtain⟨q,h⟩:=LV hg hb hR;exact⟨hx,(SX.1 hb).1,Sw _,hg▸hT,q,_,_,_,h⟩
theorem KT.at{n0 w' fl s v}(h:KT n0 w' fl (gK s fl) v):
 (v= .tuple #[.pointer none,.bool true]/\∃k a,gK s fl=some (.err k a))\/∃x nd σ G,v= .tuple #[vp x,.bool true]/\gK s fl=some (.ok nd σ)/\σ.g=((G:Nat):Int)/\nc w' n0 w'.heap.size x fl G nd:=by
 cases hr:gK s fl with
 |none=>rw[hr]at h;exact h.elim
 |some r=>
  rw[hr]at h;cases r with
  |err k a=>exact .inl ⟨h,k,a,rfl⟩
  |ok nd σ=>
   obtain⟨x,nv,tl,rfl,hx,hb,hR⟩:=h;have hT:=FJ hr;have hg:σ.g=σ.g.toNat:=by have:=hT.g0;omega
   exact .inr ⟨x,nd,σ,σ.g.toNat,rfl,rfl,hg,J2 hg hT hx hb hR⟩
end
def nu:List (List UInt8×List UInt8×List Int):=[
 ([97,43],[98,97,97,99],[1,3]),
 ([97,124,97,98,124,97,98,99],[120,97,98,99,100],[1,4]),
 ([40,97,124,97,98,41,40,99,124,98,99,100,41,40,100,42,41],[97,98,99,100],[0,4,0,2,2,3,3,4]),
 ([40,97,42,41,40,97,98,41,42,40,98,42,41],[97,98,98],[0,3,0,1,-1,-1,1,3]),
 ([40,97,42,41,42],[98],[0,0,-1,-1]),
 ([40,97,42,41,43],[98],[0,0,0,0]),
 ([40,97,124,98,41,42],[97,98,98,97],[0,4,3,4]),
 ([40,40,97,41,124,98,41,42],[97,98],[0,2,1,2,0,1]),
 ([40,97,123,48,44,49,125,41,123,51,125],[97,97],[0,2,2,2]),
 ([120,42,124,121],[121],[0,1]),
 ([94,36],[],[0,0]),
 ([91,93,97,45,93,43],[98,93,97,45,99],[1,4]),
 ([91,91,58,100,105,103,105,116,58,93,93,123,50,44,51,125],[97,49,50,51,52],[1,4]),
 ([97,98,99],[97,98],[]),
 ([],[97],[]),
 ([46],[],[]),
 ([40,97,41,40,98,41,63],[97,99],[0,1,0,1,-1,-1]),
 ([40,97,63,41,40,97,98,41,63],[97,98],[0,2,0,0,0,2]),
 ([40,97,97,124,97,41,40,97,124,97,97,41],[97,97,97],[0,3,0,2,2,3]),
 ([40,97,124,97,98,124,99,124,98,99,100,41,42],[97,98,99,100],[0,4,1,4]),
 ([40,97,124,97,98,124,99,124,98,99,100,41,40,100,42,41],[97,98,99,100],[0,2,0,2,2,2]),
 ([40,46,46,41,42,40,46,46,46,41,42],[97,98,99,100,101],[0,5,0,2,2,5]),
 ([40,119,101,101,124,119,101,101,107,41,40,107,110,105,103,104,116,115,124,110,105,103,104,116,41],[119,101,101,107,110,105,103,104,116,115],[0,10,0,3,3,10]),
 ([97,123,50,44,51,125,123,50,125],[97,97,97,97,97,97,97],[0,6]),
 ([40,97,42,41,123,50,125,40,120,41],[97,120],[0,2,1,1,1,2]),
 ([40,94,124,98,41,97],[98,97],[0,2,0,1]),
 ([97,40,98,124,36,41],[97],[0,1,1,1]),
 ([91,94,97,93],[97,98],[1,2]),
 ([92,46,91,46,93],[97,46,46],[1,3]),
 ([97,124,98,124],[99],[]),
 ([40,40,97,41,42,41,42],[97,97],[0,2,0,2,1,2]),
 ([40,40,41,124,46,41],[97],[]),
 ([40,97,124,98,41,63,40,98,41,63],[98],[0,1,0,1,-1,-1])]
def xY(p:List UInt8):Bool:=p==[]||p==[97,124,98,124]||p==[40,40,41,124,46,41]
def Je(x:List UInt8×List UInt8×List Int):Bool:=decide (x.1.length<=120)&&decide (x.2.1.length<=300)&&decide (x.2.2.length<=8)&&decide (x.2.2.length%2=0)
def R8(x:List UInt8×List UInt8×List Int):Bool:=Je x&&match xP false false x.1 with
 |some (.ok nd σ)=> !xY x.1&& (match fj ⟨⟨x.2.1.toArray⟩,0,0⟩ nd σ.g.toNat (x.2.1.length+1) 0 with
  |some l=>decide (((l.take (x.2.2.length/2)).flatMap λp=>[p.1,p.2])=x.2.2)&&decide (x.2.2≠[])&&decide (x.2.2.length/2<=l.length)
  |none=>decide (x.2.2=[]))
 |some (.err k a)=>xY x.1&&decide (k=9)
 |none=>false
theorem R7:nu.all R8=true:=by decide+kernel
theorem R6{p t s}{k:Nat}(h:nu[k]?=some (p,t,s)):(p.length<=120/\t.length<=300/\s.length<=8/\s.length%2=0)/\
 ((∃a,xP false false p=some (.err 9 a)/\xY p=true)\/∃nd σ,xP false false p=some (.ok nd σ)/\xY p=false/\
  (fj ⟨⟨t.toArray⟩,0,0⟩ nd σ.g.toNat (t.length+1) 0=none/\s=[]\/∃l,fj ⟨⟨t.toArray⟩,0,0⟩ nd σ.g.toNat (t.length+1) 0=some l/\((l.take (s.length/2)).flatMap λp=>[p.1,p.2])=s/\s≠[]/\s.length/2<=l.length)):=by
 have h1:=List.all_eq_true.1 R7 _ (List.mem_of_getElem? h);simp[R8]at h1;obtain⟨h2,h3⟩:=h1;unfold Je at h2;grind
section
open Go.RowKit Go.Conc
attribute [local instance] fI
abbrev KI:=List UInt8×List UInt8×List Int
def AR:List KI->Nat->List T4
 |[],_=>[]
 |(p,t,[])::l,n=>.string ⟨p.toArray⟩:: .string ⟨t.toArray⟩:: .slice none 0 0::AR l n
 |(p,t,a::s)::l,n=>.string ⟨p.toArray⟩:: .string ⟨t.toArray⟩:: .slice (some ⟨n,0,none⟩) (s.length+1) (s.length+1)::AR l (n+1)
def Ek:List KI->Sz->Sz
 |[],w=>w
 |(_,_,[])::l,w=>Ek l w
 |(_,_,a::s)::l,w=>Ek l (w.alloc (.cells ((a::s).map (.int .i64)).toArray 3))
def zR(u:Sz)(lo:Nat)(L:List Int)(v:T4):Prop:=(L=[]/\v= .slice none 0 0)\/∃g,lo<=g/\v= .slice (some ⟨g,0,none⟩) L.length L.length/\a7 u g 3 (L.map (.int .i64)).toArray
instance{lo:Nat}{L:List Int}{v:T4}:tK λu=>zR u lo L v:=⟨λh k=>k.imp id λ⟨g,h1,h2,h3⟩=>⟨g,h1,h2,tK.old (I:=λu=>a7 u g 3 _) h h3⟩⟩
theorem Ci:∀(l:List KI)(w:Sz),Old w (Ek l w)
 |[],w=>.refl w
 |(_,_,[])::l,w=>Ci l w
 |(_,_,a::s)::l,w=>((Old.refl w).alloc _).trans (Ci l _)
theorem Du:∀(l:List KI)(w:Sz)(lo:Nat),lo<=w.heap.size->∀(k:Nat)(x:KI),l[k]?=some x->∃v,(AR l w.heap.size)[k*3]?=some (.string ⟨x.1.toArray⟩)/\(AR l w.heap.size)[k*3+1]?=some (.string ⟨x.2.1.toArray⟩)/\(AR l w.heap.size)[k*3+2]?=some v/\zR (Ek l w) lo x.2.2 v
 |[],_,_,_,_,_,h=>by simp at h
 |(p,t,[])::l,w,lo,hlo,0,x,h=>by
  simp only[SV,Option.some.injEq]at h;subst h;exact⟨_,rfl,rfl,rfl,.inl ⟨rfl,rfl⟩⟩
 |(p,t,[])::l,w,lo,hlo,k+1,x,h=>by
  obtain⟨v,h1,h2,h3,h4⟩:=Du l w lo hlo k x (by simpa using h);rw[show(k+1)*3=k*3+3 from by omega];exact⟨v,h1,h2,h3,h4⟩
 |(p,t,a::s)::l,w,lo,hlo,0,x,h=>by
  simp only[SV,Option.some.injEq]at h;subst h;refine⟨_,rfl,rfl,rfl,.inr ⟨w.heap.size,hlo,rfl,?_⟩⟩;exact tK.old (I:=λu=>a7 u w.heap.size 3 _) (Ci l _) (a7.new w _ _)
 |(p,t,a::s)::l,w,lo,hlo,k+1,x,h=>by
  have hz:(w.alloc (.cells ((a::s).map (.int .i64)).toArray 3)).heap.size=w.heap.size+1:=by simp
  obtain⟨v,h1,h2,h3,h4⟩:=Du l (w.alloc (.cells ((a::s).map (.int .i64)).toArray 3)) lo (by omega) k x (by simpa using h);rw[hz]at h1 h2 h3;rw[show(k+1)*3=k*3+3 from by omega];exact⟨v,h1,h2,h3,h4⟩
def FU(w w':Sz)(e:Ending):Prop:=∃B C,e= .returned (.slice (some ⟨B,0,none⟩) 33 33)/\Old w w'/\w.heap.size<=B/\a7 w' B 60 C/\
 ∀(k:Nat)(x:KI),nu[k]?=some x->∃v,C[k*3]?=some (.string ⟨x.1.toArray⟩)/\C[k*3+1]?=some (.string ⟨x.2.1.toArray⟩)/\C[k*3+2]?=some v/\zR w' w.heap.size x.2.2 v
theorem Nt(w:Sz){e:Ending}{w':Sz}(hw:w'=(Ek nu w).alloc (.cells (AR nu w.heap.size).toArray 60))(he:e= .returned (.slice (some ⟨(Ek nu w).heap.size,0,none⟩) 33 33)):FU w w' e:=by
 have hO:=Ci nu w;subst hw;refine⟨_,_,he,hO.alloc _,hO.size,a7.new _ _ _,λk x h=> ?_⟩;obtain⟨v,h1,h2,h3,h4⟩:=Du nu w w.heap.size (Sw _) k x h;refine⟨v,by simpa using h1,by simpa using h2,by simpa using h3,?_⟩;rcases h4 with h|⟨g,h5,h6,h7⟩
 .exact .inl h
 .exact .inr ⟨g,h5,h6,tK.old (I:=λu=>a7 u g 3 _) ((Old.refl _).alloc _) h7⟩
theorem O8(w:Sz):(Ek nu w).heap.size=w.heap.size+28:=by
 simp[nu,Ek]
theorem O6(w:Sz):Calls PH 25 #[] w λe w'=>FU w w' e:=by
 go_enter (PH.func Tryz.func25 (by decide)),Tryz.ntmps25
 go_wp2;go_ret;refine Nt w ?_ ?_
 .kernel_rfl
 .rw[O8];rfl
end
structure Sq(n G:Nat)(L:List (Int×Int)):Prop where
 len:L.length=G+1
 all:∃b j:Nat,b<=j/\j<=n/\L[0]?=some ((b:Int),(j:Int))/\∀k,1<=k->k<=G->L[k]?=some (-1,-1)\/∃x y:Nat,b<=x/\x<=y/\y<=j/\L[k]?=some ((x:Int),(y:Int))
section
open Go.RowKit Go.Conc
attribute [local instance] fI
theorem HP{w}{x q fl G:Nat}{nd S dn T e}(h:kh w x q fl G nd S dn T e):Calls PH 20 #[vp x] w λe' w'=>e'= .returned (.int .i64 G)/\w'=w:=by
 have c1:w.cell? ⟨x,1,none⟩=some (.int .i64 G):=h.blk.cell 1;go_enter PH.func Tryz.func20 (by decide),Tryz.ntmps20
 go_wp2;go_ret;simp
theorem vL{w g k t D a c}(h:a7 w g t (dw D))(hk:D[k]?=some (a,c)):w.cell? ⟨g,k*2,none⟩=some (.int .i64 a)/\w.cell? ⟨g,k*2+1,none⟩=some (.int .i64 c):=by
 obtain⟨hlt,he⟩:=List.getElem?_eq_some_iff.1 hk;have:=qm h hlt;rw[he]at this;omega
theorem IL.at{n0:Nat}{w':Sz}{fl:Nat}{s:ByteArray}{v:T4}(h:IL n0 w' fl (gK s fl) v):
 (∃k a,v= .tuple #[.pointer none,.int .i64 k,.int .i64 a]/\gK s fl=some (.err k a)/\(k !=0)=true)\/∃x nd σ G,v= .tuple #[vp x,.int .i64 0,.int .i64 0]/\gK s fl=some (.ok nd σ)/\σ.g=((G:Nat):Int)/\nc w' n0 w'.heap.size x fl G nd:=by
 cases hr:gK s fl with
 |none=>rw[hr]at h;exact h.elim
 |some r=>
  rw[hr]at h;cases r with
  |err k a=>
   have hk:=HS hr;exact .inl ⟨k,a,h,rfl,by simp;omega⟩
  |ok nd σ=>
   obtain⟨x,nv,tl,rfl,hx,hb,hR⟩:=h;have hT:=FJ hr;have hg:σ.g=(σ.g.toNat:Int):=by have:=hT.g0;omega
   exact .inr ⟨x,nd,σ,σ.g.toNat,rfl,rfl,hg,J2 hg hT hx hb hR⟩
theorem nc.groups{w:Sz}{lo hi x fl G:Nat}{nd:Nd}(h:nc w lo hi x fl G nd):Calls PH 20 #[vp x] w λe' w'=>e'= .returned (.int .i64 G)/\w'=w:=by
 obtain⟨q,dn,T,e,h⟩:=h.rx;exact HP h
instance{lo n:Nat}{v:T4}{m:Option (List (Int×Int))}:tK λw=>xl w lo n v m:=⟨λh k=>k.kq h.kq⟩
theorem xl.far{a b:Sz}{lo n x:Nat}{v:T4}{m:Option (List (Int×Int))}(h:xl a lo n v m)(k:Kq a.heap.size [x] a b)(hx:x<lo):xl b lo n v m:=by
 cases m with
 |none=>exact h
 |some L=>
  obtain⟨g,h1,h2,h3⟩:=h;exact⟨g,h1,h2,h3.kq k h3.lt λe=>by have:=AS.1 e;omega⟩
theorem nc.find{h0:Array Obj}{w:Sz}{lo hi x fl G ev n:Nat}{nd:Nd}{s:ByteArray}(h:nc w lo hi x fl G nd)(hs:s.size<=300)(hfl:fl<256)(hev:ev<256)(hn1:1<=n)(h5:n<=20):
 cb (br ek h0) 23 #[.pointer (some ⟨x,0,none⟩),.string s,.int .u8 ev,.int .i64 n] w λe' w'=>∃v,e'= .returned (.tuple #[v,.int .i64 0])/\xl w' w.heap.size n v (fj ⟨s,fl,ev⟩ nd G (s.size+1) 0)/\nc w' lo hi x fl G nd/\Kq w.heap.size [x] w w':=by
 obtain⟨q,dn,T,e,h1⟩:=h.rx;refine(JA h1 h.tree hs hfl hev hn1 h5).mono ?_;rintro e' w' ⟨v,h2,h3,h4⟩;exact⟨v,h2,h3,h.T1 h4,h4.2⟩
theorem O7{P:List UInt8}(h:xY P=true):P=[]\/P=[97,124,98,124]\/P=[40,40,41,124,46,41]:=by
 unfold xY at h;simp only[Tf,beq_iff_eq]at h;exact or_assoc.1 h
theorem GM{P:List UInt8}(h:xY P=false):P.isEmpty=false/\(P==[97,124,98,124])=false/\(P==[40,40,41,124,46,41])=false:=by
 unfold xY at h;simp only[Bool.or_eq_false_iff]at h;exact⟨by cases P with
  |nil=>simp at h
  |cons=>rfl,h.1.2,h.2⟩
theorem Kf:∀(L:List (Int×Int))(i:Nat)(p:Int×Int),L[i]?=some p->(L.flatMap λp=>[p.1,p.2])[2*i]?=some p.1/\(L.flatMap λp=>[p.1,p.2])[2*i+1]?=some p.2
 |[],_,_,h=>by simp at h
 |q::L,0,p,h=>by
  simp only[SV,Option.some.injEq]at h;subst h;exact⟨rfl,rfl⟩
 |q::L,i+1,p,h=>Kf L i p (by simpa using h)
structure T2(B n:Nat)(a:Act):Prop where
 ds:a.defers=[]
 sz:a.tmps.size=128
 s3:a.tmps.getD 3 undef= .slice (some ⟨B,0,none⟩) 33 33
 s4:a.tmps.getD 4 undef= .int .i64 n
theorem PU{h0:Array Obj}{w:Sz}{a:Int}(ha: -9223372036854775808<=a/\a<=9223372036854775807)(ho:Under h0 w)(hG:fx w)(hE:gI w):
 cb (br ek h0) 7 #[.int .i64 a] w λe w'=>e= .returned (.bool true)/\Old w w':=by
 refine bu (bP (by decide)) (λw' h=>nomatch h.1) (PH.func Tryz.func7 (by decide)) rfl ?_;simp only[Tryz.ntmps7,SG,SL,SO,SU,SS,SE,SD,SK,SF,SN,SM];have H:OnW (λu=>Old w u) w:=.refl w;have Z:=AI (⟨ho,hG,hE⟩:Under h0 w/\fx w/\gI w);clear ho hG hE;refine ac (λK hK=> ?_);revert H;refine e8 λw1 H=> ?_
 go_wp2;refine hK.out _ _ ?_;clear hK K;refine ac (λK hK=> ?_);revert H;refine e8 λw2 H=> ?_
 have hcs:=O6 w2;go_wp2;refine hcs.mono ?_;rintro e' w3 ⟨B,C,rfl,hO,hB,hC,hT⟩;replace H:=H.old hO;replace H:=H.also (λu=>a7 u B 60 C) hC;obtain⟨n,hn⟩:∃n:Nat,(if a<0 then -(a+1)else a)=(n:Int):=⟨(if a<0 then -(a+1)else a).toNat,by split <;>omega⟩;have hm:n%33<33:=Nat.mod_lt _ (by decide);obtain⟨⟨P,T,S⟩,hx⟩:∃x,nu[n%33]?=some x:=⟨_,Tb (by rw[show nu.length=33 from rfl];exact hm)⟩;obtain⟨v,c0,c1,c2,hv⟩:=hT _ _ hx;dsimp only at c0 c1 c2 hv;obtain⟨o,rfl⟩:∃o,v= .slice o S.length S.length:=by rcases hv with⟨rfl,rfl⟩|⟨g,_,rfl,_⟩<;>exact⟨_,rfl⟩
 replace H:OnW (λu=>(Old w u/\a7 u B 60 C)/\zR u w2.heap.size S (.slice o S.length S.length)) w3:=H.also (λu=>zR u w2.heap.size S (.slice o S.length S.length)) hv;have hx':=AI hx;replace c0:=AI c0;replace c1:=AI c1;replace c2:=AI c2;replace hB:=AI hB;clear hcs hT hv hC hO hx;go_wp2;refine hK.out _ _ ?_;clear hK K;refine ac (λK hK=> ?_);revert H;refine e8 λw4 H=> ?_
 go_wp2;refine hK.out _ _ ?_;clear hK K;refine ac (λK hK=> ?_);revert H;refine e8 λw5 H=> ?_
 have key:∀a u,T2 B n a->OnW (λu=>(Old w u/\a7 u B 60 C)/\zR u w2.heap.size S (.slice o S.length S.length)) u->K a u:=by
  clear H w5 w4 hn;rintro⟨tm,ds⟩ u ⟨h1,h2,h3,h4⟩ H;refine hK.out _ _ ?_;clear hK K;dsimp only at h1 h2 h3 h4;subst h1;obtain⟨X,hX⟩:∃X:Nat->T4,(λi=>tm.getD i undef)=X:=⟨_,rfl⟩;have hp:∀i,tm.getD i undef=X i:=λi=>congrFun hX i
  have htm:tm=#[X 0,X 1,X 2,X 3,X 4,X 5,X 6,X 7,X 8,X 9,X 10,X 11,X 12,X 13,X 14,X 15,X 16,X 17,X 18,X 19,X 20,X 21,X 22,X 23,X 24,X 25,X 26,X 27,X 28,X 29,X 30,X 31,X 32,X 33,X 34,X 35,X 36,X 37,X 38,X 39,X 40,X 41,X 42,X 43,X 44,X 45,X 46,X 47,X 48,X 49,X 50,X 51,X 52,X 53,X 54,X 55,X 56,X 57,X 58,X 59,X 60,X 61,X 62,X 63,X 64,X 65,X 66,X 67,X 68,X 69,X 70,X 71,X 72,X 73,X 74,X 75,X 76,X 77,X 78,X 79,X 80,X 81,X 82,X 83,X 84,X 85,X 86,X 87,X 88,X 89,X 90,X 91,X 92,X 93,X 94,X 95,X 96,X 97,X 98,X 99,X 100,X 101,X 102,X 103,X 104,X 105,X 106,X 107,X 108,X 109,X 110,X 111,X 112,X 113,X 114,X 115,X 116,X 117,X 118,X 119,X 120,X 121,X 122,X 123,X 124,X 125,X 126,X 127]:=by
   have:=Gs tm 128 h2;rw[hX]at this;exact this
  rw[hp]at h3 h4;rw[h3,h4]at htm;rw[htm];clear h3 h4 hX hp h2 htm;refine ac (λK hK=> ?_);revert H;refine e8 λw6 H=> ?_
  have d0:w6.cell? ⟨B,n%33*3,none⟩=some (.string ⟨P.toArray⟩):=(H.out.1.2.cell _).trans c0.out;have d1:w6.cell? ⟨B,n%33*3+1,none⟩=some (.string ⟨T.toArray⟩):=(H.out.1.2.cell _).trans c1.out;have d2:w6.cell? ⟨B,n%33*3+2,none⟩=some (.slice o S.length S.length):=(H.out.1.2.cell _).trans c2.out;go_wp2;refine hK.out _ _ ?_;clear hK K d0 d1 d2;have hwb:=H.out.1.1.size;obtain⟨b0,hb0⟩:∃b0,w6.heap.size=b0:=⟨_,rfl⟩;replace H:OnW (λu=>(Old w u/\a7 u b0 60 #[.string ⟨P.toArray⟩,.string ⟨T.toArray⟩,.slice o S.length S.length])/\zR u w2.heap.size S (.slice o S.length S.length)) (w6.alloc (.cells #[.string ⟨P.toArray⟩,.string ⟨T.toArray⟩,.slice o S.length S.length] 60)):=⟨⟨H.out.1.1.alloc _,hb0▸a7.new w6 _ _⟩,tK.old (I:=λu=>zR u w2.heap.size S (.slice o S.length S.length)) ((Old.refl _).alloc _) H.out.2⟩;rw[hb0]at hwb ⊢;clear hb0;generalize w6.alloc _=W at H ⊢;refine ac (λK hK=> ?_);refine ao ?_;show aV _ _ _ (SC 0 (2+8)) _ _;revert H;refine g5 0 2 8 (λN hN w7 H=> ?_) (by decide);simp only[zq1];have e0:=H.out.1.2.cell 0;go_wp2;refine hN.out _ _ ?_;clear hN N e0;have hO:=H.out.1.1;have hb7:=H.out.1.2.lt;have hI7:∀g,o=some ⟨g,0,none⟩->g<w7.heap.size:=λg e=>by
   rcases H.out.2 with⟨_,h⟩|⟨g',_,h,h2⟩
   .cases e;cases h
   .cases e;cases h;exact h2.lt
  refine bF (f:=26) (i:=2) (rest:=SC 3 (7+0)) rfl rfl (λu=>by simp[go_sem]) (bP (by decide)) (wl (s:=⟨P.toArray⟩) (fl:=0) (by decide) (Z.out.1.ea hO) (Z.out.2.1.ea hO) (Z.out.2.2.ea hO)) (λv w8 hr=> ?_) (λch w3 hr=>by obtain⟨_,h,_⟩:=hr;cases h);obtain⟨v0,e,h7,hs⟩:=hr;obtain rfl:=(Ending.returned.inj e).symm;clear e;have hlo:=hO.size;replace H:=H.old h7;clear h7 hO;simp only[SR,SQ,SP];obtain⟨⟨hp1,ht,hp3,hp4⟩,hrow⟩:=R6 hx'.out;have hfull:gK ⟨P.toArray⟩ 0=xP false false P:=by
   unfold gK;rw[if_neg (by show¬ 120<P.toArray.size;simp;omega)];rfl
  have hs:=hs.at;rw[hfull]at hs;rcases hrow with⟨a9,hrow,hbad⟩|⟨nd,σ,hrow,hbad,hfd⟩
  .obtain⟨k,a_,rfl,he,_⟩:∃k a_,v0= .tuple #[.pointer none,.int .i64 k,.int .i64 a_]/\some (g8.err k a_)=some (g8.err 9 a9:g8 Nd)/\True:=by
    rcases hs with⟨k,a_,h1,h2,_⟩|⟨_,_,_,_,_,h,_⟩
    .exact⟨k,a_,h1,by rw[<- hrow,h2],trivial⟩
    .rw[hrow]at h;cases h
   cases he;clear hs hrow hfull hx';simp only[Sv,zq0];revert H;refine g5 3 7 0 (λN hN w9 H=> ?_) (by decide);simp only[zq1];go_wp2;refine hN.out _ _ (az (hK.out _ _ ?_));clear hN N hK K;refine ac (λK hK=> ?_);revert H;refine e8 λw10 H=> ?_
   have e0:=H.out.1.2.cell 0;rcases O7 hbad with rfl|rfl|rfl
   all_goals
    go_wp2;go_ret;exact⟨rfl,H.out.1.1⟩
  .obtain⟨x,G,rfl,r3,hg⟩:∃x G,v0= .tuple #[vp x,.int .i64 0,.int .i64 0]/\nc w8 w7.heap.size w8.heap.size x 0 G nd/\σ.g.toNat=G:=by
    rcases hs with⟨k,a_,_,h2,_⟩|⟨x,nd',σ',G,h1,h2,h3,h4⟩
    .rw[hrow]at h2;cases h2
    .rw[hrow]at h2;cases h2;exact⟨x,G,h1,h4,by omega⟩
   rw[hg]at hfd;have hq:T.toArray.size<=300:=by simpa using ht
   have hsz:T.length+1=(⟨T.toArray⟩:ByteArray).size+1:=by show _=T.toArray.size+1;simp
   rw[hsz]at hfd;have h8:=GM hbad;have pe:=h8.1;have p1:=h8.2.1;have p2:=h8.2.2;have hx1:=r3.lw;have hx2:=r3.up;replace H:=H.also (λu=>nc u w7.heap.size w8.heap.size x 0 G nd) r3;replace hfd:=AI hfd;clear hs hrow hfull hx' r3 hg hsz h8 hbad;simp only[Sv,zq0];revert H;refine g5 3 7 0 (λN hN w9 H=> ?_) (by decide);simp only[zq1];go_wp2;refine hN.out _ _ (az (hK.out _ _ ?_));clear hN N hK K;refine ac (λK hK=> ?_);revert H;refine e8 λw10 H=> ?_
   have e0:=H.out.1.1.2.cell 0;go_wp2;refine hK.out _ _ ?_;clear hK K e0 pe p1 p2;refine ac (λK hK=> ?_);revert H;refine e8 λw11 H=> ?_
   go_wp2;refine hK.out _ _ ?_;clear hK K;refine ac (λK hK=> ?_);revert H;refine e8 λw12 H=> ?_
   have e2:=H.out.1.1.2.cell 2;obtain⟨M,hM⟩:∃M,S.length=2*M:=⟨S.length/2,by omega⟩;have hM4:M<=4:=by omega
   have hdv:(S.length:Int)/2=(M:Int):=by omega
   have hdw:(S.length:Int).tdiv 2=(M:Int):=by rw[Int.tdiv_eq_ediv_of_nonneg (by omega)];exact hdv
   replace hM:=AI hM;go_wp2;refine hK.out _ _ ?_;clear hK K e2;clear hdv hdw;have hRx:=hx1;rcases hfd.out with⟨hm,hS0⟩|⟨L,hm,h9,hS0,hw⟩
   .obtain rfl:M=0:=by have:=hM.out;rw[hS0]at this;simp at this;omega
    refine ac (λK hK=> ?_);refine ac (λK2 hK2=> ?_);revert H;refine e8 λw13 H=> ?_
    go_wp2;refine hK2.out _ _ ?_;clear hK2 K2;refine bG rfl ?_;refine ac (λK2 hK2=> ?_);refine ao ?_;show aV _ _ _ (SC 0 (3+6)) _ _;revert H;refine g5 0 3 6 (λN hN w14 H=> ?_) (by decide);simp only[zq1];have e1:=H.out.1.1.2.cell 1;go_wp2;refine hN.out _ _ ?_;clear hN N e1;refine bF (f:=23) (i:=3) (rest:=SC 4 (5+0)) rfl rfl (λu=>by simp[go_sem]) (bP (by decide)) (H.out.2.find (s:=⟨T.toArray⟩) (ev:=0) (n:=1) hq (by omega) (by decide) (by decide) (by decide)) (λv w15 hr=> ?_) (λch w3 hr=>by obtain⟨_,h,_⟩:=hr;cases h);obtain⟨v1,e,hf,_,hk⟩:=hr;obtain rfl:=(Ending.returned.inj e).symm;clear e;rw[hm]at hf;obtain rfl:v1= .slice none 0 0:=hf;replace H:OnW (λu=>Old w u) w15:=H.out.1.1.1.far hk (by omega);clear hk;simp only[SR,SQ,SP];simp only[Sv,zq0];revert H;refine g5 4 5 0 (λN hN w16 H=> ?_) (by decide);simp only[zq1];go_wp2;refine hN.out _ _ (az (hK2.out _ _ ?_));clear hN N hK2 K2;revert H;refine e8 λw17 H=> ?_
    have q0:=tJ none 0 0;go_wp2;go_ret;exact⟨rfl,H.out⟩
   .have hM1:1<=M:=by
     have:=hM.out;rcases Nat.eq_zero_or_pos M with h|h
     .exact absurd (List.eq_nil_of_length_eq_zero (by omega)) hS0
     .exact h
    have hMd:((M:Int)==0)=false:=by simp;omega
    refine ac (λK hK=> ?_);revert H;refine e8 λw13 H=> ?_
    go_wp2;refine hK.out _ _ ?_;clear hK K hMd;refine ac (λK hK=> ?_);refine ao ?_;show aV _ _ _ (SC 0 (4+6)) _ _;revert H;refine g5 0 4 6 (λN hN w14 H=> ?_) (by decide);simp only[zq1];have e1:=H.out.1.1.2.cell 1;go_wp2;refine hN.out _ _ ?_;clear hN N e1;refine bF (f:=23) (i:=4) (rest:=SC 5 (5+0)) rfl rfl (λu=>by simp[go_sem]) (bP (by decide)) (H.out.2.find (s:=⟨T.toArray⟩) (ev:=0) (n:=M) hq (by omega) (by decide) hM1 (by omega)) (λv w15 hr=> ?_) (λch w3 hr=>by obtain⟨_,h,_⟩:=hr;cases h);obtain⟨v1,e,hf,_,hk⟩:=hr;obtain rfl:=(Ending.returned.inj e).symm;clear e;rw[hm]at hf;obtain⟨g,hg1,rfl,hgb⟩:=hf;have hj:jV M L=L.take M:=by
     have:S.length/2=M:=by have:=hM.out;omega
     unfold jV;rw[show M-L.length=0 from by omega];simp
    have hSM:S.length/2=M:=by have:=hM.out;omega
    rw[hSM]at h9 hw;rw[hj]at hgb;have hSl:S.length≠0:=by have:=hM.out;omega
    obtain⟨gs,hgs1,rfl,h6⟩:∃gs,w2.heap.size<=gs/\o=some ⟨gs,0,none⟩/\a7 w14 gs 3 (S.map (.int .i64)).toArray:=by
     rcases H.out.1.2 with⟨h,_⟩|⟨gs,h1,h2,h3⟩
     .exact absurd h hS0
     .cases h2;exact⟨gs,h1,rfl,h3⟩
    have hgx:gs<x:=by have:=hI7 gs rfl;omega
    have hbx:b0<x:=by omega
    replace H:OnW (λu=>(Old w u/\a7 u b0 60 #[.string ⟨P.toArray⟩,.string ⟨T.toArray⟩,.slice (some ⟨gs,0,none⟩) S.length S.length])/\a7 u gs 3 (S.map (.int .i64)).toArray/\a7 u g 54 (dw (L.take M))) w15:=
     ⟨⟨H.out.1.1.1.far hk (by omega),H.out.1.1.2.kq hk H.out.1.1.2.lt λe=>by have:=AS.1 e;omega⟩,h6.kq hk h6.lt λe=>by have:=AS.1 e;omega,hgb⟩
    have hSlen:=hM.out;replace h9:=AI h9;replace hM:=AI hM;clear h6 hgb hk hj;simp only[SR,SQ,SP];simp only[Sv,zq0];revert H;refine g5 5 5 0 (λN hN w16 H=> ?_) (by decide);simp only[zq1];go_wp2;refine hN.out _ _ (az (hK.out _ _ ?_));clear hN N hK K;refine ac (λK hK=> ?_);revert H;refine e8 λw17 H=> ?_
    go_wp2;refine hK.out _ _ ?_;clear hK K;revert H;refine e8 λw18 H=> ?_
    have A1:=AI H.out;clear H;go_wp2;go_loopw [14] (λy wr=>∃i:Nat,i<=M/\y= .int .i64 i/\((Old w wr/\a7 wr b0 60 #[.string ⟨P.toArray⟩,.string ⟨T.toArray⟩,.slice (some ⟨gs,0,none⟩) S.length S.length])/\a7 wr gs 3 (S.map (.int .i64)).toArray/\a7 wr g 54 (dw (L.take M)))) (λy _=>M- (intOf y).toNat)
    case atStart=>exact⟨0,T8 _,rfl,A1.out⟩
    case round=>
     clear A1;obtain⟨i,hi,rfl,⟨hO,hc⟩,h5,hh⟩:=hrel;by_cases hlt:i<M
     .have hd1:(i:Int)<(M:Int):=by omega
      have hLi:i<(L.take M).length:=by rw[Tq];omega
      obtain⟨⟨pa,pb⟩,hl⟩:∃q,(L.take M)[i]?=some q:=⟨_,Tb hLi⟩;obtain⟨f1,f2⟩:=Kf _ _ _ hl;rw[h9.out]at f1 f2;obtain⟨g1,g2⟩:=vL hh hl;have k1:wr.cell? ⟨gs,2*i,none⟩=some (.int .i64 pa):=(h5.cell _).trans (by simp[f1]);have k2:wr.cell? ⟨gs,2*i+1,none⟩=some (.int .i64 pb):=(h5.cell _).trans (by simp[f2]);have e2:wr.cell? ⟨b0,2,none⟩=some (.slice (some ⟨gs,0,none⟩) S.length S.length):=hc.cell 2;have hi2:2*i<S.length:=by omega
      have hi3:2*i+1<S.length:=by omega
      replace hO:=AI (Ty (Ty hO hc) (Ty h5 hh));clear hc h5 hh f1 f2 hl hLi;go_wp2;go_quiet (fail)
      have h7:=AI (⟨⟨hO.out.1.1.eqv ⟨rfl,rfl,rfl⟩,hO.out.1.2.drewN nq⟩,hO.out.2.1.drewN nq,hO.out.2.2.drewN nq⟩:(Old w (wr.drewN nq)/\a7 (wr.drewN nq) b0 60 #[.string ⟨P.toArray⟩,.string ⟨T.toArray⟩,.slice (some ⟨gs,0,none⟩) S.length S.length])/\a7 (wr.drewN nq) gs 3 (S.map (.int .i64)).toArray/\a7 (wr.drewN nq) g 54 (dw (L.take M)));generalize wr.drewN nq=wq at *;go_wp2;go_roundw
      case rel=>exact⟨i+1,hlt,by push_cast;rfl,h7.out⟩
      case measure=>first |(simp[intOf];done)|(simp[intOf];omega)
     .have hd1:¬ (i:Int)<(M:Int):=by omega
      clear hc h5 hh;replace hO:=AI hO;go_wp2;go_ret;exact⟨rfl,hO.out⟩
 by_cases h0:a<0
 .have hd:decide (a<0)=true:=by simpa using h0
  rw[if_pos h0]at hn;go_wp2;exact key _ _ ⟨rfl,rfl,rfl,by rw[<- hn];rfl⟩ H
 .have hd:decide (a<0)=false:=by simpa using h0
  rw[if_neg h0]at hn;go_wp2;exact key _ _ ⟨rfl,rfl,rfl,by rw[<- hn];rfl⟩ H
end
section
open Go.ChangeShapes Go.WideShapes Go.RowKit Go.Conc
attribute [local instance] fI
theorem N7{W:Sz}(hS:W.ShapedOpen Tryz.prog)(hL:laidMetH Tryz.prog Rows.knownRow.laid W){x0:Int}(hx0: -9223372036854775808<=x0/\x0<=9223372036854775807){Post:T4->Sz->Prop}(hP:∀w2,Old W w2->Post (.bool true) w2):
 ∃M last o w' t',runNT Tryz.prog (M+1) (solo (G (Frame.enter Tryz.prog 7 #[.int .i64 x0] .normal) []) W) #[]=(.ended o w',t')/\runN Tryz.prog M (solo (G (Frame.enter Tryz.prog 7 #[.int .i64 x0] .normal) []) W)= .next last/\step Tryz.prog last= .ended o w'/\Conc.Good Tryz.prog Post last o w' t':=by
 obtain⟨hG,hE⟩:=K3 hS hL;exact EV hS Tryz.func7 (by kernel_rfl) rfl (by kernel_rfl) (PU (a:=x0) hx0 (Cj W) (hG.strike (vh hS)) (hE.strike (vh hS _ (T8 _)))) hP
theorem law_lifted(os:Os)(started:os.Started)(H:Type)(enc:TypeId×T4->H)(F:Stop.Interp):
 ReturnsInLeavingWide {calm:=true} Tryz.checked os 7 .any (λw args=>(Rows.knownSpec.pre enc Tryz.prog Tryz.f7 [] false w args/\laidMetH Tryz.prog Rows.knownRow.laid w)/\sizedMet enc Tryz.prog Tryz.f7 (Ta Rows.knownSpec) false w args)
  ((Ta Rows.knownSpec).postWith enc Tryz.prog Tryz.f7 F (outsideKept [.timePasses]) false true false):=by
 refine returnsInLeavingWide_of_good (C:=Tryz.checked) OT started
  (zQ (enc:=enc) (C:=Tryz.checked) (os:=os) (X:=λw _=>laidMetH Tryz.prog Rows.knownRow.laid w) (laidWorld os) #[.int .i64 0] 8 rfl (by kernel_rfl) (by kernel_rfl) (by kernel_rfl) (by kernel_rfl) (by kernel_rfl) (laidMetH_of_parts (laidMet_of_run3 8 (by kernel_rfl) (by kernel_rfl) (by kernel_rfl)) (by kernel_rfl))) ?_
 intro w tape i _ hS _ hok h4 hholds;obtain⟨_,_,_,fn',h5,_,_,_,_,h1⟩:=hok;have e:fn'=Tryz.f7:=Option.some.inj (h5.symm.trans Tryz.func7);subst e;obtain⟨⟨⟨ds,gs,before,hw,hc⟩,hL⟩,hz⟩:=h4;have hW:=DataW.Whole.of_heap (w':=w.forCall tape i) (by rfl) hw;have hL':laidMetH Tryz.prog Rows.knownRow.laid (w.forCall tape i):=hL.of_heap (by rfl);have h3:=hW;obtain⟨p,q,h6,hV0,rfl,hfz,hnd⟩:=hW;have hA:DataW.TrodAll enc Tryz.prog (w.forCall tape i) 0 (λ_=>true) true Tryz.f7.params.toList i.args.toList ds p:=h6;rw[Tryz.params7]at hA h1;obtain⟨v0,d0,h2,rfl,h0⟩:=trodAll_one hA;rw[h2]at h1 h3 ⊢;obtain⟨x0,rfl,rfl,rfl,t0⟩:=ChangeShapes.open_int Tryz.underlying3 (h1 0 3 v0 rfl rfl) h0;have hx0: -9223372036854775808<=x0/\x0<=9223372036854775807:=by simpa[Lit.wf,IntKind.min,IntKind.max,IntKind.signed,IntKind.bits]using t0
 have hV:DataW.TrodVars enc Tryz.prog (w.forCall tape i) (λ_=>true) [] gs q:=hV0;obtain⟨rfl,rfl⟩:=trodVars_none hV;obtain⟨M,last,o,w',t',e1,e2,e3,e4⟩:=N7 hS hL' hx0 (x0:=x0) (Post:=λv W2=>(Ta Rows.knownSpec).postWith enc Tryz.prog Tryz.f7 F (outsideKept [.timePasses]) false true false (w.forCall tape i) #[.int .i64 x0] v W2) λw2 hO=>by
  refine postWith_of_post ⟨_,_,_,[],[],[],h3,?_,?_,?_,⟨rfl,hO.out,λk hk=> ?_⟩,λh=>by cases h⟩ (by rw[hO.os];exact⟨0,by simp⟩)
  .exact trodAll_mk1 (shut_bool Tryz.underlying4 true)
  .exact trodAll_mk1 (ChangeShapes.shut_int Tryz.underlying3 t0)
  .rfl
  .dsimp only;rw[hO.old k hk];split <;>simp_all
 exact⟨M,last,o,w',t',e1,e2,e3,e4.mono λv hp=>postWith_blind hp⟩
theorem Nl:Rows.KnownSaid:=
 OpenClaim.holds_of_wide_leaving_time 7 Tryz.f7 rfl rfl rfl rfl rfl rfl rfl ⟨rfl,rfl,rfl,rfl,rfl⟩ rfl rfl rfl rfl rfl (by kernel_rfl) Tryz.func7 (by kernel_rfl)
  (of_decide_eq_true (by kernel_rfl)) (by unfold Func.isWrapper;rw[if_neg (of_decide_eq_false (by kernel_rfl))];exact⟨rfl,rfl⟩)
  (λos started H enc _ F=>law_lifted os started H enc F)
theorem GY:∀f fn,Tryz.pinned.checked.prog.funcNamed Rows.knownRow.func=some f->Tryz.pinned.checked.prog.funcs[f]?=some fn->true=Tryz.pinned.checked.prog.looks []/\∀(j:Nat) t,fn.params[j]?=some t->Tryz.pinned.checked.prog.wantsStandIn t=false:=λf fn hf hfn=>by
 obtain rfl:f=7:=Option.some.inj ((show Tryz.prog.funcNamed Rows.knownRow.func=some 7 by kernel_rfl).symm.trans hf)|>.symm
 obtain rfl:fn=Tryz.f7:=(Option.some.inj (Tryz.func7.symm.trans hfn)).symm;refine⟨by kernel_rfl,λj t ht=> ?_⟩;rw[Tryz.params7]at ht;match j,ht with
 |0,ht=>
  obtain rfl:3=t:=by simpa using ht
  exact(show Tryz.prog.wantsStandIn 3=false by kernel_rfl)
 |j+1,ht=>simp at ht
theorem known_holds:Rows.KnownCardSaid:=
 ⟨Claim7.tied_new_at .later [.handle,.data] true (Claim7.new_of_sixth Nl Rows.knownCard.stood.harness true rfl ⟨rfl,rfl⟩ (by kernel_rfl) (by kernel_rfl) GY) (by kernel_rfl),λD hD=>(by cases hD),known_row_tie,λh=>(by cases h),by kernel_rfl⟩
end
end Go.Proofs.YtkgohmcmmcpigaaGreatDoor
