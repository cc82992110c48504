/- Compiles holds of every pattern and all flags; no condition. -/
import Derived.Test.YtkgohmcmmcpigaaGreatDoorRows
import Derived.Lib.LaidU8
import Derived.LaidHandle
import Derived.ShapedOpen
import Derived.Conc.Fork
import Derived.Test.YtkgohmcmmcpigaaGreatDoorCards
import Derived.Test.YtkgohmcmmcpigaaGreatDoorTie
import Derived.ChangeSame
import Derived.ChangeVars
import Derived.JoinedOf
import Derived.RowKit
import Derived.LaidLaws
import Derived.Deep.DeepLaidRun
import Derived.SevenTiedAt
import Derived.Conc.Holds
import Derived.Conc.LeavingOf
import Derived.WitnessAt
import Derived.Test.YtkgohmcmmcpigaaGreatDoorP08
set_option linter.constructorNameAsVariable false
set_option linter.unusedSectionVars false
set_option linter.unusedSimpArgs false
set_option linter.unusedVariables false
namespace Go.Proofs.YtkgohmcmmcpigaaGreatDoor
open Go
open Go.Lib renaming hid->AI
open Go renaming World->AS,Value->BY
open Go.Frame renaming enter->AT
open Go.Conc renaming mem_ofEvents->By,Good->PR
open Go.Act renaming put->If
open _root_.Option renaming map_eq_some_iff->IN
open _root_.Array renaming getElem?_eq_getElem->IS,getElem?_setIfInBounds_ne->IT,getElem?_eq_some_iff->PD,replicate_zero->PL,replicate_succ->PM,getElem?_map->PU
open _root_.Or renaming inl->No
open _root_.List renaming mem_singleton->OF,range'->PG,range->PK,append_toArray->PO,size_toArray->PV,push_toArray->PW,length_cons->PY,cons_append->PZ,nil_append->Q2,length_nil->Q3
open _root_.Nat renaming le_refl->PE,eq_zero_or_pos->PP
open Go.MemOp renaming ofEvents->PJ
open Go.Obj renaming row?->PX
section
open Go.RowKit Go.Conc
attribute [local instance] mb
theorem pick_any(c:Int)(hc: -9223372036854775808≤c∧c≤9223372036854775807)(n:Nat)(hn:0<n)(hn2:n≤1000)(w:AS):
 Calls PH 16 #[.int .i64 c,.int .i64 n] w fun e w'=>w'=w∧∃m:Nat,m<n∧(0≤c→(m:Int)=c%n)∧e= .returned (.int .i64 m):=by
 by_cases h0:c<0
 ·go_enter (PH.func Tryz.func16 (by decide)),Tryz.ntmps16
  go_wp2;go_ret;have h1:(-(c+1)).tmod (n:Int)= -((c+1).tmod (n:Int)):=Int.neg_tmod ..;have h2:(-(c+1)).tmod (n:Int)=(-(c+1))% (n:Int):=Int.tmod_eq_emod_of_nonneg (by omega);have h3:=Int.emod_nonneg (-(c+1)) (show(n:Int)≠0 by omega);have h4:=Int.emod_lt_of_pos (-(c+1)) (show(0:Int)<n by omega);refine⟨rfl,((-(c+1))% (n:Int)).toNat,by omega,fun h=>by omega,?_⟩;have h5:((((-(c+1))% (n:Int)).toNat:Nat):Int)= -((c+1).tmod (n:Int)):=by rw[← h1,h2];omega
  rw[h5];rfl
 ·go_enter (PH.func Tryz.func16 (by decide)),Tryz.ntmps16
  go_wp2;go_ret;have h3:=Int.emod_nonneg c (show(n:Int)≠0 by omega);have h4:=Int.emod_lt_of_pos c (show(0:Int)<n by omega);refine⟨rfl,(c% (n:Int)).toNat,by omega,by omega,?_⟩;have h5:(((c% (n:Int)).toNat:Nat):Int)=c% (n:Int):=by omega
  rw[h5];rfl
theorem C0(c:Int)(hc: -9223372036854775808≤c∧c≤9223372036854775807)(w:AS):
 Calls PH 14 #[.int .i64 c] w fun e w'=>w'=w∧∃m:Nat,m<256∧e= .returned (.int .i64 m):=by
 go_enter (PH.func Tryz.func14 (by decide)),Tryz.ntmps14
 go_wp2_with fail
 refine(pick_any c hc 256 (by decide) (by decide) w).mono ?_;rintro e w2 ⟨rfl,m,hm,_,rfl⟩;go_wp2;go_ret;exact⟨rfl,m,hm,rfl⟩
theorem xM(s:ByteArray)(fl m:Nat)(h:m=fl%4):gR s m=gR s fl:=by
 have h1:m%2=fl%2:=by omega
 have h2:m/2%2=fl/2%2:=by omega
 unfold gR;rw[h1,h2]
theorem E7(x:Nat)(g:Int)(w:AS)(tl:Array BY)(nv f:BY)(h:w.heap[x]?=some (.cells (#[nv,.int .i64 g,f]++tl) 103 (0,0))):
 Calls PH 20 #[vp x] w fun e w'=>e= .returned (.int .i64 g)∧w'=w:=by
 have c1:w.cell? ⟨x,1,none⟩=some (.int .i64 g):=by
  rw[cell_of_row w x 1 _ _ _ h,Array.getElem?_append_left (by simp)];rfl
 go_enter (PH.func Tryz.func20 (by decide)),Tryz.ntmps20
 go_wp2;go_ret;exact⟨rfl,rfl⟩
theorem Me:(PH.underlying 25).map (·.isRow)=some true:=by kernel_rfl
theorem N4:∃d,PH.underlying 25=some d∧d.isRow=true:=by
 obtain⟨d,h1,h2⟩:=IN.1 Me;exact⟨d,h1,h2⟩
theorem yb:(PH.info? 25).map (·.size)=some 2:=by kernel_rfl
theorem rV{fn:Func}{p q:Tmp}(h:fn.results=#[.cell p 25,.tmp q]){tmps:Array BY}{b:Nat}{x y:BY}{w:AS}{v:BY}(hp:tmps.getD p undef= .pointer (some ⟨b,0,none⟩))(hr:ac w b 25 #[x,y])(hq:tmps.getD q undef=v):
 (results fn tmps).run PH w= .ok (.tuple #[.agg #[x,y],v]) w:=by
 obtain⟨d,h1,h2⟩:=N4;have:=run_loadVar_mid (P:=PH) w b 0 25 [x,y] d (ac.FO hr) h1 h2 yb;simp only[results,h];rw[Array.getD_eq_getD_getElem?]at hp hq;simp[Sem.run_bind,Result.andThen,hp,hq,asAddr,this]
theorem EN{o:Oper}{a:Act}{w:AS}{K:Act→AS→Prop}{Q:Exit→Act→AS→Prop}(t:TypeId)(x y:Operand)(ho:o.op= .store t x y)(hd:o.dst=none)(b:Nat)(hx:a.eval x= .pointer (some ⟨b,0,none⟩))(l:List BY)(hy:a.eval y= .agg l.toArray)(ht:w.there b 0 l.length)
 (hs:(PH.info? t).map (·.size)=some l.length) (h1:∀u∈l,u.oneCell'=true) (h:K a (w.setCells b 0 l)):o.wp PH a w K Q:=
 wp_store_mid _ x y ho b 0 l.toArray hx hy (by simpa using ht) (by simpa using hs) (all_oneCell_toArray h1) (by rw[hd];exact h)
theorem ac.Ly{w:AS}{b:Nat}{t:TypeId}{c:Array BY}(h:ac w b t c):w.there b 0 c.size:=fun j hj=>⟨by rw[h.cell];simp;omega,h.frozen _⟩
def Lq(e:Ending):Prop:=∃x y:Option Addr,e= .returned (.tuple #[.agg #[.pointer x,.pointer y],.bool true])
set_option maxRecDepth 100000 in
set_option maxHeartbeats 4000000 in
theorem Es{h0:Array Obj}{w:AS}{s:ByteArray}{fl:Nat}(hfl:fl<256)(hf:Under h0 w)(hG:fO w)(hE:gP w):
 dh (dv kv h0) 13 #[.string s,.int .i64 fl] w fun e w'=>Lq e∧Old w w':=by
 have hfl2:(fl:Int)<256:=by omega
 refine cF (ie (by decide)) (fun w' ⟨⟨x,y,h⟩,_⟩=>nomatch h) (PH.func Tryz.func13 (by decide)) rfl ?_;simp only[Tryz.ntmps13,PV,PY,Q3,Nat.reduceAdd,Nat.reduceSub,PM,PL,PW,PO,Q2,PZ];refine ag (fun K hK=> ?_);refine ej fun w1 e1=> ?_
 have O1:=AI (e1.old.alloc (.cells #[.pointer none,.pointer none] 25));have B1:ac (w1.alloc (.cells #[.pointer none,.pointer none] 25)) w.heap.size 25 #[.pointer none,.pointer none]:=by
  have h1:=ac.new w1 25 #[.pointer none,.pointer none];rwa [e1.heap]at h1
 replace B1:=AI B1;have hg:w1.heap.size=w.heap.size:=by rw[e1.heap]
 clear e1;go_wp2;refine hK.out _ _ ?_;clear hK K hg;generalize w1.alloc (.cells #[.pointer none,.pointer none] 25)=w2 at O1 B1 ⊢;refine ag (fun K hK=> ?_);refine aC ?_;show bo _ _ _ (PG 0 (3+8)) _ _;refine fy 0 3 8 (fun N hN w3 e3=> ?_) (by decide);simp only[zq1];have O3:=AI (O1.out.eqv e3);have B3:=AI (B1.out.ab e3.heap);clear e3 O1 B1;go_wp2;refine hN.out _ _ ?_;clear hN N;have ha:=hG.gk O3.out;have hc:=hE.gk O3.out;have hd:Under h0 w3:=hf.gk O3.out;refine bJ (f:=26) (i:=3) (rest:=PG 4 (7+0)) rfl rfl (fun u=>by simp[go_sem]) (ie (by decide)) (DC (s:=s) hfl hd ha hc) (fun v w4 hr=> ?_) (fun ch w4 hr=>by obtain⟨_,h,_⟩:=hr;cases h);obtain⟨v,e,h8,hs⟩:=hr;cases e;have O4:=AI (O3.out.trans h8);have B4:=AI (B3.out.old h8);have hsz:=O3.out.size;clear hG ha hd O3 B3 hE hc h8;cases hr:gR s fl with
 |none=>rw[hr]at hs;exact hs.elim
 |some r=>
 rw[hr]at hs;cases r with
 |err k at_=>
  cases hs;simp only[If,zq0];refine fy 4 7 0 (fun N hN w5 e5=> ?_) (by decide);simp only[zq1];have O5:=AI (O4.out.eqv e5);have B5:=AI (B4.out.ab e5.heap);clear O4 B4 e5;go_wp2;refine hN.out _ _ (aZ (hK.out _ _ ?_));clear hN N hK K;refine ej fun w6 e6=> ?_
  have O6:=AI (O5.out.eqv e6);have B6:=AI (B5.out.ab e6.heap);clear O5 B5 e6;go_wp2_with fail
  refine(pick_any fl (by omega) 4 (by decide) (by decide) w6).mono ?_;rintro e w7 ⟨rfl,m,hm,hmf,rfl⟩;have h4:m=fl%4:=by have:=hmf (by omega);omega
  replace h4:=AI h4;clear hmf;go_wp2_with fail
  refine(sg s m (by omega) _).mono ?_;rintro e w8 ⟨v,rfl,h3,hs⟩;rw[xM s fl m h4.out,hr]at hs;obtain⟨rfl,hk0⟩:=hs;have hk0i:(k !=0)=true:=by simpa using hk0
  have O8:=AI (O6.out.trans h3);have B8:=AI (B6.out.old h3);have c0:=B8.out.cell 0;have c1:=B8.out.cell 1;have f:=B8.out.frozen;clear O6 B6 h3;go_wp2_with fail
  refine bodyPost_ret (rV (b:=w.heap.size) (x:=.pointer none) (y:=.pointer none) (v:=.bool true) rfl ?_ ?_ ?_) rfl ?_
  ·rfl
  ·exact(B8.out.ci 0 _).ci 1 _
  ·rfl
  exact⟨⟨none,none,rfl⟩,(O8.out.setCell (p:=⟨w.heap.size,0,none⟩) (PE _) _).setCell (p:=⟨w.heap.size,1,none⟩) (PE _) _⟩
 |ok nd σ=>
  obtain⟨x,nv,tl,e,hxn,hxb,hrep⟩:=hs;cases e;clear hrep;replace hxb:=AI hxb;simp only[If,zq0];refine fy 4 7 0 (fun N hN w5 e5=> ?_) (by decide);simp only[zq1];have O5:=AI (O4.out.eqv e5);have B5:=AI (B4.out.ab e5.heap);have X5:=AI ((congrArg (fun h=>h[x]?) e5.heap).trans hxb.out);clear O4 B4 e5 hxb;go_wp2;refine hN.out _ _ (aZ (hK.out _ _ ?_));clear hN N hK K;refine ej fun w6 e6=> ?_
  have O6:=AI (O5.out.eqv e6);have B6:=AI (B5.out.ab e6.heap);have X6:=AI ((congrArg (fun h=>h[x]?) e6.heap).trans X5.out);clear O5 B5 e6 X5;go_wp2_with fail
  refine(pick_any fl (by omega) 4 (by decide) (by decide) w6).mono ?_;rintro e w7 ⟨rfl,m,hm,hmf,rfl⟩;have h4:m=fl%4:=by have:=hmf (by omega);omega
  replace h4:=AI h4;clear hmf;go_wp2_with fail
  refine(sg s m (by omega) _).mono ?_;rintro e w8 ⟨v,rfl,h3,hs⟩;rw[xM s fl m h4.out,hr]at hs;obtain⟨x2,rfl,hx2,ns,sl,root,he,_,_⟩:=hs;have O8:=AI (O6.out.trans h3);have B8:=AI (B6.out.old h3);have X8:=(h3.old x (PD.1 X6.out).1).trans X6.out;have h7:=AI he;replace X8:=AI X8;clear O6 B6 h3 X6 he;go_wp2_with fail
  refine(E7 x σ.g _ _ _ _ X8.out).mono ?_;rintro e w9 ⟨rfl,rfl⟩;have c2:w9.cell? ⟨x2,2,none⟩=some (.int .i64 σ.g):=h7.out.cell 2;go_upto_region 8 with fail
  go_cut [5] (fun s5 wx=>s5= .bool true∧ac wx w.heap.size 25 #[vp x,.pointer (some ⟨x2,0,none⟩)]∧Old w wx)
  case first=>
   refine wp_region_noPanic ?_;refine wp_region_held_drew (S:=fun w'=>w'.cell? ⟨x2,2,none⟩=some (.int .i64 σ.g)) (by rfl) c2 fun hS=> ?_
   refine aD 0 53 (vp x) rfl rfl (by kernel_rfl) (by kernel_rfl) (by kernel_rfl) (fun _ _ _ h=>h) (No ⟨by rfl,fun w' hS'=> ?_⟩) hS ?_
   ·go_simp
   simp only[If,zq0];refine aD 1 54 (.pointer (some ⟨x2,0,none⟩)) rfl rfl (by kernel_rfl) (by kernel_rfl) (by kernel_rfl) (fun _ _ _ h=>h) (No ⟨by rfl,fun w' hS'=> ?_⟩) hS ?_
   ·go_simp
   simp only[If,zq0];refine aD 2 55 (.agg #[vp x,.pointer (some ⟨x2,0,none⟩)]) rfl rfl (by kernel_rfl) (by kernel_rfl) (by kernel_rfl) (fun _ _ _ h=>h) (No ⟨by rfl,fun w' hS'=> ?_⟩) hS ?_
   ·go_simp
   simp only[If,zq0];refine aD 3 56 (.int .i64 σ.g) rfl rfl (by kernel_rfl) (by kernel_rfl) (by kernel_rfl) (fun _ _ _ h=>h) (No ⟨by rfl,fun w' hS'=> ?_⟩) hS ?_
   ·go_simp
   simp only[If,zq0];refine aD 4 57 (.pointer (some ⟨x2,0,none⟩)) rfl rfl (by kernel_rfl) (by kernel_rfl) (by kernel_rfl) (fun _ _ _ h=>h) (No ⟨by rfl,fun w' hS'=> ?_⟩) hS ?_
   ·go_simp
   simp only[If,zq0];refine aD 5 58 (.pointer (some ⟨x2,0,none⟩)) rfl rfl (by kernel_rfl) (by kernel_rfl) (by kernel_rfl) (fun _ _ _ h=>h) (No ⟨by rfl,fun w' hS'=> ?_⟩) hS ?_
   ·go_simp
   simp only[If,zq0];refine aD 6 59 (.pointer (some ⟨x2,2,none⟩)) rfl rfl (by kernel_rfl) (by kernel_rfl) (by kernel_rfl) (fun _ _ _ h=>h) (No ⟨by rfl,fun w' hS'=> ?_⟩) hS ?_
   ·go_simp
   simp only[If,zq0];refine aD 7 60 (.int .i64 σ.g) rfl rfl (by kernel_rfl) (by kernel_rfl) (by kernel_rfl) (fun _ _ _ h=>h) (No ⟨by rfl,fun w' hS'=> ?_⟩) hS ?_
   ·go_simp
   simp only[If,zq0];refine aD 8 61 (.bool true) rfl rfl (by kernel_rfl) (by kernel_rfl) (by kernel_rfl) (fun _ _ _ h=>h) (No ⟨by rfl,fun w' hS'=> ?_⟩) hS ?_
   ·go_simp
   simp only[If,zq0];refine dY 9 rfl rfl (by kernel_rfl) ?_;refine EN 25 (.tmp 4) (.tmp 55) rfl rfl w.heap.size rfl [vp x,.pointer (some ⟨x2,0,none⟩)] rfl (by exact ac.Ly (w:=w9.drew) (c:=#[.pointer none,.pointer none]) B8.out) yb (by intro u hu;simp at hu;rcases hu with rfl|rfl<;>rfl) ?_;have hh:ac (w9.drew.setCells w.heap.size 0 [vp x,.pointer (some ⟨x2,0,none⟩)]) x2 83 #[sl,.int .i64 (root:Int),.int .i64 σ.g,.int .i64 m]:=ac.cells (w:=w9.drew) h7.out (fun e=>by have h1:=h7.out;have h2:=B8.out;rw[e]at h1;have:=h1.symm.trans h2;simp at this) _ _;have hS3:(w9.drew.setCells w.heap.size 0 [vp x,.pointer (some ⟨x2,0,none⟩)]).cell? ⟨x2,2,none⟩=some (.int .i64 σ.g):=hh.cell 2;refine⟨hS3,?_⟩;refine dY 10 rfl rfl (by kernel_rfl) ?_;refine mZ (.tmp 61) rfl 5 rfl (.bool true) rfl ?_;refine⟨hS3,?_⟩;refine wpAnyH_done (by kernel_rfl) ?_ _;refine NoPanic.normal ?_;simp only[If,zq0];have h5:ac (w9.drew.setCells w.heap.size 0 [vp x,.pointer (some ⟨x2,0,none⟩)]) w.heap.size 25 #[vp x,.pointer (some ⟨x2,0,none⟩)]:=ac.JJ (w:=w9.drew) (l:=[vp x,.pointer (some ⟨x2,0,none⟩)]) B8.out rfl;have h6:Old w (w9.drew.setCells w.heap.size 0 [vp x,.pointer (some ⟨x2,0,none⟩)]):=(O8.out.drewN 1).setCells (PE _) _ _;replace h5:=AI h5;replace h6:=AI h6;clear hS3 hS;generalize w9.drew.setCells w.heap.size 0 [vp x,.pointer (some ⟨x2,0,none⟩)]=w10 at h5 h6 ⊢;go_wp2_with fail
   go_meet
   case rel=>exact⟨rfl,h5.out,h6.out⟩
  case rest=>
   obtain⟨rfl,hB9,h9⟩:=hcut;replace hB9:=AI hB9;replace h9:=AI h9;go_wp2_with fail
   refine bodyPost_ret (rV (b:=w.heap.size) (x:=vp x) (y:=.pointer (some ⟨x2,0,none⟩)) (v:=.bool true) rfl ?_ hB9.out ?_) rfl ?_
   ·rfl
   ·rfl
   exact⟨⟨_,_,rfl⟩,h9.out⟩
set_option maxRecDepth 100000 in
set_option maxHeartbeats 4000000 in
theorem Er{h0:Array Obj}{w:AS}{s:ByteArray}{c:Int}(hc: -9223372036854775808≤c∧c≤9223372036854775807)(h5:Under h0 w)(hG:fO w)(hE:gP w):
 dh (dv kv h0) 3 #[.string s,.int .i64 c] w fun e w'=>e= .returned (.bool true)∧Old w w':=by
 refine cF (ie (by decide)) (fun w' ⟨h,_⟩=>nomatch h) (PH.func Tryz.func3 (by decide)) rfl ?_;simp only[Tryz.ntmps3,PV,PY,Q3,Nat.reduceAdd,Nat.reduceSub,PM,PL,PW,PO,Q2,PZ];refine ag (fun K hK=> ?_);refine ej fun w1 e1=> ?_
 have O1:=AI e1.old;clear e1;go_wp2;refine hK.out _ _ ?_;clear hK K;by_cases hbig:(65536:Int)<s.size
 ·refine ej fun w2 e2=> ?_
  have O2:=AI (O1.out.eqv e2);clear e2;go_wp2;go_ret;exact⟨rfl,O2.out⟩
 refine ag (fun K hK=> ?_);refine ej fun w2 e2=> ?_
 have O2:=AI (O1.out.eqv e2);clear e2 O1;go_wp2;refine hK.out _ _ ?_;clear hK K;refine ag (fun K hK=> ?_);refine aC ?_;show bo _ _ _ (PG 0 (3+7)) _ _;refine fy 0 3 7 (fun N hN w3 e3=> ?_) (by decide);simp only[zq1];have O3:=AI (O2.out.eqv e3);clear e3 O2;go_wp2_with fail
 refine(C0 c hc w3).mono ?_;rintro e w4 ⟨rfl,fl,hfl,rfl⟩;go_wp2;refine hN.out _ _ ?_;clear hN N;have h1:=hG.gk O3.out;have h2:=hE.gk O3.out;have h3:Under h0 w4:=h5.gk O3.out;refine bJ (f:=13) (i:=3) (rest:=PG 4 (6+0)) rfl rfl (fun u=>by simp[go_sem]) (ie (by decide)) (Es (s:=s) hfl h3 h1 h2) (fun v w5 hr=> ?_) (fun ch w5 hr=>by obtain⟨⟨_,_,h⟩,_⟩:=hr;cases h);obtain⟨⟨x,y,e⟩,h4⟩:=hr;cases e;have O5:=AI (O3.out.trans h4);clear hG h1 h3 O3 hE h2 h4;simp only[If,zq0];refine fy 4 6 0 (fun N hN w6 e6=> ?_) (by decide);simp only[zq1];have O6:=AI (O5.out.eqv e6);clear O5 e6;have O7:=AI (O6.out.alloc (.cells #[.pointer x,.pointer y] 25));go_wp2;refine hN.out _ _ (aZ (hK.out _ _ ?_));clear hN N hK K;refine ej fun w8 e8=> ?_
 have O8:=AI (O7.out.eqv e8);clear O7 O6 e8;go_wp2;go_ret;exact⟨rfl,O8.out⟩
end
section
set_option maxRecDepth 10000
open Go.RowKit Go.Conc
attribute [local instance] mb
noncomputable abbrev pY:AS:=(begin Tryz.prog (fun _ _=>0) default).world
theorem J4:Tryz.prog.globalNamed "errors.errorType" =some 0:=by kernel_rfl
theorem y5:Tryz.prog.globalNamed "posix/scan.classes" =some 1:=by kernel_rfl
theorem Jd:(Tryz.prog.globals[1]?).map (·.type)=some 301:=by kernel_rfl
theorem Ko:(Tryz.prog.cutTypes.find? (·.1== "internal/reflectlite.rtype")).map (·.2)=some 226:=by kernel_rfl
theorem oneRow:((PK 355).filter fun t=>Tryz.prog.rowNamed t [101,114,114,111,114])=[105]:=by kernel_rfl
theorem types_size:Tryz.prog.types.size=355:=by kernel_rfl
theorem LD:((pY.heap[0]?).bind PX).isSome=true:=by kernel_rfl
theorem F4:((pY.heap[1]?).bind PX).map (fun x=>(x.1.size,x.2))=some (24,301):=by kernel_rfl
theorem F3:((pY.heap[2]?).bind PX).map (fun x=>(x.1.size,x.2))=some (1,3):=by kernel_rfl
theorem start3:(match pY.heap[3]? with |some (.cells _ _ _)=>true|_=>false)=true:=by kernel_rfl
theorem CY:3<pY.heap.size:=of_decide_eq_true (by kernel_rfl)
theorem Gh:Tryz.prog.buildable 3=true:=by kernel_rfl
theorem Gg:Tryz.prog.cellTypes Tryz.prog.depth 3=some [3]:=by kernel_rfl
theorem iL:Tryz.prog.globals.size=3:=by kernel_rfl
theorem qC{W:AS}(h:W.ShapedOpen Tryz.prog){g:Nat}(hg:g<3)(hs:((pY.heap[g]?).bind PX).isSome=true):∃cs t,W.heap[g]?=some (.cells cs t):=by
 obtain⟨x,hx⟩:=Option.isSome_iff_exists.1 hs;obtain⟨cs,h1,_⟩:=h.1 g x.1 x.2 (by rw[iL];exact hg) hx;exact⟨cs,_,h1⟩
theorem tH{α β:Type}{o:Option α}{f:α→β}{y:β}(h:o.map f=some y):o.isSome=true:=by
 cases o with
 |none=>cases h
 |some x=>rfl
theorem tN{W:AS}(h:W.ShapedOpen Tryz.prog){g:Nat}(hg:g≤3):∃cs t f,W.heap[g]?=some (.cells cs t f):=by
 match g,hg with
 |0,_=>obtain⟨cs,t,h1⟩:=qC h (g:=0) (by decide) LD;exact⟨cs,t,_,h1⟩
 |1,_=>obtain⟨cs,t,h1⟩:=qC h (g:=1) (by decide) (tH F4);exact⟨cs,t,_,h1⟩
 |2,_=>obtain⟨cs,t,h1⟩:=qC h (g:=2) (by decide) (tH F3);exact⟨cs,t,_,h1⟩
 |3,_=>
  obtain⟨o,o0,h1,h2,h3⟩:=h.2 3 (by rw[iL];exact PE _) CY;have h4:o=o0:=by
   rw[if_neg (by rw[iL];decide)]at h3;exact h3
  have hs:=start3;rw[h2]at hs;rw[h4]at h1;cases o0 with
  |cells c t f=>exact⟨c,t,f,h1⟩
  |_=>cases hs
theorem Dg{W:AS}(h:W.ShapedOpen Tryz.prog):∃m t,W.heap[2]?=some (.cells #[.int .i64 m] t):=by
 obtain⟨x,hx,hx2⟩:=IN.1 F3;simp only[Prod.mk.injEq]at hx2;obtain⟨cs,h1,h2,h3⟩:=h.1 2 x.1 x.2 (by rw[iL];decide) hx;rw[hx2.1]at h2;rw[hx2.2]at h3;obtain⟨ts,ht,_,hc⟩:=h3 Gh;rw[Gg]at ht;obtain rfl:=(Option.some.inj ht).symm;obtain⟨v,hv⟩:∃v,cs=#[v]:=by
  obtain⟨l⟩:=cs;match l,h2 with
  |[v],_=>exact⟨v,rfl⟩
 subst hv;obtain⟨u,hu,hok⟩:=hc 0 v rfl;obtain rfl:3=u:=by simpa using hu
 have hint:Tryz.prog.underlying 3=some (.int .i64):=by kernel_rfl
 unfold Cell.ok at hok;rw[hint]at hok;cases v with
 |int k n=>
  obtain⟨rfl,_⟩:=hok;exact⟨n,_,h1⟩
 |_=>exact hok.elim
theorem Ca:(match Tryz.prog.underlying 300 with |some (.struct fs)=>fs.toList.map fun f=>(f.type,f.offset)|_=>[])=[(9,0),(9,1)]:=by kernel_rfl
theorem Cb:∃fs f0 f1,Tryz.prog.underlying 300=some (.struct fs)∧fs[0]?=some f0∧fs[1]?=some f1∧f0.type=9∧f0.offset=0∧f1.type=9∧f1.offset=1∧fs.size=2:=by
 have h:=Ca;split at h
 ·next fs h0=>
  obtain⟨l⟩:=fs;match l,h with
  |[f0,f1],h=>
   simp only[List.map_cons,List.map_nil,List.cons.injEq,Prod.mk.injEq,and_true]at h;exact⟨_,f0,f1,h0,rfl,rfl,h.1.1,h.1.2,h.2.1,h.2.2,rfl⟩
 ·cases h
theorem u5:Tryz.prog.cellsOf 300=2:=by kernel_rfl
theorem rL:Tryz.prog.cellsOf 9=1:=by kernel_rfl
theorem rK:Tryz.prog.underlying 9=some .string:=by kernel_rfl
theorem yE:Tryz.prog.underlying 301=some (.array 12 300):=by kernel_rfl
theorem yF{w:AS}{fuel:Nat}{cs:List BY}{a b:List UInt8}{p:List MemPlace}(h:DataW.trod (fun _=>()) Tryz.prog w 0 (fun _=>true) false fuel 300 cs=some (.agg [.lit (.string a),.lit (.string b)],p)):cs=[qW a,qW b]:=by
 obtain⟨fs,f0,f1,hu,h0,h1,t0,o0,t1,o1,hz⟩:=Cb;obtain⟨xs,n,_,hx,hl,h2,hf⟩:=DataW.trod_struct hu h;rw[u5]at hl;have k0:=hf 0 f0 h0;have k1:=hf 1 f1 h1;rw[t0,o0,rL]at k0;rw[t1,o1,rL]at k1;rw[hz]at h2;match xs,h2 with
 |[x0,x1],_=>
  simp only[Prod.mk.injEq,DataW.agg.injEq,List.map_cons,List.map_nil,List.cons.injEq,and_true]at hx;obtain⟨⟨e0,e1⟩,_⟩:=hx;obtain⟨s0,c0,y0,_⟩:=DataW.trod_string rK k0;obtain⟨s1,c1,y1,_⟩:=DataW.trod_string rK k1;match cs,hl with
  |[v0,v1],_=>
   simp only[List.drop_zero,List.take_succ_cons,List.take_zero,List.drop_succ_cons,List.cons.injEq,and_true]at c0 c1;subst c0 c1;have z0:x0.1= .lit (.string s0.data.toList):=by rw[y0]
   have z1:x1.1= .lit (.string s1.data.toList):=by rw[y1]
   rw[← e0]at z0;rw[← e1]at z1;simp only[DataW.lit.injEq,Lit.string.injEq]at z0 z1;unfold qW;rw[z0,z1]
theorem chunks{α:Type}{f:Nat→List α}:∀(n:Nat)(l:List α),l.length=2*n→(∀i,i<n→(f i).length=2∧(l.drop (i*2)).take 2=f i)→l=(PK n).flatMap f:=by
 intro n;induction n with
 |zero=>intro l h _;simpa using h
 |succ n ih=>
  intro l h hf;have h1:=ih (l.take (2*n)) (by rw[List.length_take];omega) fun i hi=>⟨(hf i (by omega)).1,by
   rw[← (hf i (by omega)).2,List.drop_take,List.take_take];congr 1
   omega⟩
  have h2:=(hf n (by omega)).2;rw[List.range_succ,List.flatMap_append,← h1];simp only[List.flatMap_cons,List.flatMap_nil,List.append_nil];rw[← h2,List.take_of_length_le (l:=l.drop (n*2)) (by rw[List.length_drop];omega),Nat.mul_comm,List.take_append_drop]
theorem AF{H:Type}:(Rows.laid_posix_scan_classes:DataW H)= .agg (bz.map fun x=>.agg [.lit (.string x.1),.lit (.string x.2)]):=rfl
theorem vW{w:AS}{fuel:Nat}{cs:List BY}{p:List MemPlace}(h:DataW.trod (fun _=>()) Tryz.prog w 0 (fun _=>true) false fuel 301 cs=some (Rows.laid_posix_scan_classes,p))(hl:cs.length=24):cs=im:=by
 rw[AF]at h;have h1:cs=(PK 12).flatMap fun i=>[qW (bz.getD i ([],[])).1,qW (bz.getD i ([],[])).2]:=chunks 12 cs hl fun i hi=>⟨rfl,by
  obtain⟨fuel',d,q,hd,ht⟩:=Lib.array_elem yE h i hi;rw[u5]at ht;have h0:bz[i]?=some (bz.getD i ([],[])):=by
   rw[List.getD_eq_getElem?_getD,List.getElem?_eq_getElem (show i<bz.length from hi)];rfl
  rw[List.getElem?_map,h0]at hd;obtain rfl:=Option.some.inj hd;exact yF ht⟩
 rw[h1];rfl
theorem Ji(σ:Nat→Nat):im.toArray.map (a7 σ)=im.toArray:=by
 rw[List.map_toArray];congr 1
 have h:∀v∈im,a7 σ v=v:=by
  intro v hv;unfold im at hv;obtain⟨x,_,hx⟩:=List.mem_flatMap.1 hv;simp only[List.mem_cons,List.not_mem_nil,or_false]at hx;rcases hx with rfl|rfl
  ·unfold qW;rw[bX]
  ·unfold qW;rw[bX]
 conv=>rhs;rw[← List.map_id im]
 exact List.map_congr_left fun v hv=>h v hv
theorem IA{W:AS}(hS:W.ShapedOpen Tryz.prog)(h:laidMetH Tryz.prog Rows.compilesRow.laid W):fO W∧gP W:=by
 have h':laidMet Tryz.prog [("posix/scan.classes",Rows.laid_posix_scan_classes)] W∧handlesMet Tryz.prog [("errors.errorType",Rows.laid_errors_errorType)] W:=h;have hE:gP W:=by
  obtain⟨name,u,ty,e1,e2,e3,e4,e5⟩:=h'.2 _ (OF.2 rfl);have en:name=[101,114,114,111,114]:=(Option.some.inj e1).symm;subst en;obtain rfl:=Option.some.inj (Ko.symm.trans e2);have hm:ty∈(PK 355).filter fun t=>Tryz.prog.rowNamed t [101,114,114,111,114]:=List.mem_filter.2 ⟨List.mem_range.2 (by rw[← types_size];exact e3),e4⟩
  rw[oneRow]at hm;obtain rfl:=OF.1 hm;have hh:typeHandle Tryz.prog 105= .pointer (some ⟨3,105,none⟩):=by kernel_rfl
  rw[hh]at e5;simpa[gP]using World.var?_cell J4 e5 0
 refine⟨⟨fun g hg=> ?_,?_⟩,hE⟩
 ·obtain⟨cs,t,f,h1⟩:=tN hS (by rw[iL]at hg;exact hg);exact⟨_,h1,trivial,.inl ⟨_,_,_,rfl⟩⟩
 ·obtain⟨g,t,cs,fuel,p,e1,e2,e3,e4⟩:=Lib.laidMet.reads h'.1 (OF.2 rfl);obtain rfl:=Option.some.inj (y5.symm.trans e1);obtain rfl:=Option.some.inj (Jd.symm.trans e2);obtain⟨x,hx,hx2⟩:=IN.1 F4;simp only[Prod.mk.injEq]at hx2;obtain⟨cs',h1,h2,_⟩:=hS.1 1 x.1 x.2 (by rw[iL];decide) hx;have e5:cs'=cs:=by
   simp only[World.var?,y5,Option.bind_some,h1]at e3;exact Option.some.inj e3
  subst e5;have h3:=vW e4 (by rw[Array.length_toList,h2,hx2.1]);have h4:cs'=im.toArray:=by rw[← h3]
  obtain⟨m,tM,hM⟩:=Dg hS;rw[h4]at h1;exact⟨x.2,tM,m,⟨_,h1,by simp⟩,fun σ=>Ji σ,⟨_,hM,by simp⟩⟩
end
section
open Go.Conc
open Go.ConcN (sumTo upd sumTo_upd upd_ne upd_same)
variable[aJ]
section
variable{Q:Program}{R:Machine→Trace→Prop}{g:Goroutine}{w:AS}
theorem gj.MI(hr:g.status= .running)
 (H:∀gs sl q τ d t w0 sl0,gs[0]?=some g→Leavers Q t gs q→Held t→Deaf t 0=0→stepT Q (crowd gs w0 sl0)=runT Q (crowd gs (af w τ d) sl) 0→Runs Q (crowd gs w0 sl0) t R) {m:Machine} {t:Trace} (hF:gj Q g w m t):Runs Q m t R:=by
 obtain⟨⟨gs,sl,q,τ,d,rfl,h0,hL⟩,hH,hD⟩:=hF;have key:∀M gs sl q τ d t,sumTo gs.size q=M→gs[0]?=some g→Leavers Q t gs q→Held t→Deaf t 0=0→Runs Q (crowd gs (af w τ d) sl) t R:=by
  intro M;induction M using Nat.strongRecOn with
  |ind M ihM=>
  intro gs sl q τ d t hM h0 hL hH hD;have haw:∀x∈gs,awake x:=by
   intro x hx;obtain⟨i,hi,rfl⟩:=Array.mem_iff_getElem.1 hx;rcases PP i with rfl|hpos
   ·have:gs[0]=g:=by simpa[IS hi]using h0
    rw[this];exact awake_of (.inl hr)
   ·exact awake_of ((hL.old i _ hpos (IS hi)).status.elim .inl fun x=>.inr (.inr x))
  obtain⟨i,x,d',sl',hi,hx,hst⟩:=crowd_pick (P:=Q) (w:=af w τ d) (sl:=sl) haw ⟨0,g,h0,hr⟩;have hat:(af w τ d).at d'=af w τ d':=rfl;rw[hat]at hst;rcases PP i with rfl|hpos
  ·exact H gs sl' q τ d' t _ _ h0 hL hH hD hst
  ·have hq:=hL.old i x hpos hi;have hi0:(i==0)=false:=by simp;omega
   have hlt:i<gs.size:=(PD.1 hi).1;cases hqi:q i with
   |zero=>rw[hqi]at hq;rw[hq.1]at hx;cases hx
   |succ k=>
    rw[hqi]at hq;rcases hq with⟨hf,_⟩|⟨_,g',es,hm,h3,h4⟩
    ·rw[hf]at hx;cases hx
    have h1:=runT_crowd_go (P:=Q) (sl:=sl') (i:=i) hi (by rw[hi0];exact h3 (af w τ d'));have hsz:((gs.map (woken Q x g' (af w τ d'))).setIfInBounds i g').size=gs.size:=by simp
    have hsum:sumTo gs.size (upd q i k)+(k+1)=sumTo gs.size q+k:=by
     have:=sumTo_upd q k id hlt;simpa[hqi]using this
    have hne:i≠0:=by omega
    refine Runs.step (hst.trans h1) (ihM (sumTo gs.size (upd q i k)) (by rw[← hM];omega) _ sl' (upd q i k) τ d' _ (by rw[hsz]) ?_ ?_ (hH.mute (g:=i) hne (fun op hop=>by obtain⟨e,_,rfl⟩:=By hop;rfl) fun op hop=>by obtain⟨e,he,rfl⟩:=By hop;exact touch_mute (hm e he)) ((Deaf_other t hne _ (fun op hop=>by obtain⟨e,_,rfl⟩:=By hop;rfl)).trans hD))
    ·rw[IT hne,PU,h0];simp[woken_run hr]
    ·refine⟨fun j y hj hy=> ?_,fun j hj=> ?_⟩
     ·by_cases hji:i=j
      ·subst hji;rw[Array.getElem?_setIfInBounds_self_of_lt (by simpa using hlt)]at hy;obtain rfl:=Option.some.inj hy;rw[upd_same,Deaf_own];exact h4
      ·rw[IT hji,PU]at hy;obtain⟨z,hz,rfl⟩:=IN.1 hy;have h2:=hL.old j z hj hz;rw[woken_quitsD h2,upd_ne q k (Ne.symm hji),Deaf_other t hji _ (fun op hop=>by obtain⟨e,_,rfl⟩:=By hop;rfl)];exact h2
     ·rw[Deaf_other t (g':=i) (by simp at hj;omega) _ (fun op hop=>by obtain⟨e,_,rfl⟩:=By hop;rfl)];exact hL.above j (by simpa using hj)
 exact key _ gs sl q τ d t rfl h0 hL hH hD
def Ends(Q:Program)(Post:BY→AS→Prop)(m:Machine)(t:Trace):Prop:=∃o w' ops,stepT Q m=(.ended o w',ops)∧PR Q Post m o w' (t++ops)
theorem gj.ends{Post:BY→AS→Prop}{v:BY}(hr:g.status= .running)(h:∀τ d,∃d' es,stepG Q true g (af w τ d)= .ended (.done v) (af w τ d') es)(hp:∀τ d,Post v (af w τ d)){m:Machine}{t:Trace}(hF:gj Q g w m t):Runs Q m t (Ends Q Post):=by
 refine hF.MI hr fun gs sl q τ d t w0 sl0 h0 hL hH hD hst=>.here ?_
 obtain⟨d',es,hs⟩:=h τ d;have h1:=runT_many_ended (P:=Q) (sl:=sl) (i:=0) h0 (show stepG Q (0==0) g (af w τ d)=_ from hs);have h2:=hH.own (u:=PJ 0 g.frame.fn g.frame.place es) (fun op hop=>by obtain⟨e,_,rfl⟩:=By hop;rfl);refine⟨_,_,_,hst.trans h1,v,rfl,hp _ _,h2.clean,h2.over,⟨fun x hx=> ?_,rfl⟩,fun j x hx hj=> ?_⟩
 ·obtain⟨j,hj⟩:=List.mem_iff_getElem?.1 hx;rw[List.getElem?_drop]at hj;exact⟨_,(hL.old (1+j) x (by omega) (by simpa[crowd]using hj)).leaves⟩
 ·have hq:=hL.old j x (by omega) hx;refine⟨q j,?_⟩;have e:(t++PJ 0 g.frame.fn g.frame.place es).deaf j (t++PJ 0 g.frame.fn g.frame.place es).size=Deaf t j:=
   Deaf_other t (g:=j) (g':=0) (by omega) _ (fun op hop=>by obtain⟨e,_,rfl⟩:=By hop;rfl)
  rw[e];exact hq.hears _
theorem Ends.run{Post:BY→AS→Prop}{m:Machine}{t:Trace}(h:Runs Q m t (Ends Q Post)):∃N last o w' t',runNT Q (N+1) m t=(.ended o w',t')∧runN Q N m= .next last∧step Q last= .ended o w'∧PR Q Post last o w' t':=by
 obtain⟨N,m',t',h1,o,w',ops,h2,h3⟩:=h;refine⟨N,m',o,w',t'++ops,?_,?_,by simp[step,h2],h3⟩
 ·rw[runNT_add,h1];simp[runNT,h2]
 ·rw[← runNT_fst Q N m t,h1]
theorem A5{fr:Frame}{v:BY}{u:AS}(h:fr.leaving Q u (.returned v))(hi:Q.inits.idxOf? fr.fn=none):∃es,stepG Q true (bY fr []) u= .ended (.done v) u es:=by
 obtain⟨hm,hd,hk,fn,hf,h0⟩:=h;refine⟨seen Q fr.fn ((results fn fr.tmps).runT Q u #[]).2,?_⟩;unfold stepG bY;dsimp only;rw[hm];dsimp only;unfold unwind;rw[hd];dsimp only;rw[hm];dsimp only;rw[hf];dsimp only;rw[Sem.runT_eq,h0];dsimp only;unfold doReturn;dsimp only;rw[hk];simp[GStep.after,hi]
end
theorem GJ{Q:Program}{β:Nat→Option Code}{f:FuncId}(hb:β f=none)(args:Array BY)(k:CallKind):AT (alt Q β) f args k=AT Q f args k:=by
 have he:(alt Q β).funcs[f]?=Q.funcs[f]?:=by
  rw[j6];cases Q.funcs[f]? with
  |none=>rfl
  |some fn=>simp[aw,hb]
 unfold AT;rw[he]
theorem FA{Q:Program}{β:Nat→Option Code}(B:Mz Q β){f:FuncId}{fn:Func}{d:Tmp}(hfn:Q.funcs[f]?=some fn)(hb:β f=none)(hres:fn.results=#[.tmp d])(hi:Q.inits.idxOf? f=none){args:Array BY}{W:AS}(hn:NoWait W.heap)
 {R:Ending→AS→Prop} (hC:dh (dv B W.heap) f args (strike W) R) (hR:∀e w',R e w'→∃v,e= .returned v) {Post:BY→AS→Prop}
 (hP:∀v w' w2 h1,R (.returned v) w'→bj h1 w' w2→th W.heap h1→∀τ d,Post v (af w2 τ d)):
 ∃M last o w' t',runNT Q (M+1) (solo (G (AT Q f args .normal) []) W) #[]=(.ended o w',t')∧runN Q M (solo (G (AT Q f args .normal) []) W)= .next last∧step Q last= .ended o w'∧PR Q Post last o w' t':=by
 have h:=hC [] (fun g u=>∃e fr,R e u∧g=bY fr []∧fr.fn=f∧fr.leaving (alt Q β) u e) (fun e w' fr h1 h2 h3 h4=>(dv B W.heap).stop _ _ _ ⟨e,fr,h1,rfl,h3,h4⟩);have hI:Iv (bY (AT (alt Q β) f args .normal) []) (strike W):=⟨EY hn,.inr ⟨⟨mv B.tame f args .normal,fun c hc=>by(cases hc),fun t ht=>by(cases ht),fun hd=>by(cases hd)⟩,fun d hd=>by(cases hd)⟩⟩;have hF:qp W.heap Q (bY (AT (alt Q β) f args .normal) []) (strike W) (solo (G (AT Q f args .normal) []) W) #[]:=by
  refine⟨W.heap,⟨⟨#[bY (AT Q f args .normal) []],none,fun _=>0,W,rfl,CV W,by rw[GJ hb];rfl,⟨fun i g hi hg=> ?_,fun j _=>rfl⟩⟩,⟨fun said hr=> ?_,fun i a ha=> ?_,fun i g hg=> ?_⟩,rfl⟩,fun i _ _=>rfl⟩
  ·rw[Array.getElem?_eq_none (by simp;omega)]at hg;cases hg
  ·obtain⟨i,j,_,⟨a,b,ha,_⟩,_⟩:=hr;simp[Trace.act?]at ha
  ·obtain⟨x,hx,_⟩:=touch_of ha;simp at hx
  ·simp[Trace.g?]at hg
 refine Ends.run ((h hI _ _ hF).bind fun m' t' ⟨g',w',⟨e,fr,h1,h2,h3,h4⟩,h5,h6⟩=> ?_);obtain⟨v,rfl⟩:=hR e w' h1;obtain⟨h1',w2,hp,ho,hD⟩:=h6.real;subst h2;obtain⟨k1,k2,k3,fn',k4,k5⟩:=h4;rw[h3,j6,hfn]at k4;obtain rfl:aw β f fn=fn':=by simpa using k4
 rw[results_tmp (by rw[lI];exact hres)]at k5;obtain rfl:fr.tmps.getD d undef=v:=by injection k5
 refine hD.ends (v:=fr.tmps.getD d undef) rfl (fun τ dd=> ?_) (fun τ dd=>hP _ _ _ _ h1 hp ho τ dd);obtain⟨es,hs⟩:=A5 (Q:=Q) (fr:=fr) (v:=fr.tmps.getD d undef) (u:=af w2 τ dd) ⟨k1,k2,k3,fn,by rw[h3];exact hfn,results_tmp hres _ _ _⟩ (by rw[h3];exact hi);exact⟨dd,es,hs⟩
end
section
set_option maxRecDepth 100000
open Go.ChangeShapes Go.WideShapes Go.RowKit Go.Conc
attribute [local instance] mb
theorem N3:ownKnob Tryz.prog.godebug=none:=by kernel_rfl
theorem kS{W:AS}{i:Nat}{c:Array BY}{t:TypeId}{f:Nat×Nat}(h:W.heap[i]?=some (.cells c t f)):(strike W).heap[i]?=some (.cells c t f):=by
 rw[kR,h];exact congrArg some (r8 c t f)
theorem fO.strike{W:AS}(h:fO W)(hc:∀g,g≤Tryz.prog.globals.size→∃c t f,W.heap[g]?=some (.cells c t f)):fO (strike W):=by
 refine⟨fun g hg=> ?_,?_⟩
 ·obtain⟨c,t,f,h1⟩:=hc g hg;exact⟨_,kS h1,trivial,.inl ⟨_,_,_,rfl⟩⟩
 ·obtain⟨tC,tM,m,⟨⟨z,h1,h2⟩,h3,⟨z',h4,h5⟩⟩⟩:=h.sc;exact⟨tC,tM,m,⟨⟨z,kS h1,h2⟩,h3,⟨z',kS h4,h5⟩⟩⟩
theorem gP.strike{W:AS}(h:gP W)(hc:∃c t f,W.heap[0]?=some (.cells c t f)):gP (strike W):=by
 obtain⟨c,t,f,h1⟩:=hc;unfold gP World.cell? at h ⊢;dsimp only at h ⊢;rw[kS h1];rw[h1]at h;exact h
theorem Bg(W:AS):Under W.heap (strike W):=by
 refine⟨by simp[strike],fun i hi ⟨o,h1,h2⟩=> ?_⟩;rw[kR,h1];rcases pw o with e|⟨e,_⟩
 ·exact absurd e h2
 ·exact congrArg some e
theorem KH{W w' w2:AS}{h1:Array Obj}(hO:Old (strike W) w')(hp:bj h1 w' w2)(ho:th W.heap h1):Old W w2:=by
 have hsz:(strike W).heap.size=W.heap.size:=by simp[strike]
 refine⟨fun b hb=> ?_,?_,?_,?_⟩
 ·have e1:w'.heap[b]?=(W.heap[b]?).map dV:=by rw[hO.old b (by rw[hsz];exact hb),kR]
  obtain⟨o,e2⟩:∃o,W.heap[b]?=some o:=⟨_,IS hb⟩;rw[e2]at e1 ⊢;simp only[Option.map_some]at e1;by_cases hs:dV o=o
  ·rw[hs]at e1;rcases hp.blk b with e|⟨e,hl⟩
   ·rw[← e];exact e1
   ·rw[e1]at e;have hk:=hp.keep b (by rw[e1];exact e);rw[hk]at hl ⊢;rw[ho b hb (.inl hl)];exact e2
  ·have h0:w'.heap[b]?=some (.coro none):=by
    rcases pw o with e|⟨e,_⟩
    ·exact absurd e hs
    ·rw[e1,e]
   rw[hp.keep b h0,ho b hb (.inr ⟨o,e2,hs⟩)];exact e2
 ·have:=hO.size;rw[hsz]at this;rw[hp.size];exact this
 ·exact hp.os.trans (hO.os.trans rfl)
 ·exact hp.output.trans (hO.out.trans rfl)
theorem yC:Tryz.prog.inits.idxOf? 3=none:=by kernel_rfl
theorem yD:bH 3=none:=by kernel_rfl
theorem yz{W:AS}(hS:W.ShapedOpen Tryz.prog)(hL:laidMetH Tryz.prog Rows.compilesRow.laid W){s:ByteArray}{c:Int}(hc: -9223372036854775808≤c∧c≤9223372036854775807){Post:BY→AS→Prop}(hP:∀w2,Old W w2→Post (.bool true) w2):
 ∃M last o w' t',runNT Tryz.prog (M+1) (solo (G (AT Tryz.prog 3 #[.string s,.int .i64 c] .normal) []) W) #[]=(.ended o w',t')∧runN Tryz.prog M (solo (G (AT Tryz.prog 3 #[.string s,.int .i64 c] .normal) []) W)= .next last∧step Tryz.prog last= .ended o w'∧PR Tryz.prog Post last o w' t':=by
 obtain⟨hG,hE⟩:=IA hS hL;have h0:∀g,g≤Tryz.prog.globals.size→∃c t f,W.heap[g]?=some (.cells c t f):=fun g hg=>tN hS (by rw[iL]at hg;exact hg)
 refine FA kv Tryz.func3 yD rfl yC ?_ (Er (s:=s) hc (Bg W) (hG.strike h0) (hE.strike (h0 _ (Nat.zero_le _)))) (fun e w' h=>⟨_,h.1⟩) fun v w' w2 h1 h hp ho τ d=> ?_
 ·intro i c t hi;rcases Nat.lt_or_ge i Tryz.prog.globals.size with hlt|hge
  ·obtain⟨c',t',f',h1⟩:=h0 i (Nat.le_of_lt hlt);rw[h1]at hi;cases hi
  ·exact hge
 ·obtain⟨hv,hO⟩:=h;cases hv;have hO2:=KH hO hp ho;exact hP _ ⟨hO2.old,hO2.size,hO2.os,hO2.out⟩
noncomputable def laidWorld(os:Os):AS:=
 let w0:=World.holding Tryz.prog os ⟨#[],#[],[]⟩
 let w1:AS:= {w0 with heap:=w0.heap.modify 0 fun
  | .cells _ t frozen=>.cells #[.iface 226 (.agg #[.pointer (some ⟨3,105,none⟩)])] t frozen
  |o=>o}
 {w1 with heap:=w1.heap.modify 1 fun
  | .cells _ t frozen=>.cells im.toArray t frozen
  |o=>o}
theorem laidWorld_met(os:Os)(args:Array BY):laidMetH Tryz.prog Rows.compilesRow.laid ((laidWorld os).forCall (fun _ _=>0) ⟨#[],args,[]⟩).memory:=
 laidMetH_of_parts (laidMet_of_run3 8 (by kernel_rfl) (by kernel_rfl) (by kernel_rfl)) (by kernel_rfl)
theorem law_lifted(os:Os)(started:os.Started)(H:Type)(enc:TypeId×BY→H):
 ReturnsInLeavingWide {} Tryz.checked os 3 .any (fun w args=>(Rows.compilesSpec.pre enc Tryz.prog Tryz.f3 [] false w args∧laidMetH Tryz.prog Rows.compilesRow.laid w)∧sizedMet enc Tryz.prog Tryz.f3 (OpenSpec.ofChange Rows.compilesSpec) false w args)
  (Rows.compilesSpec.post enc Tryz.prog Tryz.f3 false true false false):=by
 refine returnsInLeavingWide_of_good (C:=Tryz.checked) N3 started
  (ChangeSpec.witness_at (enc:=enc) (C:=Tryz.checked) (os:=os) (X:=fun w _=>laidMetH Tryz.prog Rows.compilesRow.laid w) false (laidWorld os) #[.string ⟨#[]⟩,.int .i64 0] 8 rfl (by kernel_rfl) (by kernel_rfl) (by kernel_rfl) (by kernel_rfl) (by kernel_rfl) (laidWorld_met os _)) ?_
 intro w tape i _ hS _ hok h6 hholds;obtain⟨_,_,_,fn',h7,_,_,_,_,h2⟩:=hok;have e:fn'=Tryz.f3:=Option.some.inj (h7.symm.trans Tryz.func3);subst e;obtain⟨⟨⟨ds,gs,before,hw,hc⟩,hL⟩,hz⟩:=h6;have hW:=DataW.Whole.of_heap (w':=w.forCall tape i) (by rfl) hw;have hL':laidMetH Tryz.prog Rows.compilesRow.laid (w.forCall tape i):=hL.of_heap (by rfl);have h4:=hW;obtain⟨p,q,h8,hV0,rfl,hfz,hnd⟩:=hW;have hA:DataW.TrodAll enc Tryz.prog (w.forCall tape i) 0 (fun _=>true) true Tryz.f3.params.toList i.args.toList ds p:=h8;rw[Tryz.params3]at hA h2;obtain⟨v0,v1,d0,d1,p0,p1,h3,rfl,rfl,h0,h1⟩:=trodAll_two hA;rw[h3]at h2 h4 ⊢;obtain⟨s,rfl,rfl,rfl,hs⟩:=ChangeMaps.open_string Tryz.underlying9 (h2 0 9 v0 rfl rfl) h0;obtain⟨c,rfl,rfl,rfl,h5⟩:=ChangeShapes.open_int Tryz.underlying3 (h2 1 3 v1 rfl rfl) h1;have hc': -9223372036854775808≤c∧c≤9223372036854775807:=by
  simpa[Lit.wf,IntKind.min,IntKind.max,IntKind.signed,IntKind.bits]using h5
 have hV:DataW.TrodVars enc Tryz.prog (w.forCall tape i) (fun _=>true) [] gs q:=hV0;obtain⟨rfl,rfl⟩:=trodVars_none hV;obtain⟨M,last,o,w',t',e1,e2,e3,e4⟩:=yz hS hL' hc' (s:=s) (Post:=fun v W2=>Rows.compilesSpec.post enc Tryz.prog Tryz.f3 false true false false (w.forCall tape i) #[.string s,.int .i64 c] v W2) fun w2 hO=>by
  refine⟨_,_,_,[],[],[],h4,?_,?_,?_,⟨hO.os,hO.out,fun k hk=> ?_⟩,fun h=>by cases h⟩
  ·exact trodAll_mk1 (shut_bool Tryz.underlying4 true)
  ·exact trodAll_mk2 (ChangeMaps.shut_string Tryz.underlying9 hs) (ChangeShapes.shut_int Tryz.underlying3 h5)
  ·rfl
  ·rw[hO.old k hk];split <;>simp_all
 exact⟨M,last,o,w',t',e1,e2,e3,e4.mono fun v hp=>ChangeSpec.post_blind hp⟩
theorem Ay:Rows.CompilesSaid:=
 OpenClaim.holds_of_wide_leaving 3 Tryz.f3 rfl rfl rfl rfl rfl rfl rfl ⟨rfl,rfl,rfl,rfl,rfl⟩ rfl rfl rfl rfl rfl (by kernel_rfl) Tryz.func3 (by kernel_rfl)
  (of_decide_eq_true (by kernel_rfl)) (by unfold Func.isWrapper;rw[if_neg (of_decide_eq_false (by kernel_rfl))];exact⟨rfl,rfl⟩)
  (fun os started H enc _=>law_lifted os started H enc)
theorem xi:∀f fn,Tryz.pinned.checked.prog.funcNamed Rows.compilesRow.func=some f→Tryz.pinned.checked.prog.funcs[f]?=some fn→true=Tryz.pinned.checked.prog.looks []∧∀(j:Nat) t,fn.params[j]?=some t→Tryz.pinned.checked.prog.wantsStandIn t=false:=fun f fn hf hfn=>by
 obtain rfl:f=3:=Option.some.inj ((show Tryz.prog.funcNamed Rows.compilesRow.func=some 3 by kernel_rfl).symm.trans hf)|>.symm
 obtain rfl:fn=Tryz.f3:=(Option.some.inj (Tryz.func3.symm.trans hfn)).symm;refine⟨by kernel_rfl,fun j t ht=> ?_⟩;rw[Tryz.params3]at ht;match j,ht with
 |0,ht=>
  obtain rfl:9=t:=by simpa using ht
  exact(show Tryz.prog.wantsStandIn 9=false by kernel_rfl)
 |1,ht=>
  obtain rfl:3=t:=by simpa using ht
  exact(show Tryz.prog.wantsStandIn 3=false by kernel_rfl)
 |j+2,ht=>simp at ht
theorem compiles_holds:Rows.CompilesCardSaid:=
 ⟨Claim7.tied_new_at .later [.handle,.data] true (Claim7.new_of_sixth Ay Rows.compilesCard.stood.harness true rfl ⟨rfl,rfl⟩ (by kernel_rfl) (by kernel_rfl) xi) (by kernel_rfl),fun D hD=>(by cases hD),compiles_row_tie,fun h=>(by cases h),by kernel_rfl⟩
end
end Go.Proofs.YtkgohmcmmcpigaaGreatDoor
