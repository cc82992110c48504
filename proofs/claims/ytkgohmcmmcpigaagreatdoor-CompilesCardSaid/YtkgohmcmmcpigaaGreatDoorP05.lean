/- A part of the proof that Compiles holds; no condition. -/
import Derived.Laws.Rows
import Derived.Laws.OwnMore
import Derived.IntWalk
import Derived.WalkLawsBesides
import Derived.Deep.Draws
import Derived.Maps.AppendAt
import Derived.Deep.RegionHeld3
import Derived.Laws.BitsLemmas
import Derived.Laws.Bits64
import Derived.Lib.CutLaws
import Derived.Lib.IndexLaws
import Derived.StillTailTactics
import Derived.Defers
import Derived.Recover
import Derived.Test.YtkgohmcmmcpigaaGreatDoorP04
set_option linter.unusedSectionVars false
set_option linter.unusedSimpArgs false
set_option linter.unusedVariables false
namespace Go.Proofs.YtkgohmcmmcpigaaGreatDoor
open Go
open Go.Lib renaming hid->AI,indexByte->PM,hasPrefix->Qk,cut->Qm
open _root_.Nat renaming le_refl->AS,lt_succ_self->OF,le_trans->PZ,reduceSub->Q4,reduceAdd->Q5,lt_of_lt_of_le->Q6,testBit_lt_two_pow->Qa,testBit_two_pow_sub_one->Qc,pow_le_pow_right->Qd,or_lt_two_pow->Qh,zero_le->Qj,mod_eq_of_lt->Ql,lt_of_le_of_lt->Qo,and_lt_two_pow->Qp,testBit_xor->Qs,testBit_and->Qt,le_succ->Qw,testBit_or->Qy,lt_or_ge->QD
open _root_.List renaming mem_singleton->AT,range'->IN,mem_cons->IS,length_cons->IT,drop_succ_cons->PG,append_toArray->PJ,setIfInBounds_toArray->PL,length_nil->PO,size_toArray->PP,push_toArray->PR,not_mem_nil->PU,cons_append->PV,nil_append->PY,set_cons_zero->Q7,set_cons_succ->Q8,drop_zero->Qb,getElem?_append_right->Qq,getElem?_append_left->Qr,getElem?_eq_none->Qz,mem_cons_self->QE
open Go renaming World->By,Value->BY,TypeId->Q2,Frame->Q9,callFunc->Qg,Program->QA
open Go.Act renaming put->If
open Go.Region renaming ready->No
open _root_.Array renaming replicate_zero->PD,replicate_succ->PE,getElem?_eq_some_iff->PN,size->PW,getElem?_setIfInBounds_ne->Q3,replicate->Qv,getElem?_eq_none->Qx
open Go.World renaming setCell->PK,cell?->Qn,cell?_alloc_lt->QB
open _root_.Ne renaming symm->PX
open _root_.Int renaming le_refl->Qe,natCast_nonneg->QH
open _root_.Option renaming isSome_iff_exists->Qf,map_eq_some_iff->Qi
open Go.Frame renaming finish_at->Qu,enter->QJ
open Go.Exit renaming inBlock->QI
open Go.Instr renaming typeAssert->QK
open _root_.Bool renaming and_eq_true->QL
section
open Go.RowKit
def ac(w:By)(g:Nat)(t:Q2)(cs:Array BY):Prop:=w.heap[g]?=some (.cells cs t (0,0))
def Kp(B:Nat)(X:List Nat)(w w':By):Prop:=w.heap.size≤w'.heap.size∧∀b,b<B→b∉X→w'.heap[b]?=w.heap[b]?
section
variable{w w' w2:By}{g B B':Nat}{t:Q2}{cs:Array BY}{X X':List Nat}
theorem ac.lt(h:ac w g t cs):g<w.heap.size:=by
 rcases QD g w.heap.size with hlt|hge
 ·exact hlt
 ·unfold ac at h;rw[Qx hge]at h;cases h
theorem ac.cell(h:ac w g t cs)(i:Nat):w.cell? ⟨g,i,none⟩=cs[i]?:=cell_of_row w g i cs t (0,0) h
theorem ac.frozen(h:ac w g t cs)(i:Nat):w.frozen? ⟨g,i,none⟩=false:=by
 unfold ac at h;simp[World.frozen?,h]
theorem ac.new(w:By)(t:Q2)(cs:Array BY):ac (w.alloc (.cells cs t)) w.heap.size t cs:=heap_alloc_new w _
theorem ac.new2(w:By)(o:Obj)(t:Q2)(cs:Array BY):ac ((w.alloc o).alloc (.cells cs t)) (w.heap.size+1) t cs:=by
 have:=ac.new (w.alloc o) t cs;rwa [World.size_alloc]at this
theorem ac.drew(h:ac w g t cs):ac w.drew g t cs:=h
theorem ac.drewN(h:ac w g t cs)(n:Nat):ac (w.drewN n) g t cs:=h
theorem ac.alloc(h:ac w g t cs)(o:Obj):ac (w.alloc o) g t cs:=(Below.heap_alloc w o g h.lt).trans h
theorem ac.ci(h:ac w g t cs)(i:Nat)(u:BY):ac (w.setCell ⟨g,i,none⟩ u) g t (cs.setIfInBounds i u):=by
 unfold ac at h ⊢;simp[PK,Array.getElem?_modify,h]
theorem ac.far(h:ac w g t cs){p:Addr}(hp:g≠p.block)(u:BY):ac (w.setCell p u) g t cs:=(Below.heap_setCell w p u g hp).trans h
theorem ac.kp(h:ac w g t cs)(hk:Kp B X w w')(hg:g<B)(hx:g∉X):ac w' g t cs:=(hk.2 g hg hx).trans h
theorem ac.ab(h:ac w g t cs)(he:w'.heap=w.heap):ac w' g t cs:=by unfold ac at *;rw[he];exact h
theorem Kp.ab{w0:By}(h:Kp B X w0 w)(he:w'.heap=w.heap):Kp B X w0 w':=by unfold Kp at *;rw[he];exact h
theorem Kp.refl(w:By):Kp B X w w:=⟨AS _,fun _ _ _=>rfl⟩
theorem Kp.trans(h:Kp B X w w')(h':Kp B X w' w2):Kp B X w w2:=⟨PZ h.1 h'.1,fun b hb hx=>(h'.2 b hb hx).trans (h.2 b hb hx)⟩
theorem Kp.mono(h:Kp B X w w')(hB:B'≤B)(hX:∀x∈X,x<B'→x∈X'):Kp B' X' w w':=⟨h.1,fun b hb hx=>h.2 b (Q6 hb hB) fun hm=>hx (hX b hm hb)⟩
theorem Kp.alloc(h:Kp B X w w')(hB:B≤w.heap.size)(o:Obj):Kp B X w (w'.alloc o):=
 ⟨by have:=h.1;simp;omega,fun b hb hx=>(Below.heap_alloc w' o b (by have:=h.1;omega)).trans (h.2 b hb hx)⟩
theorem Kp.setCell(h:Kp B X w w'){p:Addr}(hp:p.block<B→p.block∈X)(u:BY):Kp B X w (w'.setCell p u):=
 ⟨by have:=h.1;simpa using this,fun b hb hx=>(Below.heap_setCell w' p u b (fun e=>hx (e▸hp (e▸hb)))).trans (h.2 b hb hx)⟩
theorem Kp.drew(h:Kp B X w w'):Kp B X w w'.drew:=h
theorem Kp.drewN(h:Kp B X w w')(n:Nat):Kp B X w (w'.drewN n):=h
theorem Kp.grown(h:Kp B X w w'){row:Option Nat}(hg:w'.grownBy w2 row)(hB:B≤w.heap.size)(hr:∀x,row=some x→x<B→x∈X):Kp B X w w2:=
 ⟨PZ h.1 hg.size,fun b hb hx=>(hg.block b (by have:=h.1;omega) (fun e=>hx (hr b e.symm hb))).trans (h.2 b hb hx)⟩
end
@[reducible] noncomputable def dP:aJ:=NJ Tryz.prog.globals.size
def bA:Nat→Option Code:=only [93,94,117,118,141,142,162,174,92]
noncomputable abbrev PA:QA:=alt Tryz.prog bA
theorem PA.func{f:Nat}{fn:Func}(hf:Tryz.prog.funcs[f]?=some fn)(h:[93,94,117,118,141,142,162,174,92].contains f=true):PA.funcs[f]?=some fn:=uJ hf (ie h)
@[go_sem] theorem PA.Ph(args:Array BY)(w:By):(Qg 93 args).run PA w= .ok (.enter 93 args) w:=ao (PA.func Tryz.func93 (by decide)) (by kernel_rfl) rfl args w
@[go_sem] theorem PA.Pg(args:Array BY)(w:By):(Qg 94 args).run PA w= .ok (.enter 94 args) w:=ao (PA.func Tryz.func94 (by decide)) (by kernel_rfl) rfl args w
@[go_sem] theorem PA.P1(args:Array BY)(w:By):(Qg 117 args).run PA w= .ok (.enter 117 args) w:=ao (PA.func Tryz.func117 (by decide)) (by kernel_rfl) rfl args w
@[go_sem] theorem PA.P0(args:Array BY)(w:By):(Qg 118 args).run PA w= .ok (.enter 118 args) w:=ao (PA.func Tryz.func118 (by decide)) (by kernel_rfl) rfl args w
@[go_sem] theorem PA.ON(args:Array BY)(w:By):(Qg 141 args).run PA w= .ok (.enter 141 args) w:=ao (PA.func Tryz.func141 (by decide)) (by kernel_rfl) rfl args w
@[go_sem] theorem PA.OM(args:Array BY)(w:By):(Qg 142 args).run PA w= .ok (.enter 142 args) w:=ao (PA.func Tryz.func142 (by decide)) (by kernel_rfl) rfl args w
@[go_sem] theorem PA.OA(args:Array BY)(w:By):(Qg 162 args).run PA w= .ok (.enter 162 args) w:=ao (PA.func Tryz.func162 (by decide)) (by kernel_rfl) rfl args w
@[go_sem] theorem PA.Ou(args:Array BY)(w:By):(Qg 174 args).run PA w= .ok (.enter 174 args) w:=ao (PA.func Tryz.func174 (by decide)) (by kernel_rfl) rfl args w
@[go_sem] theorem PA.Pi(args:Array BY)(w:By):(Qg 92 args).run PA w= .ok (.enter 92 args) w:=ao (PA.func Tryz.func92 (by decide)) (by kernel_rfl) rfl args w
theorem ko(p:Nat)(w:By)(n:Int)(c0 c1 c2 c3 c4 c5 c6 c7 c8 c9 gr:BY)(hn:0≤n)(hn2:n≤1000000)(hB:ac w p 197 #[c0,c1,c2,c3,c4,c5,c6,c7,c8,c9,.int .i64 n,gr]):
 Calls PA 117 #[.pointer (some ⟨p,0,none⟩)] w fun e w'=>e= .returned (.agg #[.int .i64 (n+1)])∧ac w' p 197 #[c0,c1,c2,c3,c4,c5,c6,c7,c8,c9,.int .i64 (n+1),gr]∧Kp w.heap.size [p] w w':=by
 have hc:w.cell? ⟨p,10,none⟩=some (.int .i64 n):=hB.cell 10;have hf:=hB.frozen 10;have hlt:=hB.lt;go_enter (PA.func Tryz.func117 (by decide)),Tryz.ntmps117
 go_wp2;refine bodyPost_ret (v:=.agg #[.int .i64 (n+1)]) (by simp[results,Tryz.results117,go_sem]) rfl ⟨rfl,(hB.ci 10 _).alloc _,?_⟩;exact((Kp.refl w).setCell (p:=⟨p,10,none⟩) (fun _=>AT.2 rfl) _).alloc (AS _) _
def gN(e:Nat)(b:Bool):Option Addr:=if b then some ⟨e,0,none⟩else none
def Tok.val(e:Nat)(t:Tok):BY:=.agg #[.int .i64 t.kind,.int .i64 t.at_,.int .u64 t.b0,.int .u64 t.b1,.int .u64 t.b2,.int .u64 t.b3,.int .i64 t.least,.int .i64 t.most,.pointer (gN e t.bad)]
structure PS(p r e cap:Nat)(tm:Bool)(w:By)(ts:List Tok)(t:Tok)(n g:Int):Prop where
 blk:ac w p 197 #[.chan (some r),.int .i64 t.kind,.int .i64 t.at_,.int .u64 t.b0,.int .u64 t.b1,.int .u64 t.b2,.int .u64 t.b3,.int .i64 t.least,.int .i64 t.most,.pointer (gN e t.bad),.int .i64 n,.int .i64 g]
 chan:∃s rc,w.heap[r]?=some (.chan cap (ts.map (Tok.val e)).toArray false s rc tm)
theorem ku(p:BY)(k at_:Int)(w:By):Calls PA 141 #[p,.int .i64 k,.int .i64 at_] w fun e w'=>e= .panicked [{v:=.iface 133 (.pointer (some ⟨w.heap.size,0,none⟩)),recovered:=false}]∧w'=w.alloc (.cells #[.int .i64 at_,.int .i64 k] 137):=by
 go_enter (PA.func Tryz.func141 (by decide)),Tryz.ntmps141
 go_wp2;exact⟨rfl,rfl,rfl⟩
theorem PS.ab{p r e cap:Nat}{tm:Bool}{w w':By}{ts:List Tok}{t:Tok}{n g:Int}(h:PS p r e cap tm w ts t n g)(he:w'.heap=w.heap):PS p r e cap tm w' ts t n g:=
 ⟨h.blk.ab he,by rw[he];exact h.chan⟩
theorem ac.ay{w:By}{g r:Nat}{t:Q2}{cs:Array BY}(h:ac w g t cs)(hr:g≠r)(o:Obj):ac (ay w r o) g t cs:=by
 unfold ac Go.Proofs.YtkgohmcmmcpigaaGreatDoor.ay at *;rw[Q3 (PX hr)];exact h
theorem Kp.ay{B:Nat}{X:List Nat}{w w':By}(h:Kp B X w w'){r:Nat}(hr:r<B→r∈X)(o:Obj):Kp B X w (ay w' r o):=
 ⟨by have:=h.1;simpa[Go.Proofs.YtkgohmcmmcpigaaGreatDoor.ay]using this,fun b hb hx=>by
  have:r≠b:=fun e=>hx (e▸hr (e▸hb))
  show(w'.heap.setIfInBounds r o)[b]?=_;rw[Q3 this];exact h.2 b hb hx⟩
theorem qU{w:By}{r:Nat}{o o':Obj}(h:w.heap[r]?=some o'):(ay w r o).heap[r]?=some o:=by
 have:=(PN.1 h).1;unfold ay;dsimp only;rw[Array.getElem?_setIfInBounds_self_of_lt this]
theorem ac.x9{w:By}{g r:Nat}{t:Q2}{cs:Array BY}{cap s rc:Nat}{bf:Array BY}{c tm:Bool}(h:ac w g t cs)(hc:w.heap[r]?=some (.chan cap bf c s rc tm)):g≠r:=by
 rintro rfl;unfold ac at h;rw[h]at hc;cases hc
theorem AG{w:By}{r:Nat}{o:Obj}(h:w.heap[r]?=some o){p:Addr}(hp:r≠p.block)(u:BY):(w.setCell p u).heap[r]?=some o:=(Below.heap_setCell w p u r hp).trans h
theorem PA.recv{ok:Bool}{ρ:Operand→BY}{o:Oper}{x:Operand}(r:Nat)(h:o.op= .recv 192 x ok)(hx:ρ x= .chan (some r))(u:By):
 (execOp ρ o).run PA u= .ok (.comm #[{chan:=.chan (some r),send:=none,zero:=.agg #[.int .i64 0,.int .i64 0,.int .u64 0,.int .u64 0,.int .u64 0,.int .u64 0,.int .i64 0,.int .i64 0,.pointer none]}] true (.recv ok)) u:=by
 unfold execOp;simp[h,hx,go_sem]
abbrev nY(w:By)(p e:Nat)(t:Tok):By:=((((((((w.setCell ⟨p,1,none⟩ (.int .i64 t.kind)).setCell ⟨p,2,none⟩ (.int .i64 t.at_)).setCell ⟨p,3,none⟩ (.int .u64 t.b0)).setCell ⟨p,4,none⟩ (.int .u64 t.b1)).setCell ⟨p,5,none⟩ (.int .u64 t.b2)).setCell ⟨p,6,none⟩ (.int .u64 t.b3)).setCell ⟨p,7,none⟩ (.int .i64 t.least)).setCell ⟨p,8,none⟩ (.int .i64 t.most)).setCell ⟨p,9,none⟩ (.pointer (gN e t.bad))
theorem Di{w:By}{p e:Nat}{ty:Q2}{c0 c1 c2 c3 c4 c5 c6 c7 c8 c9 c10 c11:BY}(h:ac w p ty #[c0,c1,c2,c3,c4,c5,c6,c7,c8,c9,c10,c11])(t:Tok):
 ac (nY w p e t) p ty #[c0,.int .i64 t.kind,.int .i64 t.at_,.int .u64 t.b0,.int .u64 t.b1,.int .u64 t.b2,.int .u64 t.b3,.int .i64 t.least,.int .i64 t.most,.pointer (gN e t.bad),c10,c11]:=by
 have:=((((((((h.ci 1 (.int .i64 t.kind)).ci 2 (.int .i64 t.at_)).ci 3 (.int .u64 t.b0)).ci 4 (.int .u64 t.b1)).ci 5 (.int .u64 t.b2)).ci 6 (.int .u64 t.b3)).ci 7 (.int .i64 t.least)).ci 8 (.int .i64 t.most)).ci 9 (.pointer (gN e t.bad));simpa only[PL,Q8,Q7]using this
theorem Dh{w:By}{p e r:Nat}{o:Obj}(h:w.heap[r]?=some o)(hr:r≠p)(t:Tok):(nY w p e t).heap[r]?=some o:=by
 unfold nY;repeat refine AG ?_ hr _
 exact h
theorem Fo{B:Nat}{X:List Nat}{w w':By}{p e:Nat}(h:Kp B X w w')(hp:p<B→p∈X)(t:Tok):Kp B X w (nY w' p e t):=by
 unfold nY;repeat refine Kp.setCell ?_ hp _
 exact h
section
attribute [local instance] dP
variable{T:bw PA}
set_option maxHeartbeats 1000000 in
theorem LC{p r e cap:Nat}{tm:Bool}{w:By}{t t1:Tok}{ts:List Tok}{n g:Int}(h:PS p r e cap tm w (t1::ts) t n g):
 dh (aK T) 93 #[.pointer (some ⟨p,0,none⟩)] w fun e' w'=>PS p r e cap tm w' ts t1 n g∧Kp w.heap.size [p,r] w w'∧((t1.kind≠8∧e'= .returned (.tuple #[]))∨(t1.kind=8∧e'= .panicked [{v:=.iface 133 (.pointer (gN e t1.bad)),recovered:=false}])):=by
 obtain⟨hB,s,rc,hch⟩:=h;refine cF trivial (fun w' h=>by rcases h.2.2 with⟨_,h⟩|⟨_,h⟩<;>cases h) (PA.func Tryz.func93 (by decide)) rfl ?_;simp only[Tryz.ntmps93,PP,IT,PO,Q5,Q4,PE,PD,PR,PJ,PY,PV];refine ag (fun K hK=> ?_);refine aC ?_;show bo _ _ _ (IN 0 (5+4)) _ _;refine b8 0 5 4 (fun N hN w1 he=> ?_) (by decide);simp only[zq1];have hB1:=hB.ab he;have hc0:w1.cell? ⟨p,0,none⟩=some (.chan (some r)):=hB1.cell 0;go_wp2;refine hN.out _ _ ?_;clear hN N;have hch1:w1.heap[r]?=some (.chan cap (Tok.val e t1::ts.map (Tok.val e)).toArray false s rc tm):=by rw[he];exact hch
 have hne:=hB1.x9 hch1;refine xP (rest:=IN 6 (3+0)) rfl rfl (PA.recv r rfl rfl) hch1 ?_;refine b8 6 3 0 (fun N hN w2 he2=> ?_) (by decide);have hB2:=(hB1.ay hne _).ab he2;have hch2:=(congrArg (·[r]?) he2).trans (qU hch1);simp only[zq1];have f_w2:∀i,w2.frozen? ⟨p,i,none⟩=false:=hB2.frozen;have c0_w2:w2.cell? ⟨p,0,none⟩=some (.chan (some r)):=hB2.cell 0;have c1_w2:w2.cell? ⟨p,1,none⟩=some _:=hB2.cell 1;have c2_w2:w2.cell? ⟨p,2,none⟩=some _:=hB2.cell 2;have c3_w2:w2.cell? ⟨p,3,none⟩=some _:=hB2.cell 3;have c4_w2:w2.cell? ⟨p,4,none⟩=some _:=hB2.cell 4;have c5_w2:w2.cell? ⟨p,5,none⟩=some _:=hB2.cell 5;have c6_w2:w2.cell? ⟨p,6,none⟩=some _:=hB2.cell 6;have c7_w2:w2.cell? ⟨p,7,none⟩=some _:=hB2.cell 7;have c8_w2:w2.cell? ⟨p,8,none⟩=some _:=hB2.cell 8;have c9_w2:w2.cell? ⟨p,9,none⟩=some _:=hB2.cell 9;have c10_w2:w2.cell? ⟨p,10,none⟩=some _:=hB2.cell 10;have c11_w2:w2.cell? ⟨p,11,none⟩=some _:=hB2.cell 11;simp only[If,Tok.val,Bool.false_eq_true,if_false];go_wp2;refine hN.out _ _ (aZ (hK.out _ _ ?_));clear hN N hK K;have hp:p<w.heap.size→p∈[p,r]:=fun _=>QE
 have hK2:Kp w.heap.size [p,r] w w2:=(((Kp.refl w).ab he:Kp w.heap.size [p,r] w w1).ay (fun _=>List.mem_cons_of_mem _ (AT.2 rfl)) _).ab he2;have hB3:=Di (e:=e) hB2 t1;have hch3:=Dh (e:=e) hch2 (PX hne) t1;have hK3:=Fo (e:=e) hK2 hp t1;clear f_w2 c0_w2 c1_w2 c2_w2 c3_w2 c4_w2 c5_w2 c6_w2 c7_w2 c8_w2 c9_w2 c10_w2 c11_w2;show cV _ _ _ _ (nY w2 p e t1);generalize nY w2 p e t1=w3 at hB3 hch3 hK3 ⊢;have hPS:PS p r e cap tm w3 ts t1 n g:=⟨hB3,_,_,hch3⟩;clear hB3 hch3 hB2 hch2 hB1 hch1 hB hch hc0 he he2 hK2;have hh:=AI hPS;have hk:=AI hK3;clear hPS hK3;refine ae (fun w4 he4=> ?_);have hB4:=hh.out.blk.ab he4;have hS4:=AI (hh.out.ab he4);have hK4:=AI (hk.out.ab he4);have f_w4:∀i,w4.frozen? ⟨p,i,none⟩=false:=hB4.frozen;have c0_w4:w4.cell? ⟨p,0,none⟩=some (.chan (some r)):=hB4.cell 0;have c1_w4:w4.cell? ⟨p,1,none⟩=some _:=hB4.cell 1;have c2_w4:w4.cell? ⟨p,2,none⟩=some _:=hB4.cell 2;have c3_w4:w4.cell? ⟨p,3,none⟩=some _:=hB4.cell 3;have c4_w4:w4.cell? ⟨p,4,none⟩=some _:=hB4.cell 4;have c5_w4:w4.cell? ⟨p,5,none⟩=some _:=hB4.cell 5;have c6_w4:w4.cell? ⟨p,6,none⟩=some _:=hB4.cell 6;have c7_w4:w4.cell? ⟨p,7,none⟩=some _:=hB4.cell 7;have c8_w4:w4.cell? ⟨p,8,none⟩=some _:=hB4.cell 8;have c9_w4:w4.cell? ⟨p,9,none⟩=some _:=hB4.cell 9;have c10_w4:w4.cell? ⟨p,10,none⟩=some _:=hB4.cell 10;have c11_w4:w4.cell? ⟨p,11,none⟩=some _:=hB4.cell 11;by_cases h8:t1.kind=8
 ·have h0:(t1.kind==8)=true:=by simpa using h8
  go_wp2;exact⟨rfl,hS4.out,hK4.out,.inr ⟨h8,rfl⟩⟩
 ·have h0:(t1.kind==8)=false:=by simpa using h8
  go_wp2;exact bodyPost_end (results_none rfl _ _ _) rfl ⟨hS4.out,hK4.out,.inl ⟨h8,rfl⟩⟩
end
end
section
open Go.RowKit
inductive Repr(w:By):(Nat→Prop)→BY→Nd→Prop
 |set {S q id b0 b1 b2 b3}:S q→ac w q 307 #[.int .i64 id,.int .u64 b0,.int .u64 b1,.int .u64 b2,.int .u64 b3]→Repr w S (.iface 305 (.pointer (some ⟨q,0,none⟩))) (.set id b0 b1 b2 b3)
 |edge {S q id fin}:S q→ac w q 304 #[.int .i64 id,.bool fin]→Repr w S (.iface 302 (.pointer (some ⟨q,0,none⟩))) (.edge id fin)
 |seq {S q id sl ks vs}:S q→ac w q 269 #[.int .i64 id,sl]→w.ownsRow 0 86 1 sl vs.length vs→(∀b,sl.ownBlock=some b→S b)→vs.length=ks.length→(∀(i:Nat) v k,vs[i]?=some v→ks[i]?=some k→Repr w S v k)→Repr w S (.iface 268 (.pointer (some ⟨q,0,none⟩))) (.seq id ks)
 |alt {S q id sl ks vs}:S q→ac w q 250 #[.int .i64 id,sl]→w.ownsRow 0 86 1 sl vs.length vs→(∀b,sl.ownBlock=some b→S b)→vs.length=ks.length→(∀(i:Nat) v k,vs[i]?=some v→ks[i]?=some k→Repr w S v k)→Repr w S (.iface 244 (.pointer (some ⟨q,0,none⟩))) (.alt id ks)
 |grp {S q id num v k}:S q→ac w q 315 #[.int .i64 id,v,.int .i64 num]→Repr w S v k→Repr w S (.iface 313 (.pointer (some ⟨q,0,none⟩))) (.grp id k num)
 |rep {S q id least most v k}:S q→ac w q 288 #[.int .i64 id,v,.int .i64 least,.int .i64 most]→Repr w S v k→Repr w S (.iface 286 (.pointer (some ⟨q,0,none⟩))) (.rep id k least most)
theorem bu{w w':By}{base:Nat}{e:Q2}{size n:Nat}{v:BY}{xs:List BY}(h:w.ownsRow base e size v n xs)(hk:∀b,v.ownBlock=some b→b<w.heap.size→w'.heap[b]?=w.heap[b]?):w'.ownsRow base e size v n xs:=by
 obtain⟨h1,h2⟩:=h;refine⟨h1,?_⟩;rcases h2 with h2|⟨g,cap,cur,rfl,hb,hh,h3⟩
 ·exact .inl h2
 ·refine .inr ⟨g,cap,cur,rfl,hb,?_,h3⟩;rw[hk g rfl (PN.1 hh).1];exact hh
theorem fj{w:By}{base:Nat}{e:Q2}{size n:Nat}{v:BY}{xs:List BY}(h:w.ownsRow base e size v n xs){b:Nat}(hb:v.ownBlock=some b):b<w.heap.size∧base≤b:=by
 rcases h.2 with⟨rfl,_⟩|⟨g,cap,cur,rfl,hg,hh,h3⟩
 ·cases hb
 ·cases hb;exact⟨(PN.1 hh).1,hg⟩
theorem Repr.keep{w w':By}{S:Nat→Prop}{v:BY}{nd:Nd}(h:Repr w S v nd)(hk:∀b,S b→b<w.heap.size→w'.heap[b]?=w.heap[b]?):Repr w' S v nd:=by
 have blk:∀{q t cs},S q→ac w q t cs→ac w' q t cs:=fun hs hb=>(hk _ hs hb.lt).trans hb
 induction h with
 |set hs hb=>exact .set hs (blk hs hb)
 |edge hs hb=>exact .edge hs (blk hs hb)
 |seq hs hb ho hS hl _ ih=>exact .seq hs (blk hs hb) (bu ho fun b e hlt=>hk b (hS b e) hlt) hS hl fun i v k h1 h2=>ih i v k h1 h2
 |alt hs hb ho hS hl _ ih=>exact .alt hs (blk hs hb) (bu ho fun b e hlt=>hk b (hS b e) hlt) hS hl fun i v k h1 h2=>ih i v k h1 h2
 |grp hs hb _ ih=>exact .grp hs (blk hs hb) ih
 |rep hs hb _ ih=>exact .rep hs (blk hs hb) ih
theorem Repr.mono{w:By}{S S':Nat→Prop}{v:BY}{nd:Nd}(h:Repr w S v nd)(hs:∀b,S b→b<w.heap.size→S' b):Repr w S' v nd:=by
 induction h with
 |set h hb=>exact .set (hs _ h hb.lt) hb
 |edge h hb=>exact .edge (hs _ h hb.lt) hb
 |seq h hb ho hS hl _ ih=>exact .seq (hs _ h hb.lt) hb ho (fun b e=>hs b (hS b e) (fj ho e).1) hl fun i v k h1 h2=>ih i v k h1 h2
 |alt h hb ho hS hl _ ih=>exact .alt (hs _ h hb.lt) hb ho (fun b e=>hs b (hS b e) (fj ho e).1) hl fun i v k h1 h2=>ih i v k h1 h2
 |grp h hb _ ih=>exact .grp (hs _ h hb.lt) hb ih
 |rep h hb _ ih=>exact .rep (hs _ h hb.lt) hb ih
theorem Repr.form{w:By}{S:Nat→Prop}{v:BY}{nd:Nd}(h:Repr w S v nd):∃t q,v= .iface t (.pointer (some ⟨q,0,none⟩)):=by cases h<;>exact⟨_,_,rfl⟩
theorem Repr.one{w:By}{S:Nat→Prop}{v:BY}{nd:Nd}(h:Repr w S v nd):v.oneCell'=true:=by cases h<;>rfl
def ErrAt(e base:Nat)(w':By)(bad:Bool):uL→Option Addr→Prop
 | .tok,a=>a=gN e bad
 | .own k at_,a=>∃q,a=some ⟨q,0,none⟩∧base≤q∧ac w' q 137 #[.int .i64 at_,.int .i64 k]
def thrown(a:Option Addr):List PanicEntry:=[{v:=.iface 133 (.pointer a),recovered:=false}]
abbrev jx(p r e cap:Nat)(tm:Bool)(w:By)(s:cZ):Prop:=PS p r e cap tm w s.ts s.t s.n s.g
def Post(p r e cap:Nat)(tm:Bool)(B:Nat)(w:By):cO Nd→Ending→By→Prop
 | .ok nd s,e',w'=>∃v,e'= .returned v∧jx p r e cap tm w' s∧Kp B [p,r] w w'∧Repr w' (fun b=>B≤b) v nd
 | .err x s,e',w'=>∃a,e'= .panicked (thrown a)∧jx p r e cap tm w' s∧Kp B [p,r] w w'∧ErrAt e B w' s.t.bad x a
theorem Post.no{p r e cap:Nat}{tm:Bool}{B:Nat}{w w':By}{x:cO Nd}:¬ Post p r e cap tm B w x .outgrown w':=by
 cases x<;>(rintro⟨_,h,_⟩;cases h)
def Kids(B:Nat)(w:By)(q:Nat)(sl:BY)(ks:List Nd):Prop:=
 ∃vs,w.ownsRow B 86 1 sl vs.length vs∧sl.ownBlock≠some q∧vs.length=ks.length∧∀(i:Nat) v k,vs[i]?=some v→ks[i]?=some k→Repr w (fun b=>B≤b∧b≠q∧sl.ownBlock≠some b) v k
theorem Kids.keep{B:Nat}{w w':By}{q:Nat}{sl:BY}{ks:List Nd}(h:Kids B w q sl ks)(hk:∀b,B≤b→b≠q→b<w.heap.size→w'.heap[b]?=w.heap[b]?):Kids B w' q sl ks:=by
 obtain⟨vs,h1,h2,h3,h4⟩:=h;exact⟨vs,bu h1 fun b e hlt=>hk b (fj h1 e).2 (fun hq=>h2 (hq▸e)) hlt,h2,h3,fun i v k hv hk'=>(h4 i v k hv hk').keep fun b hb hlt=>hk b hb.1 hb.2.1 hlt⟩
theorem Kids.nil(B:Nat)(w:By)(q:Nat):Kids B w q (.slice none 0 0) []:=⟨[],⟨rfl,.inl ⟨rfl,rfl⟩⟩,nofun,rfl,fun i v k h=>by simp at h⟩
theorem Kids.append{B C:Nat}{w w':By}{q:Nat}{sl sl' v:BY}{ks:List Nd}{k:Nd}{n:Nat}{vs:List BY}(h1:w.ownsRow B 86 1 sl vs.length vs)(h2:sl.ownBlock≠some q)(h3:vs.length=ks.length)(h4:∀(i:Nat) v k,vs[i]?=some v→ks[i]?=some k→Repr w (fun b=>B≤b∧b≠q∧sl.ownBlock≠some b) v k)
 (hr:Repr w (fun b=>C≤b) v k) (hq:q<C) (hs:∀b,sl.ownBlock=some b→b<C) (hBC:B≤C) (hqs:q<w.heap.size)
 (ho:w'.ownsRow B 86 1 sl' (vs.length+1) (vs++[v])) (hg:w.grownBy w' sl.ownBlock) (ha:sl'.ownBlock=sl.ownBlock∨sl'.ownBlock=some w.heap.size):Kids B w' q sl' (ks++[k]):=by
 have key:∀{v k},Repr w (fun b=>B≤b∧b≠q∧sl.ownBlock≠some b) v k→Repr w' (fun b=>B≤b∧b≠q∧sl'.ownBlock≠some b) v k:=fun hx=>by
  refine(hx.mono (S':=fun b=>(B≤b∧b≠q∧sl'.ownBlock≠some b)∧sl.ownBlock≠some b) fun b hb hlt=>⟨⟨hb.1,hb.2.1,?_⟩,hb.2.2⟩).keep (fun b hb hlt=>hg.block b hlt fun e=>hb.2 e.symm)|>.mono fun b hb _=>hb.1
  rcases ha with e|e
  ·rw[e];exact hb.2.2
  ·rw[e];intro e2;have:=Option.some.inj e2;omega
 refine⟨vs++[v],by simpa using ho,?_,by simp[h3],fun i u x hu hx=> ?_⟩
 ·rcases ha with e|e
  ·rw[e];exact h2
  ·rw[e];intro e2;have:=Option.some.inj e2;omega
 ·rcases Nat.lt_trichotomy i vs.length with hlt|rfl|hgt
  ·rw[Qr hlt]at hu;rw[Qr (by omega)]at hx;exact key (h4 i u x hu hx)
  ·rw[Qq (AS _)]at hu;rw[h3,Qq (AS _)]at hx;simp at hu hx;subst hu;subst hx;refine key (hr.mono fun b hb hlt=>⟨by omega,by omega,fun e=> ?_⟩);have:=hs b e;omega
  ·have:(vs++[v]).length≤i:=by simp;omega
   rw[Qz this]at hu;cases hu
end
section
open Go.RowKit
attribute [local instance] dP
variable{T:bw PA}
def Does(T:bw PA)(F p r e cap:Nat)(tm:Bool)(m:Int→cZ→Option (cO Nd)):Prop:=∀d s w x,m d s=some x→jx p r e cap tm w s→dh (aK T) F #[.pointer (some ⟨p,0,none⟩),.int .i64 d] w (Post p r e cap tm w.heap.size w x)
theorem kN{α β:Type}{x:Option (cO α)}{f:α→cZ→Option (cO β)}{y:cO β}(h:bL x f=some y):(∃e s,x=some (.err e s)∧y= .err e s)∨∃a s,x=some (.ok a s)∧f a s=some y:=by
 cases x with
 |none=>cases h
 |some z=>cases z with
  |ok a s=>exact .inr ⟨a,s,rfl,h⟩
  |err e s=>exact .inl ⟨e,s,rfl,(Option.some.inj h).symm⟩
theorem fT{s:cZ}{y:cO Int}(h:gE s=some y):y= .ok (s.n+1) ⟨s.ts,s.t,s.n+1,s.g⟩∧0≤s.n∧s.n<1000000:=by
 unfold gE at h;split at h
 ·rename_i hn;exact⟨(Option.some.inj h).symm,hn⟩
 ·cases h
theorem step_some{s:cZ}{y:cO Unit}(h:cy s=some y):∃t1 ts,s.ts=t1::ts∧y=if t1.kind=8 then .err .tok ⟨ts,t1,s.n,s.g⟩else .ok () ⟨ts,t1,s.n,s.g⟩:=by
 unfold cy at h;cases hs:s.ts with
 |nil=>rw[hs]at h;cases h
 |cons t ts=>rw[hs]at h;exact⟨t,ts,rfl,(Option.some.inj h).symm⟩
def Jp(p r e cap:Nat)(tm:Bool)(e':Ending)(w':By):cO Unit→Prop
 | .ok _ s'=>jx p r e cap tm w' s'∧e'= .returned (.tuple #[])
 | .err x s'=>x= .tok∧jx p r e cap tm w' s'∧e'= .panicked (thrown (gN e s'.t.bad))
theorem mp{p r e cap:Nat}{tm:Bool}{w:By}{s:cZ}{y:cO Unit}(hs:cy s=some y)(h:jx p r e cap tm w s):
 dh (aK T) 93 #[.pointer (some ⟨p,0,none⟩)] w fun e' w'=>Kp w.heap.size [p,r] w w'∧Jp p r e cap tm e' w' y:=by
 obtain⟨t1,ts,h0,rfl⟩:=step_some hs;have h':PS p r e cap tm w (t1::ts) s.t s.n s.g:=h0▸h;refine(LC h').mono fun e' w' ⟨h1,h2,h3⟩=>⟨h2,?_⟩
 rcases h3 with⟨hk,rfl⟩|⟨hk,rfl⟩
 ·rw[if_neg hk];exact⟨h1,rfl⟩
 ·rw[if_pos hk];exact⟨rfl,h1,rfl⟩
theorem ErrAt.mono{e B B':Nat}{w:By}{bad:Bool}{x:uL}{a:Option Addr}(h:ErrAt e B w bad x a)(hB:B'≤B):ErrAt e B' w bad x a:=by
 cases x with
 |tok=>exact h
 |own k at_=>obtain⟨q,h1,h2,h3⟩:=h;exact⟨q,h1,PZ hB h2,h3⟩
theorem Kids.alt{B:Nat}{w:By}{q:Nat}{sl:BY}{ks:List Nd}{id:Int}(h:Kids B w q sl ks)(hq:B≤q)(hb:ac w q 250 #[.int .i64 id,sl]):Repr w (fun b=>B≤b) (.iface 244 (.pointer (some ⟨q,0,none⟩))) (.alt id ks):=by
 obtain⟨vs,h1,h2,h3,h4⟩:=h;exact .alt hq hb ⟨h1.1,h1.2.imp (fun h=>h) fun⟨g,cap,cur,k1,k2,k3⟩=>⟨g,cap,cur,k1,Qj _,k3⟩⟩ (fun b e=>(fj h1 e).2) h3 fun i v k hv hk=>(h4 i v k hv hk).mono fun b hb _=>hb.1
theorem Kids.seq{B:Nat}{w:By}{q:Nat}{sl:BY}{ks:List Nd}{id:Int}(h:Kids B w q sl ks)(hq:B≤q)(hb:ac w q 269 #[.int .i64 id,sl]):Repr w (fun b=>B≤b) (.iface 268 (.pointer (some ⟨q,0,none⟩))) (.seq id ks):=by
 obtain⟨vs,h1,h2,h3,h4⟩:=h;exact .seq hq hb ⟨h1.1,h1.2.imp (fun h=>h) fun⟨g,cap,cur,k1,k2,k3⟩=>⟨g,cap,cur,k1,Qj _,k3⟩⟩ (fun b e=>(fj h1 e).2) h3 fun i v k hv hk=>(h4 i v k hv hk).mono fun b hb _=>hb.1
structure m6(ty:Q2)(p r e cap:Nat)(tm:Bool)(B:Nat)(w0:By)(id:Int)(q:Nat)(ks:List Nd)(s:cZ)(sl:BY)(w:By):Prop where
 ps:jx p r e cap tm w s
 kp:Kp B [p,r] w0 w
 lt:B≤q
 blk:ac w q ty #[.int .i64 id,sl]
 kids:Kids B w q sl ks
theorem m6.ab{ty:Q2}{p r e cap:Nat}{tm:Bool}{B:Nat}{w0 w w':By}{id:Int}{q:Nat}{ks:List Nd}{s:cZ}{sl:BY}(h:m6 ty p r e cap tm B w0 id q ks s sl w)(he:w'.heap=w.heap):m6 ty p r e cap tm B w0 id q ks s sl w':=
 ⟨h.ps.ab he,h.kp.ab he,h.lt,h.blk.ab he,h.kids.keep fun b _ _ _=>by rw[he]⟩
theorem PS.lt{p r e cap:Nat}{tm:Bool}{w:By}{ts:List Tok}{t:Tok}{n g:Int}(h:PS p r e cap tm w ts t n g):p<w.heap.size∧r<w.heap.size∧p≠r:=by
 obtain⟨s,rc,hc⟩:=h.chan;exact⟨h.blk.lt,(PN.1 hc).1,h.blk.x9 hc⟩
theorem PS.keep{p r e cap:Nat}{tm:Bool}{w w':By}{ts:List Tok}{t:Tok}{n g:Int}(h:PS p r e cap tm w ts t n g)(hp:w'.heap[p]?=w.heap[p]?)(hr:w'.heap[r]?=w.heap[r]?):PS p r e cap tm w' ts t n g:=
 ⟨hp.trans h.blk,by rw[hr];exact h.chan⟩
theorem slice_form{w:By}{base:Nat}{e:Q2}{size n:Nat}{v:BY}{xs:List BY}(h:w.ownsRow base e size v n xs):∃a n c,v= .slice a n c:=by
 rcases h.2 with⟨rfl,_⟩|⟨g,cap,cur,rfl,_⟩<;>exact⟨_,_,_,rfl⟩
theorem jw{w w':By}(he:w'.heap=w.heap)(a:Addr):w'.cell? a=w.cell? a:=by unfold Qn;rw[he]
theorem lJ(w:By)(t:Q2)(v:BY):∀(j:Nat)(u:BY),[v][j]?=some u→(w.alloc (.cells #[v] t)).cell? ((⟨w.heap.size,0,none⟩:Addr).add j)=some u:=by
 intro j u hu;cases j with
 |zero=>simp at hu;subst hu;exact(ac.new w t #[v]).cell 0
 |succ j=>simp at hu
theorem one_one{v:BY}(h:v.oneCell'=true):∀u∈[v],u.oneCell'=true:=fun u hu=>by rw[AT.1 hu];exact h
theorem zW:(PA.info? 86).map (fun i=>(i.zero,i.size,i.bytes))=some (some .nilIface,1,16):=by kernel_rfl
theorem zV:PA.underlying 248=some (.slice 86):=by kernel_rfl
theorem m6.call{ty:Q2}{p r e cap:Nat}{tm:Bool}{B:Nat}{w0 w w':By}{id:Int}{q:Nat}{ks:List Nd}{s s1:cZ}{sl:BY}(h:m6 ty p r e cap tm B w0 id q ks s sl w)(hp:p<B)(hr:r<B)(hB:B≤w0.heap.size)(h1:jx p r e cap tm w' s1)(h2:Kp w.heap.size [p,r] w w'):m6 ty p r e cap tm B w0 id q ks s1 sl w':=by
 have hm:∀b,B≤b→b<w.heap.size→w'.heap[b]?=w.heap[b]?:=fun b hb hlt=>h2.2 b hlt fun hx=>by
  rcases IS.1 hx with rfl|hx
  ·omega
  ·have:=AT.1 hx;omega
 have:=h.kp.1;exact⟨h1,h.kp.trans (h2.mono (by omega) fun x hx _=>hx),h.lt,(hm q h.lt h.blk.lt).trans h.blk,h.kids.keep fun b hb _ hlt=>hm b hb hlt⟩
theorem m6.grow{ty:Q2}{p r e cap:Nat}{tm:Bool}{B C:Nat}{w0 w9 w10 w11 w12:By}{id:Int}{q:Nat}{ks:List Nd}{s1:cZ}{sl v v':BY}{k:Nd}{o:Obj}(H:m6 ty p r e cap tm B w0 id q ks s1 sl w9)(hp:p<B)(hr:r<B)(hB:B≤w0.heap.size)
 (hk:Repr w9 (fun b=>C≤b) v k) (hqC:q<C) (hsC:∀b,sl.ownBlock=some b→b<C) (h7:B≤C) (h11:w11.heap=(w9.alloc o).heap) {vs:List BY} (h1:w9.ownsRow B 86 1 sl vs.length vs) (h2:sl.ownBlock≠some q) (h3:vs.length=ks.length)
 (h4:∀(i:Nat) u x,vs[i]?=some u→ks[i]?=some x→Repr w9 (fun b=>B≤b∧b≠q∧sl.ownBlock≠some b) u x)
 (ho:w10.ownsRow B 86 1 v' (vs.length+1) (vs++[v])) (hg:w11.grownBy w10 sl.ownBlock) (ha:v'.ownBlock=sl.ownBlock∨v'.ownBlock=some w11.heap.size) (h5:w12.heap=w10.heap):
 m6 ty p r e cap tm B w0 id q (ks++[k]) s1 v' (w12.setCell ⟨q,1,none⟩ v'):=by
 have hal:∀b,b<w9.heap.size→w11.heap[b]?=w9.heap[b]?:=fun b hb=>by rw[h11];exact Below.heap_alloc _ _ _ hb
 have hsz:w11.heap.size=w9.heap.size+1:=by rw[h11];simp
 have hsame:∀b,b<w9.heap.size→sl.ownBlock≠some b→b≠q→(w12.setCell ⟨q,1,none⟩ v').heap[b]?=w9.heap[b]?:=fun b hb hn hq=>by
  rw[Below.heap_setCell w12 ⟨q,1,none⟩ v' b hq,h5,hg.block b (by omega) (fun e=>hn e.symm),hal b hb]
 have hlt:=H.ps.lt;have h0:∀b,b<B→sl.ownBlock≠some b∧b≠q:=fun b hb=>⟨fun e=>by have:=(fj h1 e).2;omega,fun e=>by have:=H.lt;omega⟩
 have hqs:=H.blk.lt;have hK:=H.kids;have h6:q<w11.heap.size:=by omega
 have hkid:Kids B w10 q v' (ks++[k]):=by
  refine Kids.append (C:=C) (w:=w11) (n:=0) (bu h1 fun b _ hb=>hal b hb) h2 h3 (fun i u x hu hx=>(h4 i u x hu hx).keep fun b _ hb=>hal b hb) (hk.keep fun b _ hb=>hal b hb) hqC hsC h7 h6 ho hg ha
 have hb12:ac w12 q ty #[.int .i64 id,sl]:=by
  refine ac.ab ?_ h5;exact(hg.block q h6 fun e=>h2 e.symm).trans ((hal q hqs).trans H.blk)
 have hb13:ac (w12.setCell ⟨q,1,none⟩ v') q ty #[.int .i64 id,v']:=by
  have:=hb12.ci 1 v';simpa only[PL,Q8,Q7]using this
 refine⟨H.ps.keep (hsame p hlt.1 (h0 p hp).1 (h0 p hp).2) (hsame r hlt.2.1 (h0 r hr).1 (h0 r hr).2),?_,H.lt,hb13,?_⟩
 ·refine⟨?_,fun b hb hx=> ?_⟩
  ·have:=H.kp.1;have:=hg.size;simp;rw[h5];omega
  ·rw[hsame b (by have:=H.kp.1;omega) (h0 b hb).1 (h0 b hb).2];exact H.kp.2 b hb hx
 ·refine Kids.keep (w:=w10) hkid fun b _ hq _=> ?_
  rw[Below.heap_setCell w12 ⟨q,1,none⟩ v' b hq,h5]
set_option maxHeartbeats 4000000 in
set_option maxRecDepth 4000 in
theorem LP{p r e cap:Nat}{tm:Bool}{f:Nat}(hq:∀f'<f,Does T 118 p r e cap tm (kq f')):Does T 94 p r e cap tm (ic f):=by
 intro d s w x hx hP;cases f with
 |zero=>simp[ic]at hx
 |succ f=>
 unfold ic at hx;rcases kN hx with⟨e1,s1,h1,_⟩|⟨id,s1,h1,hx⟩
 ·exact absurd (fT h1).1 (by simp)
 obtain⟨h1,hn1,g1⟩:=fT h1;simp only[cO.ok.injEq]at h1;obtain⟨rfl,rfl⟩:=h1;refine cF trivial (fun _=>Post.no) (PA.func Tryz.func94 (by decide)) rfl ?_;simp only[Tryz.ntmps94,PP,IT,PO,Q5,Q4,PE,PD,PR,PJ,PY,PV];refine ag (fun K hK=> ?_);refine ae (fun w1 he=> ?_);have hw:=AI (hP.ab he);have hK1:=AI ((Kp.refl w:Kp w.heap.size [p,r] w w).ab he);go_wp2;refine hK.out _ _ ?_;clear hK K;refine ag (fun K hK=> ?_);refine ae (fun w2 he2=> ?_);have hP2:=AI (hw.out.ab he2);have hK2:=AI (hK1.out.ab he2);go_wp2_with (go_at_call 117;refine(ko p w2 s.n _ _ _ _ _ _ _ _ _ _ _ hn1 (by omega) hP2.out.blk).mono ?_;rintro e2 w3 ⟨rfl,hB3,hK3⟩)
 refine hK.out _ _ ?_;clear hK K;have hlt:=hP2.out.lt;have e1:=congrArg PW he;have e2:=congrArg PW he2;have hj:Kp w.heap.size [p,r] w w3:=hK2.out.trans (hK3.mono (by omega) (fun x hx _=>IS.2 (.inl (AT.1 hx))));have hsz:=hj.1;have hP3:jx p r e cap tm w3 ⟨s.ts,s.t,s.n+1,s.g⟩:=⟨hB3,by
  obtain⟨sn,rc,hc⟩:=hP2.out.chan;exact⟨sn,rc,(hK3.2 r hlt.2.1 (fun h=>hlt.2.2 (AT.1 h).symm)).trans hc⟩⟩
 have g0:=hP3.lt;have I0:m6 250 p r e cap tm w.heap.size w (s.n+1) w3.heap.size [] ⟨s.ts,s.t,s.n+1,s.g⟩ (.slice none 0 0) (w3.alloc (.cells #[.int .i64 (s.n+1),.slice none 0 0] 250)):=
  ⟨hP3.keep (Below.heap_alloc _ _ _ g0.1) (Below.heap_alloc _ _ _ g0.2.1),hj.alloc (AS _) _,hsz,ac.new _ _ _,Kids.nil _ _ _⟩
 clear hP hw hP2 hK1 hK2 hK3 hB3 hP3 hj;generalize w3.alloc (.cells #[.int .i64 (s.n+1),.slice none 0 0] 250)=w4 at I0 ⊢;generalize w3.heap.size=q at I0 ⊢;generalize s.n+1=id at hx I0;refine ek (mj (fun m a w'=>∃ks s' sl q u6 u7 u8 u9 u10 u11 u12 u13 u14 u15 u16 u17 u18 u19 u20 u21 u22 u23 u24 u25 u26 u27 u28 u29 u30 u31,a=⟨#[.pointer (some ⟨p,0,none⟩),.int .i64 d,undef,undef,.nilIface,.pointer (some ⟨q,0,none⟩),u6,u7,u8,u9,u10,u11,u12,u13,u14,u15,u16,u17,u18,u19,u20,u21,u22,u23,u24,u25,u26,u27,u28,u29,u30,u31],[]⟩∧iJ m d id ks s'=some x∧m6 250 p r e cap tm w.heap.size w id q ks s' sl w'∧m≤f) f ⟨_,_,_,_,_,_,_,_,_,_,_,_,_,_,_,_,_,_,_,_,_,_,_,_,_,_,_,_,_,_,rfl,hx,I0,AS _⟩ ?_);clear hx I0 hn1 g1;rintro m a w5 ⟨ks,s',sl,q,u6,u7,u8,u9,u10,u11,u12,u13,u14,u15,u16,u17,u18,u19,u20,u21,u22,u23,u24,u25,u26,u27,u28,u29,u30,u31,rfl,hx,I0,hm⟩;cases m with
 |zero=>simp[iJ]at hx
 |succ m=>
 unfold iJ at hx;split at hx;case isFalse=>cases hx
 rename_i hlen;obtain⟨y,hy,hxy⟩:∃y,kq m d s'=some y∧bL (some y) (fun k s=>if s.t.kind=6 then bL (cy s) fun _ s=>iJ m d id (ks++[k]) s else some (.ok (.alt id (ks++[k])) s))=some x:=by
  cases hp:kq m d s' with
  |none=>rw[hp]at hx;cases hx
  |some y=>rw[hp]at hx;exact⟨y,rfl,hx⟩
 clear hx;obtain⟨i0,hi0,hz0,hk,hl⟩:=info_parts zW;have hd:=zV;refine ek ?_;refine uP (fun K hK hKr=> ?_);refine pX rfl ?_;show j8 _ _ _ _ 13 #[false,false,false,false,false,false,false,false,false,false,false,false,false] _ _;refine eO (i:=0) (v:=.pointer (some ⟨q,0,none⟩)) rfl (by decide+kernel) (by decide+kernel) (by decide+kernel) (fun _ _ _ h=>h) hKr.out (.inl ⟨rfl,fun u=>by simp[go_sem]⟩) ?_;simp only[If,zq0];refine eO (i:=1) (v:=.pointer (some ⟨q,0,none⟩)) rfl (by decide+kernel) (by decide+kernel) (by decide+kernel) (fun _ _ _ h=>h) hKr.out (.inl ⟨rfl,fun u=>by simp[go_sem]⟩) ?_;simp only[If,zq0];refine eO (i:=2) (v:=.pointer (some ⟨q,0,none⟩)) rfl (by decide+kernel) (by decide+kernel) (by decide+kernel) (fun _ _ _ h=>h) hKr.out (.inl ⟨rfl,fun u=>by simp[go_sem]⟩) ?_;simp only[If,zq0];refine eO (i:=3) (v:=.pointer (some ⟨q,1,none⟩)) rfl (by decide+kernel) (by decide+kernel) (by decide+kernel) (fun _ _ _ h=>h) hKr.out (.inl ⟨rfl,fun u=>by simp[go_sem]⟩) ?_;simp only[If,zq0];refine eO (i:=5) (v:=.pointer (some ⟨p,0,none⟩)) rfl (by decide+kernel) (by decide+kernel) (by decide+kernel) (fun _ _ _ h=>h) hKr.out (.inl ⟨rfl,fun u=>by simp[go_sem]⟩) ?_;simp only[If,zq0];refine eO (i:=6) (v:=.int .i64 d) rfl (by decide+kernel) (by decide+kernel) (by decide+kernel) (fun _ _ _ h=>h) hKr.out (.inl ⟨rfl,fun u=>by simp[go_sem]⟩) ?_;simp only[If,zq0];try simp only[If,zq0]
 refine dx (rs:=[4,7]) (by decide+kernel) (by simp) ?_;intro i hi;simp only[IS,PU,or_false]at hi;rcases hi with rfl|rfl
 ·refine jy.walk rfl (fun N hN w6 g2=> ?_);have I6:=AI (I0.ab g2);have c1:w6.cell? ⟨q,1,none⟩=some sl:=I6.out.blk.cell 1;go_wp2;refine hN.out _ _ ?_;clear hN N c1;try simp only[If,zq0]
  refine dx (rs:=[7]) (by decide+kernel) (by simp) ?_;intro i hi;simp only[IS,PU,or_false]at hi;subst hi;refine jy.call (f:=118) (R:=Post p r e cap tm w6.heap.size w6 y) rfl rfl (fun u=>by simp[go_sem]) trivial (hq m (by omega) d s' w6 y hy I6.out.ps) (fun v w8 hr=> ?_) (fun ch w8 hr=> ?_)
  ·cases y with
   |err e1 s1=>obtain⟨_,h,_⟩:=hr;cases h
   |ok k s1=>
    obtain⟨v',hn,hP7,hK7,h4⟩:=hr;cases hn;have I7:=I6.out.call (by omega) (by omega) (AS _) hP7 hK7;have hC:=I6.out.kp.1;have hqC:=I6.out.blk.lt;have hsC:∀b,sl.ownBlock=some b→b<w6.heap.size:=by
     obtain⟨vs,hv1,_⟩:=I6.out.kids;exact fun b e=>(fj hv1 e).1
    generalize w6.heap.size=C at hC hqC hsC h4;clear hK7 hP7 I6 hy hq;have I8:=I7;have hrep:=h4;clear I7 h4;obtain⟨vs,hv1,hv2,hv3,hv4⟩:=I8.kids;obtain⟨vt,vq,rfl⟩:=hrep.form;try simp only[If,zq0]
    refine dx (rs:=[8]) (by decide+kernel) (by simp) ?_;intro i hi;obtain rfl:=AT.1 hi;refine jy.walk rfl (fun N hN w9 he9=> ?_);have I9:=I8.ab he9;have hrep9:=hrep.keep (w':=w9) (fun b _ _=>by rw[he9]);have hown9:=bu (w':=w9) hv1 (fun b _ _=>by rw[he9]);have hv49:∀(i:Nat) u x,vs[i]?=some u→ks[i]?=some x→Repr w9 _ u x:=fun i u x h1 h2=>(hv4 i u x h1 h2).keep (w':=w9) (fun b _ _=>by rw[he9])
    have hsz9:w9.heap.size=w8.heap.size:=congrArg PW he9;have H1:=AI I9;have H2:=AI hrep9;have H3:=AI hown9;have H4:=AI hv49;have H5:=AI hsz9;have H6:=AI hv3;clear hv1 hv4 hrep I8 he9 I9 hrep9 hown9 hv49 hsz9 hv3;go_wp2;refine hN.out _ _ ?_;clear hN N;have hn3:=H6.out;have hsz:=H1.out.kp.1;simp only[If,zq0];refine dx (rs:=[9]) (by decide+kernel) (by simp) ?_;intro i hi;obtain rfl:=AT.1 hi;have hown10:=bu (w':=w9.alloc (.cells #[.iface vt (.pointer (some ⟨vq,0,none⟩))] 86)) H3.out (fun b _ hlt=>Below.heap_alloc _ _ b hlt);have hv410:∀(i:Nat) u x,vs[i]?=some u→ks[i]?=some x→Repr (w9.alloc (.cells #[.iface vt (.pointer (some ⟨vq,0,none⟩))] 86)) _ u x:=fun i u x h1 h2=>(H4.out i u x h1 h2).keep (w':=w9.alloc (.cells #[.iface vt (.pointer (some ⟨vq,0,none⟩))] 86)) (fun b _ hlt=>Below.heap_alloc _ _ b hlt)
    have hrep10:=H2.out.keep (w':=w9.alloc (.cells #[.iface vt (.pointer (some ⟨vq,0,none⟩))] 86)) (fun b _ hlt=>Below.heap_alloc _ _ b hlt);refine jy.walk rfl (fun N hN w11 he11=> ?_);have hn11:=fun j u hu=>(jw he11 _).trans (lJ w9 86 (.iface vt (.pointer (some ⟨vq,0,none⟩))) j u hu)
    refine wpList_append_own_at _ rfl (.tmp 14) (.tmp 18) _ rfl w.heap.size 86 i0 .nilIface 1 16 hd hi0 hz0 hk hl rfl (by decide) sl vs.length vs rfl (bu (w':=w11) hown10 (fun b _ _=>by rw[he11])) ⟨w9.heap.size,0,none⟩ 1 1 [.iface vt (.pointer (some ⟨vq,0,none⟩))] rfl rfl hn11 (one_one H2.out.one) (by simp only[maxLen];omega) (by omega) (by rw[he11];simp;omega) ?_;intro v' w10 hown' hgrow _ hat;refine wpList_nil (hN.out _ _ ?_);clear hN N;obtain⟨va,vn,vc,rfl⟩:=slice_form hown';simp only[If,zq0];refine lU (k:=10) (by decide+kernel) rfl (fun w12 he12=> ?_);simp only[PG,Qb];have I13:=H1.out.grow (by omega) (by omega) (AS _) H2.out hqC hsC hC he11 H3.out hv2 hn3 H4.out hown' hgrow hat he12;have hb12:ac w12 q 250 #[.int .i64 id,sl]:=by
     refine ac.ab ?_ he12;exact(hgrow.block q (by rw[he11];have:=H1.out.blk.lt;simp;omega) fun e=>hv2 e.symm).trans ((congrArg (·[q]?) he11).trans ((Below.heap_alloc _ _ _ H1.out.blk.lt).trans H1.out.blk))
    have hc12:w12.cell? ⟨q,1,none⟩=some sl:=hb12.cell 1;have hf12:w12.frozen? ⟨q,1,none⟩=false:=hb12.frozen 1;clear hgrow hown' hat hb12 hn11 hown10 hv410 hrep10 he12 he11 H2 H3 H4 H5 H6 hv2 hn3 hsz H1 hqC hsC hC;have I13:=AI I13;go_wp2;refine hK.out _ _ ?_;clear hc12 hf12;generalize PK _ _ _=w13 at I13 ⊢;clear hK K hKr;dsimp only[bL]at hxy;refine ag (fun K hK=> ?_);by_cases h6:s1.t.kind=6
    ·rw[if_pos h6]at hxy;refine ae (fun w14 h0=> ?_);have I14:=AI (I13.out.ab h0);have h3:=I14.out.ps.blk;have c1_:w14.cell? ⟨p,1,none⟩=some (.int .i64 s1.t.kind):=h3.cell 1;have h8:(s1.t.kind==6)=true:=by simpa using h6
     clear h3 h0 I13;go_wp2;refine hK.out _ _ ?_;clear hK K c1_ h8;refine aC ?_;show bo _ _ _ (IN 0 (1+1)) _ _;refine b8 0 1 1 (fun N hN w15 h7=> ?_) (by decide);simp only[zq1];have I15:=AI (I14.out.ab h7);clear h7 I14;go_wp2;refine hN.out _ _ ?_;clear hN N;obtain⟨z,hz,h9⟩:∃z,cy s1=some z∧bL (some z) (fun _ s=>iJ m d id (ks++[k]) s)=some x:=by
      cases hp:cy s1 with
      |none=>rw[hp]at hxy;cases hxy
      |some z=>rw[hp]at hxy;exact⟨z,rfl,hxy⟩
     refine bJ (f:=93) (i:=1) (rest:=[]) rfl rfl (fun u=>by simp[go_sem]) trivial (mp hz I15.out.ps) (fun u w16 hr=> ?_) (fun ch w16 hr=> ?_)
     ·obtain⟨h5,hr⟩:=hr;cases z with
      |err e2 s2=>obtain⟨_,_,h⟩:=hr;cases h
      |ok _ s2=>
       refine aZ ?_;simp only[If,zq0];exact⟨m,OF m,ks++[k],s2,_,q,_,_,_,_,_,_,_,_,_,_,_,_,_,_,_,_,_,_,_,_,_,_,_,_,_,_,rfl,h9,I15.out.call (by omega) (by omega) (AS _) hr.1 h5,by omega⟩
     ·obtain⟨h5,hr⟩:=hr;cases z with
      |ok _ s2=>obtain⟨_,h⟩:=hr;cases h
      |err e2 s2=>
       obtain⟨rfl,hf,hch⟩:=hr;cases hch;cases Option.some.inj h9;exact⟨rfl,_,rfl,hf,I15.out.kp.trans (h5.mono I15.out.kp.1 fun x hx _=>hx),rfl⟩
    ·rw[if_neg h6]at hxy;cases Option.some.inj hxy;refine ae (fun w14 h0=> ?_);have I14:=AI (I13.out.ab h0);have h3:=I14.out.ps.blk;have c1_:w14.cell? ⟨p,1,none⟩=some (.int .i64 s1.t.kind):=h3.cell 1;have h8:(s1.t.kind==6)=false:=by simpa using h6
     clear h3 h0 I13;go_wp2;go_ret;exact⟨_,rfl,I14.out.ps,I14.out.kp,I14.out.kids.alt I14.out.lt I14.out.blk⟩
  ·cases y with
   |ok k s1=>obtain⟨_,h,_⟩:=hr;cases h
   |err e1 s1=>
    obtain⟨a,ha,ho,hs,ht⟩:=hr;cases ha;cases Option.some.inj hxy;exact⟨rfl,_,rfl,ho,I6.out.kp.trans (hs.mono I6.out.kp.1 fun x hx _=>hx),ht.mono I6.out.kp.1⟩
 ·refine jy.call (f:=118) (R:=Post p r e cap tm w5.heap.size w5 y) rfl rfl (fun u=>by simp[go_sem]) trivial (hq m (by omega) d s' w5 y hy I0.ps) (fun v w7 hr=> ?_) (fun ch w7 hr=> ?_)
  ·cases y with
   |err e1 s1=>obtain⟨_,h,_⟩:=hr;cases h
   |ok k s1=>
    obtain⟨v',hn,hP7,hK7,h4⟩:=hr;cases hn;have I7:=I0.call (by omega) (by omega) (AS _) hP7 hK7;have hC:=I0.kp.1;have hqC:=I0.blk.lt;have hsC:∀b,sl.ownBlock=some b→b<w5.heap.size:=by
     obtain⟨vs,hv1,_⟩:=I0.kids;exact fun b e=>(fj hv1 e).1
    generalize w5.heap.size=C at hC hqC hsC h4;clear hK7 hP7 I0 hy hq;try simp only[If,zq0]
    refine dx (rs:=[4,8]) (by decide+kernel) (by simp) ?_;intro i hi;simp only[IS,PU,or_false]at hi;rcases hi with rfl|rfl
    ·refine jy.walk rfl (fun N hN w8 hv=> ?_);have I8:=I7.ab hv;have hrep:=h4.keep (w':=w8) (fun b _ _=>by rw[hv]);have c1:w8.cell? ⟨q,1,none⟩=some sl:=I8.blk.cell 1;clear I7 h4 hv;have I8':=AI I8;have hg:=AI hrep;clear I8 hrep;go_wp2;refine hN.out _ _ ?_;clear hN N c1;have I8:=I8'.out;have hrep:=hg.out;clear I8' hg;obtain⟨vs,hv1,hv2,hv3,hv4⟩:=I8.kids;obtain⟨vt,vq,rfl⟩:=hrep.form;try simp only[If,zq0]
     refine dx (rs:=[8]) (by decide+kernel) (by simp) ?_;intro i hi;obtain rfl:=AT.1 hi;refine jy.walk rfl (fun N hN w9 he9=> ?_);have I9:=I8.ab he9;have hrep9:=hrep.keep (w':=w9) (fun b _ _=>by rw[he9]);have hown9:=bu (w':=w9) hv1 (fun b _ _=>by rw[he9]);have hv49:∀(i:Nat) u x,vs[i]?=some u→ks[i]?=some x→Repr w9 _ u x:=fun i u x h1 h2=>(hv4 i u x h1 h2).keep (w':=w9) (fun b _ _=>by rw[he9])
     have hsz9:w9.heap.size=w8.heap.size:=congrArg PW he9;have H1:=AI I9;have H2:=AI hrep9;have H3:=AI hown9;have H4:=AI hv49;have H5:=AI hsz9;have H6:=AI hv3;clear hv1 hv4 hrep I8 he9 I9 hrep9 hown9 hv49 hsz9 hv3;go_wp2;refine hN.out _ _ ?_;clear hN N;have hn3:=H6.out;have hsz:=H1.out.kp.1;simp only[If,zq0];refine dx (rs:=[9]) (by decide+kernel) (by simp) ?_;intro i hi;obtain rfl:=AT.1 hi;have hown10:=bu (w':=w9.alloc (.cells #[.iface vt (.pointer (some ⟨vq,0,none⟩))] 86)) H3.out (fun b _ hlt=>Below.heap_alloc _ _ b hlt);have hv410:∀(i:Nat) u x,vs[i]?=some u→ks[i]?=some x→Repr (w9.alloc (.cells #[.iface vt (.pointer (some ⟨vq,0,none⟩))] 86)) _ u x:=fun i u x h1 h2=>(H4.out i u x h1 h2).keep (w':=w9.alloc (.cells #[.iface vt (.pointer (some ⟨vq,0,none⟩))] 86)) (fun b _ hlt=>Below.heap_alloc _ _ b hlt)
     have hrep10:=H2.out.keep (w':=w9.alloc (.cells #[.iface vt (.pointer (some ⟨vq,0,none⟩))] 86)) (fun b _ hlt=>Below.heap_alloc _ _ b hlt);refine jy.walk rfl (fun N hN w11 he11=> ?_);have hn11:=fun j u hu=>(jw he11 _).trans (lJ w9 86 (.iface vt (.pointer (some ⟨vq,0,none⟩))) j u hu)
     refine wpList_append_own_at _ rfl (.tmp 14) (.tmp 18) _ rfl w.heap.size 86 i0 .nilIface 1 16 hd hi0 hz0 hk hl rfl (by decide) sl vs.length vs rfl (bu (w':=w11) hown10 (fun b _ _=>by rw[he11])) ⟨w9.heap.size,0,none⟩ 1 1 [.iface vt (.pointer (some ⟨vq,0,none⟩))] rfl rfl hn11 (one_one H2.out.one) (by simp only[maxLen];omega) (by omega) (by rw[he11];simp;omega) ?_;intro v' w10 hown' hgrow _ hat;refine wpList_nil (hN.out _ _ ?_);clear hN N;obtain⟨va,vn,vc,rfl⟩:=slice_form hown';simp only[If,zq0];refine lU (k:=10) (by decide+kernel) rfl (fun w12 he12=> ?_);simp only[PG,Qb];have I13:=H1.out.grow (by omega) (by omega) (AS _) H2.out hqC hsC hC he11 H3.out hv2 hn3 H4.out hown' hgrow hat he12;have hb12:ac w12 q 250 #[.int .i64 id,sl]:=by
      refine ac.ab ?_ he12;exact(hgrow.block q (by rw[he11];have:=H1.out.blk.lt;simp;omega) fun e=>hv2 e.symm).trans ((congrArg (·[q]?) he11).trans ((Below.heap_alloc _ _ _ H1.out.blk.lt).trans H1.out.blk))
     have hc12:w12.cell? ⟨q,1,none⟩=some sl:=hb12.cell 1;have hf12:w12.frozen? ⟨q,1,none⟩=false:=hb12.frozen 1;clear hgrow hown' hat hb12 hn11 hown10 hv410 hrep10 he12 he11 H2 H3 H4 H5 H6 hv2 hn3 hsz H1 hqC hsC hC;have I13:=AI I13;go_wp2;refine hK.out _ _ ?_;clear hc12 hf12;generalize PK _ _ _=w13 at I13 ⊢;clear hK K hKr;dsimp only[bL]at hxy;refine ag (fun K hK=> ?_);by_cases h6:s1.t.kind=6
     ·rw[if_pos h6]at hxy;refine ae (fun w14 h0=> ?_);have I14:=AI (I13.out.ab h0);have h3:=I14.out.ps.blk;have c1_:w14.cell? ⟨p,1,none⟩=some (.int .i64 s1.t.kind):=h3.cell 1;have h8:(s1.t.kind==6)=true:=by simpa using h6
      clear h3 h0 I13;go_wp2;refine hK.out _ _ ?_;clear hK K c1_ h8;refine aC ?_;show bo _ _ _ (IN 0 (1+1)) _ _;refine b8 0 1 1 (fun N hN w15 h7=> ?_) (by decide);simp only[zq1];have I15:=AI (I14.out.ab h7);clear h7 I14;go_wp2;refine hN.out _ _ ?_;clear hN N;obtain⟨z,hz,h9⟩:∃z,cy s1=some z∧bL (some z) (fun _ s=>iJ m d id (ks++[k]) s)=some x:=by
       cases hp:cy s1 with
       |none=>rw[hp]at hxy;cases hxy
       |some z=>rw[hp]at hxy;exact⟨z,rfl,hxy⟩
      refine bJ (f:=93) (i:=1) (rest:=[]) rfl rfl (fun u=>by simp[go_sem]) trivial (mp hz I15.out.ps) (fun u w16 hr=> ?_) (fun ch w16 hr=> ?_)
      ·obtain⟨h5,hr⟩:=hr;cases z with
       |err e2 s2=>obtain⟨_,_,h⟩:=hr;cases h
       |ok _ s2=>
        refine aZ ?_;simp only[If,zq0];exact⟨m,OF m,ks++[k],s2,_,q,_,_,_,_,_,_,_,_,_,_,_,_,_,_,_,_,_,_,_,_,_,_,_,_,_,_,rfl,h9,I15.out.call (by omega) (by omega) (AS _) hr.1 h5,by omega⟩
      ·obtain⟨h5,hr⟩:=hr;cases z with
       |ok _ s2=>obtain⟨_,h⟩:=hr;cases h
       |err e2 s2=>
        obtain⟨rfl,hf,hch⟩:=hr;cases hch;cases Option.some.inj h9;exact⟨rfl,_,rfl,hf,I15.out.kp.trans (h5.mono I15.out.kp.1 fun x hx _=>hx),rfl⟩
     ·rw[if_neg h6]at hxy;cases Option.some.inj hxy;refine ae (fun w14 h0=> ?_);have I14:=AI (I13.out.ab h0);have h3:=I14.out.ps.blk;have c1_:w14.cell? ⟨p,1,none⟩=some (.int .i64 s1.t.kind):=h3.cell 1;have h8:(s1.t.kind==6)=false:=by simpa using h6
      clear h3 h0 I13;go_wp2;go_ret;exact⟨_,rfl,I14.out.ps,I14.out.kp,I14.out.kids.alt I14.out.lt I14.out.blk⟩
    ·have I8:=I7;have hrep:=h4;clear I7 h4;obtain⟨vs,hv1,hv2,hv3,hv4⟩:=I8.kids;obtain⟨vt,vq,rfl⟩:=hrep.form;refine jy.walk rfl (fun N hN w9 he9=> ?_);have I9:=I8.ab he9;have hrep9:=hrep.keep (w':=w9) (fun b _ _=>by rw[he9]);have hown9:=bu (w':=w9) hv1 (fun b _ _=>by rw[he9]);have hv49:∀(i:Nat) u x,vs[i]?=some u→ks[i]?=some x→Repr w9 _ u x:=fun i u x h1 h2=>(hv4 i u x h1 h2).keep (w':=w9) (fun b _ _=>by rw[he9])
     have hsz9:w9.heap.size=w7.heap.size:=congrArg PW he9;have H1:=AI I9;have H2:=AI hrep9;have H3:=AI hown9;have H4:=AI hv49;have H5:=AI hsz9;have H6:=AI hv3;clear hv1 hv4 hrep I8 he9 I9 hrep9 hown9 hv49 hsz9 hv3;go_wp2;refine hN.out _ _ ?_;clear hN N;have hn3:=H6.out;have hsz:=H1.out.kp.1;simp only[If,zq0];refine dx (rs:=[4]) (by decide+kernel) (by simp) ?_;intro i hi;obtain rfl:=AT.1 hi;refine jy.walk rfl (fun N hN wm hem=> ?_);have c1m:wm.cell? ⟨q,1,none⟩=some sl:=(jw hem _).trans ((QB _ _ ⟨q,1,none⟩ H1.out.blk.lt).trans (H1.out.blk.cell 1));have hem':=AI hem;clear hem;go_wp2;refine hN.out _ _ ?_;clear hN N c1m;simp only[If,zq0];refine dx (rs:=[9]) (by decide+kernel) (by simp) ?_;intro i hi;obtain rfl:=AT.1 hi;have hown10:=bu (w':=w9.alloc (.cells #[.iface vt (.pointer (some ⟨vq,0,none⟩))] 86)) H3.out (fun b _ hlt=>Below.heap_alloc _ _ b hlt);have hv410:∀(i:Nat) u x,vs[i]?=some u→ks[i]?=some x→Repr (w9.alloc (.cells #[.iface vt (.pointer (some ⟨vq,0,none⟩))] 86)) _ u x:=fun i u x h1 h2=>(H4.out i u x h1 h2).keep (w':=w9.alloc (.cells #[.iface vt (.pointer (some ⟨vq,0,none⟩))] 86)) (fun b _ hlt=>Below.heap_alloc _ _ b hlt)
     have hrep10:=H2.out.keep (w':=w9.alloc (.cells #[.iface vt (.pointer (some ⟨vq,0,none⟩))] 86)) (fun b _ hlt=>Below.heap_alloc _ _ b hlt);refine jy.walk rfl (fun N hN w11 hh=> ?_);have he11:=hh.trans hem'.out;clear hh hem';have hn11:=fun j u hu=>(jw he11 _).trans (lJ w9 86 (.iface vt (.pointer (some ⟨vq,0,none⟩))) j u hu)
     refine wpList_append_own_at _ rfl (.tmp 14) (.tmp 18) _ rfl w.heap.size 86 i0 .nilIface 1 16 hd hi0 hz0 hk hl rfl (by decide) sl vs.length vs rfl (bu (w':=w11) hown10 (fun b _ _=>by rw[he11])) ⟨w9.heap.size,0,none⟩ 1 1 [.iface vt (.pointer (some ⟨vq,0,none⟩))] rfl rfl hn11 (one_one H2.out.one) (by simp only[maxLen];omega) (by omega) (by rw[he11];simp;omega) ?_;intro v' w10 hown' hgrow _ hat;refine wpList_nil (hN.out _ _ ?_);clear hN N;obtain⟨va,vn,vc,rfl⟩:=slice_form hown';simp only[If,zq0];refine lU (k:=10) (by decide+kernel) rfl (fun w12 he12=> ?_);simp only[PG,Qb];have I13:=H1.out.grow (by omega) (by omega) (AS _) H2.out hqC hsC hC he11 H3.out hv2 hn3 H4.out hown' hgrow hat he12;have hb12:ac w12 q 250 #[.int .i64 id,sl]:=by
      refine ac.ab ?_ he12;exact(hgrow.block q (by rw[he11];have:=H1.out.blk.lt;simp;omega) fun e=>hv2 e.symm).trans ((congrArg (·[q]?) he11).trans ((Below.heap_alloc _ _ _ H1.out.blk.lt).trans H1.out.blk))
     have hc12:w12.cell? ⟨q,1,none⟩=some sl:=hb12.cell 1;have hf12:w12.frozen? ⟨q,1,none⟩=false:=hb12.frozen 1;clear hgrow hown' hat hb12 hn11 hown10 hv410 hrep10 he12 he11 H2 H3 H4 H5 H6 hv2 hn3 hsz H1 hqC hsC hC;have I13:=AI I13;go_wp2;refine hK.out _ _ ?_;clear hc12 hf12;generalize PK _ _ _=w13 at I13 ⊢;clear hK K hKr;dsimp only[bL]at hxy;refine ag (fun K hK=> ?_);by_cases h6:s1.t.kind=6
     ·rw[if_pos h6]at hxy;refine ae (fun w14 h0=> ?_);have I14:=AI (I13.out.ab h0);have h3:=I14.out.ps.blk;have c1_:w14.cell? ⟨p,1,none⟩=some (.int .i64 s1.t.kind):=h3.cell 1;have h8:(s1.t.kind==6)=true:=by simpa using h6
      clear h3 h0 I13;go_wp2;refine hK.out _ _ ?_;clear hK K c1_ h8;refine aC ?_;show bo _ _ _ (IN 0 (1+1)) _ _;refine b8 0 1 1 (fun N hN w15 h7=> ?_) (by decide);simp only[zq1];have I15:=AI (I14.out.ab h7);clear h7 I14;go_wp2;refine hN.out _ _ ?_;clear hN N;obtain⟨z,hz,h9⟩:∃z,cy s1=some z∧bL (some z) (fun _ s=>iJ m d id (ks++[k]) s)=some x:=by
       cases hp:cy s1 with
       |none=>rw[hp]at hxy;cases hxy
       |some z=>rw[hp]at hxy;exact⟨z,rfl,hxy⟩
      refine bJ (f:=93) (i:=1) (rest:=[]) rfl rfl (fun u=>by simp[go_sem]) trivial (mp hz I15.out.ps) (fun u w16 hr=> ?_) (fun ch w16 hr=> ?_)
      ·obtain⟨h5,hr⟩:=hr;cases z with
       |err e2 s2=>obtain⟨_,_,h⟩:=hr;cases h
       |ok _ s2=>
        refine aZ ?_;simp only[If,zq0];exact⟨m,OF m,ks++[k],s2,_,q,_,_,_,_,_,_,_,_,_,_,_,_,_,_,_,_,_,_,_,_,_,_,_,_,_,_,rfl,h9,I15.out.call (by omega) (by omega) (AS _) hr.1 h5,by omega⟩
      ·obtain⟨h5,hr⟩:=hr;cases z with
       |ok _ s2=>obtain⟨_,h⟩:=hr;cases h
       |err e2 s2=>
        obtain⟨rfl,hf,hch⟩:=hr;cases hch;cases Option.some.inj h9;exact⟨rfl,_,rfl,hf,I15.out.kp.trans (h5.mono I15.out.kp.1 fun x hx _=>hx),rfl⟩
     ·rw[if_neg h6]at hxy;cases Option.some.inj hxy;refine ae (fun w14 h0=> ?_);have I14:=AI (I13.out.ab h0);have h3:=I14.out.ps.blk;have c1_:w14.cell? ⟨p,1,none⟩=some (.int .i64 s1.t.kind):=h3.cell 1;have h8:(s1.t.kind==6)=false:=by simpa using h6
      clear h3 h0 I13;go_wp2;go_ret;exact⟨_,rfl,I14.out.ps,I14.out.kp,I14.out.kids.alt I14.out.lt I14.out.blk⟩
  ·cases y with
   |ok k s1=>obtain⟨_,h,_⟩:=hr;cases h
   |err e1 s1=>
    obtain⟨a,ha,ho,hs,ht⟩:=hr;cases ha;cases Option.some.inj hxy;exact⟨rfl,_,rfl,ho,I0.kp.trans (hs.mono I0.kp.1 fun x hx _=>hx),ht.mono I0.kp.1⟩
end
section
open Go.RowKit
attribute [local instance] dP
variable{T:bw PA}
structure uK(p r e cap:Nat)(tm:Bool)(B:Nat)(w0:By)(k:Nd)(s:cZ)(v:BY)(w:By):Prop where
 ps:jx p r e cap tm w s
 kp:Kp B [p,r] w0 w
 rep:Repr w (fun b=>B≤b) v k
theorem uK.ab{p r e cap:Nat}{tm:Bool}{B:Nat}{w0 w w':By}{k:Nd}{s:cZ}{v:BY}(h:uK p r e cap tm B w0 k s v w)(he:w'.heap=w.heap):uK p r e cap tm B w0 k s v w':=
 ⟨h.ps.ab he,h.kp.ab he,h.rep.keep fun b _ _=>by rw[he]⟩
theorem eG{B:Nat}{p r:Nat}{w0 w w':By}(h:Kp B [p,r] w0 w)(h':Kp w.heap.size [p,r] w w')(hB:B≤w0.heap.size):Kp B [p,r] w0 w':=h.trans (h'.mono (PZ hB h.1) fun x hx _=>hx)
theorem zA{B p r:Nat}{w w':By}{k:Nd}{v:BY}(h:Repr w (fun b=>B≤b) v k)(h':Kp w.heap.size [p,r] w w')(hp:p<B)(hr:r<B):Repr w' (fun b=>B≤b) v k:=
 h.keep fun b hb hlt=>h'.2 b hlt fun hx=>by
  rcases IS.1 hx with rfl|hx
  ·omega
  ·have:=AT.1 hx;omega
theorem PS.part{p r e cap:Nat}{tm:Bool}{w w':By}{s:cZ}(h:jx p r e cap tm w s)(hB:ac w' p 197 #[.chan (some r),.int .i64 s.t.kind,.int .i64 s.t.at_,.int .u64 s.t.b0,.int .u64 s.t.b1,.int .u64 s.t.b2,.int .u64 s.t.b3,.int .i64 s.t.least,.int .i64 s.t.most,.pointer (gN e s.t.bad),.int .i64 (s.n+1),.int .i64 s.g])(hK:Kp w.heap.size [p] w w'):jx p r e cap tm w' ⟨s.ts,s.t,s.n+1,s.g⟩:=⟨hB,by
 obtain⟨sn,rc,hc⟩:=h.chan;exact⟨sn,rc,(hK.2 r h.lt.2.1 (fun hx=>h.lt.2.2 (AT.1 hx).symm)).trans hc⟩⟩
set_option maxHeartbeats 4000000 in
set_option maxRecDepth 100000 in
theorem Ky{p r e cap:Nat}{tm:Bool}{f:Nat}(hq:∀f'<f,Does T 162 p r e cap tm (iI f')):Does T 142 p r e cap tm (g5 f):=by
 intro d s w x hx hP;cases f with
 |zero=>simp[g5]at hx
 |succ f=>
 unfold g5 at hx;obtain⟨y,hy,hxy⟩:∃y,iI f d s=some y∧bL (some y) (fun k s=>fV f k s)=some x:=by
  cases hp:iI f d s with
  |none=>rw[hp]at hx;cases hx
  |some y=>rw[hp]at hx;exact⟨y,rfl,hx⟩
 clear hx;have hlt:=hP.lt;refine cF trivial (fun _=>Post.no) (PA.func Tryz.func142 (by decide)) rfl ?_;simp only[Tryz.ntmps142,PP,IT,PO,Q5,Q4,PE,PD,PR,PJ,PY,PV];refine ag (fun K hK=> ?_);refine ae (fun w1 he=> ?_);have hd:=AI (hP.ab he);have hK1:=AI ((Kp.refl w:Kp w.heap.size [p,r] w w).ab he);go_wp2;refine hK.out _ _ ?_;clear hK K;refine ag (fun K hK=> ?_);refine aC ?_;show bo _ _ _ (IN 0 (2+2)) _ _;refine b8 0 2 2 (fun N hN w2 he2=> ?_) (by decide);simp only[zq1];have hP2:=AI (hd.out.ab he2);have hK2:=AI (hK1.out.ab he2);clear he2 he hd hK1 hP;go_wp2;refine hN.out _ _ ?_;clear hN N;refine bJ (f:=162) (R:=Post p r e cap tm w2.heap.size w2 y) (i:=2) (rest:=IN 3 (1+0)) rfl rfl (fun u=>by simp[go_sem]) trivial (hq f (by omega) d s w2 y hy hP2.out) (fun v w3 hr=> ?_) (fun ch w3 hr=> ?_);rotate_left
 ·cases y with
  |ok k s1=>obtain⟨_,h,_⟩:=hr;cases h
  |err e1 s1=>
   obtain⟨a,ha,hj,hk,hl⟩:=hr;cases ha;cases Option.some.inj hxy;exact⟨rfl,_,rfl,hj,eG hK2.out hk (AS _),hl.mono hK2.out.1⟩
 cases y with
 |err e1 s1=>obtain⟨_,h,_⟩:=hr;cases h
 |ok k s1=>
 obtain⟨v',hn,hP3,hK3,h6⟩:=hr;cases hn;have I3:uK p r e cap tm w.heap.size w k s1 v w3:=⟨hP3,eG hK2.out hK3 (AS _),h6.mono fun b hb _=>PZ hK2.out.1 hb⟩;clear hP3 hK3 h6 hP2 hK2;simp only[If,zq0];refine b8 3 1 0 (fun N hN w4 he4=> ?_) (by decide);simp only[zq1];have I4:=AI (I3.ab he4);clear he4 I3;go_wp2;refine hN.out _ _ (aZ (hK.out _ _ ?_));clear hN N hK K;dsimp only[bL]at hxy;refine ag (fun K hK=> ?_);refine ek (mj (fun m a w'=>∃k s' v,(∃u6 u7 u8 u9 u10 u11 u12 u13 u14 u15 u16 u17 u18 u19 u20 u21 u22 u23 u24 u25 u26 u27 u28 u29 u30 u31 u32 u33 u34 u35 u36 u37 u38 u39 u40 u41 u42 u43 u44 u45,a=⟨#[.pointer (some ⟨p,0,none⟩),.int .i64 d,undef,undef,.nilIface,v,u6,u7,u8,u9,u10,u11,u12,u13,u14,u15,u16,u17,u18,u19,u20,u21,u22,u23,u24,u25,u26,u27,u28,u29,u30,u31,u32,u33,u34,u35,u36,u37,u38,u39,u40,u41,u42,u43,u44,u45],[]⟩)∧fV m k s'=some x∧uK p r e cap tm w.heap.size w k s' v w'∧m≤f) f ⟨_,_,_,⟨_,_,_,_,_,_,_,_,_,_,_,_,_,_,_,_,_,_,_,_,_,_,_,_,_,_,_,_,_,_,_,_,_,_,_,_,_,_,_,_,rfl⟩,hxy,I4.out,AS _⟩ ?_);clear hxy I4 hy;rintro m a w5 ⟨k,s',v,⟨u6,u7,u8,u9,u10,u11,u12,u13,u14,u15,u16,u17,u18,u19,u20,u21,u22,u23,u24,u25,u26,u27,u28,u29,u30,u31,u32,u33,u34,u35,u36,u37,u38,u39,u40,u41,u42,u43,u44,u45,rfl⟩,hx,I5,hm⟩;cases m with
 |zero=>simp[fV]at hx
 |succ m=>
 unfold fV at hx;refine ag (fun L hL=> ?_);by_cases h7:s'.t.kind=7
 ·rw[if_pos h7]at hx;have b7:(s'.t.kind==7)=true:=by simp[h7]
  refine ae (fun w6 h3=> ?_);have I6:=AI (I5.ab h3);have h4:=I6.out.ps.blk;have c1_:w6.cell? ⟨p,1,none⟩=some (.int .i64 s'.t.kind):=h4.cell 1;clear h4 h3 I5;go_wp2;refine hL.out _ _ ?_;clear hL L c1_ b7;refine ek ?_;refine ag (fun L hL=> ?_);by_cases hb:s'.t.bad=true
  ·rw[if_pos hb]at hx;cases Option.some.inj hx;refine ae (fun w7 h0=> ?_);have I7:=AI (I6.out.ab h0);have h5:=I7.out.ps.blk;have c9_:w7.cell? ⟨p,9,none⟩=some (.pointer (some ⟨e,0,none⟩)):=by have:=h5.cell 9;rw[hb]at this;exact this
   clear h5 h0 I6;go_wp2;exact⟨rfl,_,rfl,I7.out.ps,I7.out.kp,by rw[hb];rfl⟩
  ·rw[if_neg hb]at hx;have hb':s'.t.bad=false:=by simpa using hb
   refine ae (fun w7 h0=> ?_);have I7:=AI (I6.out.ab h0);have h5:=I7.out.ps.blk;have c9_:w7.cell? ⟨p,9,none⟩=some (.pointer none):=by have:=h5.cell 9;rw[hb']at this;exact this
   clear h5 h0 I6;go_wp2;refine hL.out _ _ ?_;clear hL L c9_;rcases kN hx with⟨e1,s1,h1,_⟩|⟨id,s1,h1,hx⟩
   ·exact absurd (fT h1).1 (by simp)
   obtain⟨h1,hn1,hn2⟩:=fT h1;simp only[cO.ok.injEq]at h1;obtain⟨rfl,rfl⟩:=h1;refine ag (fun L hL=> ?_);refine ae (fun w8 hf=> ?_);have I8:=AI (I7.out.ab hf);have h8:=I8.out.ps.blk;have c7_:w8.cell? ⟨p,7,none⟩=some (.int .i64 s'.t.least):=h8.cell 7;have c8_:w8.cell? ⟨p,8,none⟩=some (.int .i64 s'.t.most):=h8.cell 8;have h9:=AI h8;clear h8 hf I7;obtain⟨vt,vq,rfl⟩:=I8.out.rep.form;go_region_held3 (fun w'=>w'.cell? ⟨p,7,none⟩=some (.int .i64 s'.t.least)∧w'.cell? ⟨p,8,none⟩=some (.int .i64 s'.t.most)) (first |go_keep|exact⟨hB9.cell 7,hB9.cell 8⟩) (first |(go_at_call 117;refine(ko p _ s'.n _ _ _ _ _ _ _ _ _ _ _ hn1 (by omega) (ac.drew h9.out)).mono ?_;rintro e9 w9 ⟨rfl,hB9,hK9⟩))
   refine hL.out _ _ ?_;have hP9:jx p r e cap tm w9 ⟨s'.ts,s'.t,s'.n+1,s'.g⟩:=PS.part (hB:=hB9) (h:=I8.out.ps) (hK9.mono (AS _) fun x hx _=>hx);have hK9':Kp w8.heap.size [p,r] w8 w9:=hK9.mono (AS _) fun x hx _=>IS.2 (.inl (AT.1 hx))
   have hc:=hP9.lt;have hg:=(eG I8.out.kp hK9' (AS _)).1;have I9:uK p r e cap tm w.heap.size w (.rep (s'.n+1) k s'.t.least s'.t.most) ⟨s'.ts,s'.t,s'.n+1,s'.g⟩ (.iface 286 (.pointer (some ⟨w9.heap.size,0,none⟩))) (w9.alloc (.cells #[.int .i64 (s'.n+1),.iface vt (.pointer (some ⟨vq,0,none⟩)),.int .i64 s'.t.least,.int .i64 s'.t.most] 288)):=
    ⟨hP9.keep (Below.heap_alloc _ _ _ hc.1) (Below.heap_alloc _ _ _ hc.2.1),(eG I8.out.kp hK9' (AS _)).alloc (AS _) _,
     .rep hg (ac.new _ _ _) ((zA I8.out.rep hK9' (by omega) (by omega)).keep fun b _ hlt=>Below.heap_alloc _ _ _ hlt)⟩
   clear hB9 hK9 hP9 hK9' hc hg h9 I8 hL L;generalize w9.alloc _=w10 at I9 ⊢;refine aC ?_;show bo _ _ _ (IN 0 (1+1)) _ _;refine b8 0 1 1 (fun N hN w11 he11=> ?_) (by decide);simp only[zq1];have I11:=AI (I9.ab he11);clear he11 I9;go_wp2;refine hN.out _ _ ?_;clear hN N;obtain⟨z,hz,hh⟩:∃z,cy ⟨s'.ts,s'.t,s'.n+1,s'.g⟩=some z∧bL (some z) (fun _ s2=>fV m (.rep (s'.n+1) k s'.t.least s'.t.most) s2)=some x:=by
    cases hp:cy ⟨s'.ts,s'.t,s'.n+1,s'.g⟩with
    |none=>rw[hp]at hx;cases hx
    |some z=>rw[hp]at hx;exact⟨z,rfl,hx⟩
   refine bJ (f:=93) (i:=1) (rest:=[]) rfl rfl (fun u=>by simp[go_sem]) trivial (mp hz I11.out.ps) (fun u w12 hr=> ?_) (fun ch w12 hr=> ?_)
   ·obtain⟨h2,hr⟩:=hr;cases z with
    |err e2 s2=>obtain⟨_,_,h⟩:=hr;cases h
    |ok _ s2=>
     refine aZ ?_;simp only[If,zq0];exact⟨m,OF m,_,_,_,⟨_,_,_,_,_,_,_,_,_,_,_,_,_,_,_,_,_,_,_,_,_,_,_,_,_,_,_,_,_,_,_,_,_,_,_,_,_,_,_,_,rfl⟩,hh,⟨hr.1,eG I11.out.kp h2 (AS _),zA I11.out.rep h2 (by omega) (by omega)⟩,by omega⟩
   ·obtain⟨h2,hr⟩:=hr;cases z with
    |ok _ s2=>obtain⟨_,h⟩:=hr;cases h
    |err e2 s2=>
     obtain⟨rfl,hi,hch⟩:=hr;cases hch;cases Option.some.inj hh;exact⟨rfl,_,rfl,hi,eG I11.out.kp h2 (AS _),rfl⟩
 ·rw[if_neg h7]at hx;cases Option.some.inj hx;have b7:(s'.t.kind==7)=false:=by simpa using h7
  refine ae (fun w6 h3=> ?_);have I6:=AI (I5.ab h3);have h4:=I6.out.ps.blk;have c1_:w6.cell? ⟨p,1,none⟩=some (.int .i64 s'.t.kind):=h4.cell 1;clear h4 h3 I5;go_wp2;refine hK.out _ _ ?_;clear hK K hL L c1_ b7;refine ae (fun w7 h0=> ?_);have I7:=AI (I6.out.ab h0);clear h0 I6;go_wp2;go_ret;exact⟨_,rfl,I7.out.ps,I7.out.kp,I7.out.rep⟩
end
section
open Go.RowKit
attribute [local instance] dP
variable{T:bw PA}
set_option maxHeartbeats 4000000 in
set_option maxRecDepth 100000 in
theorem Mi{p r e cap:Nat}{tm:Bool}{f:Nat}(hq:∀f'<f,Does T 174 p r e cap tm (iV f')):Does T 162 p r e cap tm (iI f):=by
 intro d s w x hx hP;cases f with
 |zero=>simp[iI]at hx
 |succ f=>
 unfold iI at hx;have hlt:=hP.lt;refine cF trivial (fun _=>Post.no) (PA.func Tryz.func162 (by decide)) rfl ?_;simp only[Tryz.ntmps162,PP,IT,PO,Q5,Q4,PE,PD,PR,PJ,PY,PV];refine ag (fun K hK=> ?_);refine ae (fun w1 he=> ?_);have hv:=AI (hP.ab he);have hK1:=AI ((Kp.refl w:Kp w.heap.size [p,r] w w).ab he);go_wp2;refine hK.out _ _ ?_;clear hK K;refine ag (fun K hK=> ?_);refine ae (fun w2 he2=> ?_);have hP2:=AI (hv.out.ab he2);have hK2:=AI (hK1.out.ab he2);have hB2:=hP2.out.blk;have f_w2:∀i,w2.frozen? ⟨p,i,none⟩=false:=hB2.frozen;have c0_w2:w2.cell? ⟨p,0,none⟩=some (.chan (some r)):=hB2.cell 0;have c1_w2:w2.cell? ⟨p,1,none⟩=some _:=hB2.cell 1;have c2_w2:w2.cell? ⟨p,2,none⟩=some _:=hB2.cell 2;have c3_w2:w2.cell? ⟨p,3,none⟩=some _:=hB2.cell 3;have c4_w2:w2.cell? ⟨p,4,none⟩=some _:=hB2.cell 4;have c5_w2:w2.cell? ⟨p,5,none⟩=some _:=hB2.cell 5;have c6_w2:w2.cell? ⟨p,6,none⟩=some _:=hB2.cell 6;have c7_w2:w2.cell? ⟨p,7,none⟩=some _:=hB2.cell 7;have c8_w2:w2.cell? ⟨p,8,none⟩=some _:=hB2.cell 8;have c9_w2:w2.cell? ⟨p,9,none⟩=some _:=hB2.cell 9;have c10_w2:w2.cell? ⟨p,10,none⟩=some _:=hB2.cell 10;have c11_w2:w2.cell? ⟨p,11,none⟩=some _:=hB2.cell 11;clear he2 he hv hK1 hP hB2;go_wp2;refine hK.out _ _ ?_;clear f_w2 c0_w2 c1_w2 c2_w2 c3_w2 c4_w2 c5_w2 c6_w2 c7_w2 c8_w2 c9_w2 c10_w2 c11_w2;clear hK K;have hl2:=hP2.out.lt;have hw:=hK2.out.1;have hP3:jx p r e cap tm (w2.alloc (.cells #[.int .i64 s.t.kind,.int .i64 s.t.at_,.int .u64 s.t.b0,.int .u64 s.t.b1,.int .u64 s.t.b2,.int .u64 s.t.b3,.int .i64 s.t.least,.int .i64 s.t.most,.pointer (gN e s.t.bad)] 195)) s:=hP2.out.keep (Below.heap_alloc _ _ _ hl2.1) (Below.heap_alloc _ _ _ hl2.2.1);have hK3:=hK2.out.alloc (AS _) (.cells #[.int .i64 s.t.kind,.int .i64 s.t.at_,.int .u64 s.t.b0,.int .u64 s.t.b1,.int .u64 s.t.b2,.int .u64 s.t.b3,.int .i64 s.t.least,.int .i64 s.t.most,.pointer (gN e s.t.bad)] 195);have hB3:=ac.new w2 195 #[.int .i64 s.t.kind,.int .i64 s.t.at_,.int .u64 s.t.b0,.int .u64 s.t.b1,.int .u64 s.t.b2,.int .u64 s.t.b3,.int .i64 s.t.least,.int .i64 s.t.most,.pointer (gN e s.t.bad)];have hl:w.heap.size≤w2.heap.size:=hw;clear hP2 hK2 hl2 hw;generalize w2.alloc _=w3 at hP3 hK3 hB3 ⊢;generalize w2.heap.size=q at hB3 hl ⊢;refine ag (fun K hK=> ?_);by_cases h4:s.t.kind=4
 ·rw[if_pos h4]at hx;have b4:(s.t.kind==4)=true:=by simp[h4]
  refine ag (fun L hL=> ?_);refine ae (fun w4 he4=> ?_);have hh:=AI (hP3.ab he4);have hK4:=AI (hK3.ab he4);have c0_:w4.cell? ⟨q,0,none⟩=some (.int .i64 s.t.kind):=(hB3.ab he4).cell 0;clear he4 hP3 hK3 hB3;go_wp2;refine hL.out _ _ ?_;clear hL L c0_;refine bT rfl ?_;refine ag (fun L hL=> ?_);refine aC ?_;show bo _ _ _ (IN 0 (2+2)) _ _;refine b8 0 2 2 (fun N hN w5 hd=> ?_) (by decide);simp only[zq1];have hi:=AI (hh.out.ab hd);have hK5:=AI (hK4.out.ab hd);clear hd hh hK4;go_wp2;refine hN.out _ _ ?_;clear hN N;refine bJ (f:=174) (R:=Post p r e cap tm w5.heap.size w5 x) (i:=2) (rest:=IN 3 (1+0)) rfl rfl (fun u=>by simp[go_sem]) trivial (hq f (by omega) d s w5 x hx hi.out) (fun v w6 hr=> ?_) (fun ch w6 hr=> ?_)
  ·cases x with
   |err e1 s1=>obtain⟨_,h,_⟩:=hr;cases h
   |ok k s1=>
    obtain⟨v',g3,hj,hK6,hm⟩:=hr;cases g3;have I6:uK p r e cap tm w.heap.size w k s1 v w6:=⟨hj,eG hK5.out hK6 (AS _),hm.mono fun b hb _=>PZ hK5.out.1 hb⟩;clear hj hK6 hm hi hK5;simp only[If,zq0];refine b8 3 1 0 (fun N hN w7 hf=> ?_) (by decide);simp only[zq1];have I7:=AI (I6.ab hf);clear hf I6;go_wp2;refine hN.out _ _ (aZ (hL.out _ _ ?_));clear hN N hL L;refine ae (fun w8 hy=> ?_);have I8:=AI (I7.out.ab hy);clear hy I7;go_wp2;go_ret;exact⟨_,rfl,I8.out.ps,I8.out.kp,I8.out.rep⟩
  ·cases x with
   |ok k s1=>obtain⟨_,h,_⟩:=hr;cases h
   |err e1 s1=>
    obtain⟨a,ha,g9,gb,gf⟩:=hr;cases ha;exact⟨rfl,_,rfl,g9,eG hK5.out gb (AS _),gf.mono hK5.out.1⟩
 ·rw[if_neg h4]at hx;have b4:(s.t.kind==4)=false:=by simpa using h4
  refine ae (fun w4 he4=> ?_);have hh:=AI (hP3.ab he4);have hK4:=AI (hK3.ab he4);have hB4:=AI (hB3.ab he4);have c0_:w4.cell? ⟨q,0,none⟩=some (.int .i64 s.t.kind):=hB4.out.cell 0;clear he4 hP3 hK3 hB3;go_wp2;refine hK.out _ _ ?_;clear hK K c0_;refine ag (fun K hK=> ?_);refine aC ?_;show bo _ _ _ (IN 0 (1+1)) _ _;refine b8 0 1 1 (fun N hN w5 hd=> ?_) (by decide);simp only[zq1];have hi:=AI (hh.out.ab hd);have hK5:=AI (hK4.out.ab hd);have ho:=AI (hB4.out.ab hd);clear hd hh hK4 hB4;go_wp2;refine hN.out _ _ ?_;clear hN N;obtain⟨z,hz,hn⟩:∃z,cy s=some z∧bL (some z) (fun _ s'=>bL (gE s') fun id s'=>if s.t.kind=2 then some (.ok (.edge id false) s')else if s.t.kind=3 then some (.ok (.edge id true) s')else some (.ok (.set id s.t.b0 s.t.b1 s.t.b2 s.t.b3) s'))=some x:=by
   cases hp:cy s with
   |none=>rw[hp]at hx;cases hx
   |some z=>rw[hp]at hx;exact⟨z,rfl,hx⟩
  refine bJ (f:=93) (i:=1) (rest:=[]) rfl rfl (fun u=>by simp[go_sem]) trivial (mp hz hi.out) (fun u w6 hr=> ?_) (fun ch w6 hr=> ?_);rotate_left
  ·obtain⟨g1,hr⟩:=hr;cases z with
   |ok _ s2=>obtain⟨_,h⟩:=hr;cases h
   |err e2 s2=>
    obtain⟨rfl,g2,hch⟩:=hr;cases hch;cases Option.some.inj hn;exact⟨rfl,_,rfl,g2,eG hK5.out g1 (AS _),rfl⟩
  obtain⟨hK6,hr⟩:=hr;cases z with
  |err e2 s2=>obtain⟨_,_,h⟩:=hr;cases h
  |ok _ s2=>
  refine aZ ?_;simp only[If,zq0];refine hK.out _ _ ?_;clear hK K;have hj:=hr.1;have g0:ac w6 q 195 _:=ho.out.kp hK6 ho.out.lt (by
   intro hx;rcases IS.1 hx with rfl|hx
   ·omega
   ·have:=AT.1 hx;omega)
  have hs:=eG hK5.out hK6 (AS _);clear hr hK6 hi hK5 ho hz hx;dsimp only[bL]at hn;rcases kN hn with⟨e1,s1,h1,_⟩|⟨id,s1,h1,hx⟩
  ·exact absurd (fT h1).1 (by simp)
  clear hn;obtain⟨h1,hn1,hn2⟩:=fT h1;simp only[cO.ok.injEq]at h1;obtain⟨rfl,rfl⟩:=h1;refine ae (fun w7 hf=> ?_);have hP7:=AI (hj.ab hf);have hK7:=AI (hs.ab hf);have h0:=AI (g0.ab hf);have ht:=AI hP7.out.blk;have d0_:w7.cell? ⟨q,0,none⟩=some (.int .i64 s.t.kind):=h0.out.cell 0;have d2_:w7.cell? ⟨q,2,none⟩=some (.int .u64 s.t.b0):=h0.out.cell 2;have d3_:w7.cell? ⟨q,3,none⟩=some (.int .u64 s.t.b1):=h0.out.cell 3;have d4_:w7.cell? ⟨q,4,none⟩=some (.int .u64 s.t.b2):=h0.out.cell 4;have d5_:w7.cell? ⟨q,5,none⟩=some (.int .u64 s.t.b3):=h0.out.cell 5;clear hf hj hs g0;have h5:p≠q:=by omega
  by_cases h2:s.t.kind=2
  ·rw[if_pos h2]at hx;cases Option.some.inj hx;have b2:(s.t.kind==2)=true:=by simp[h2]
   have b3:(s.t.kind==3)=false:=by simp[h2]
   clear h2;go_wp2;go_region_held3 (fun w'=>w'.cell? ⟨q,0,none⟩=some (.int .i64 s.t.kind)∧w'.cell? ⟨q,2,none⟩=some (.int .u64 s.t.b0)) (first |go_keep|exact⟨(h0.out.drew.kp hK9 h0.out.lt (fun hx=>h5 (AT.1 hx).symm)).cell 0,(h0.out.drew.kp hK9 h0.out.lt (fun hx=>h5 (AT.1 hx).symm)).cell 2⟩) (first |(go_at_call 117;refine(ko p _ s2.n _ _ _ _ _ _ _ _ _ _ _ hn1 (by omega) (ac.drew ht.out)).mono ?_;rintro e9 w9 ⟨rfl,hB9,hK9⟩))
   have hP9:jx p r e cap tm w9 ⟨s2.ts,s2.t,s2.n+1,s2.g⟩:=PS.part (hB:=hB9) (h:=hP7.out) (hK9.mono (AS _) fun x hx _=>hx);have hK9':Kp w7.heap.size [p,r] w7 w9:=hK9.mono (AS _) fun x hx _=>IS.2 (.inl (AT.1 hx))
   have h6:=hP9.lt;have hk:=(eG hK7.out hK9' (AS _)).1;have h7:=fun o=>hP9.keep (Below.heap_alloc w9 o _ h6.1) (Below.heap_alloc w9 o _ h6.2.1)
   have h8:=fun o=>(eG hK7.out hK9' (AS _)).alloc (AS _) o
   have h9:=AI h7;have hc:=AI h8;have hg:=AI hk;clear hP9 hK9' h6 h7 h8 hB9 hK9 h5 hlt hl
   (try simp only[Exit.then,QI])
   go_wp2;go_ret;exact⟨_,rfl,h9.out _,hc.out _,.edge hg.out (ac.new _ _ _)⟩
  ·rw[if_neg h2]at hx;by_cases h3:s.t.kind=3
   ·rw[if_pos h3]at hx;cases Option.some.inj hx;have b2:(s.t.kind==2)=false:=by simp[h3]
    have b3:(s.t.kind==3)=true:=by simp[h3]
    clear h3 h2;go_wp2;go_region_held3 (fun w'=>w'.cell? ⟨q,0,none⟩=some (.int .i64 s.t.kind)∧w'.cell? ⟨q,2,none⟩=some (.int .u64 s.t.b0)) (first |go_keep|exact⟨(h0.out.drew.kp hK9 h0.out.lt (fun hx=>h5 (AT.1 hx).symm)).cell 0,(h0.out.drew.kp hK9 h0.out.lt (fun hx=>h5 (AT.1 hx).symm)).cell 2⟩) (first |(go_at_call 117;refine(ko p _ s2.n _ _ _ _ _ _ _ _ _ _ _ hn1 (by omega) (ac.drew ht.out)).mono ?_;rintro e9 w9 ⟨rfl,hB9,hK9⟩))
    have hP9:jx p r e cap tm w9 ⟨s2.ts,s2.t,s2.n+1,s2.g⟩:=PS.part (hB:=hB9) (h:=hP7.out) (hK9.mono (AS _) fun x hx _=>hx);have hK9':Kp w7.heap.size [p,r] w7 w9:=hK9.mono (AS _) fun x hx _=>IS.2 (.inl (AT.1 hx))
    have h6:=hP9.lt;have hk:=(eG hK7.out hK9' (AS _)).1;have h7:=fun o=>hP9.keep (Below.heap_alloc w9 o _ h6.1) (Below.heap_alloc w9 o _ h6.2.1)
    have h8:=fun o=>(eG hK7.out hK9' (AS _)).alloc (AS _) o
    have h9:=AI h7;have hc:=AI h8;have hg:=AI hk;clear hP9 hK9' h6 h7 h8 hB9 hK9 h5 hlt hl
    (try simp only[Exit.then,QI])
    go_wp2;go_ret;exact⟨_,rfl,h9.out _,hc.out _,.edge hg.out (ac.new _ _ _)⟩
   ·rw[if_neg h3]at hx;cases Option.some.inj hx;have b2:(s.t.kind==2)=false:=by simpa using h2
    have b3:(s.t.kind==3)=false:=by simpa using h3
    go_wp2;go_region_held3 (fun w'=>w'.cell? ⟨q,2,none⟩=some (.int .u64 s.t.b0)∧w'.cell? ⟨q,3,none⟩=some (.int .u64 s.t.b1)∧w'.cell? ⟨q,4,none⟩=some (.int .u64 s.t.b2)∧w'.cell? ⟨q,5,none⟩=some (.int .u64 s.t.b3)) (first |go_keep|exact⟨(h0.out.drew.kp hK9 h0.out.lt (fun hx=>h5 (AT.1 hx).symm)).cell 2,(h0.out.drew.kp hK9 h0.out.lt (fun hx=>h5 (AT.1 hx).symm)).cell 3,(h0.out.drew.kp hK9 h0.out.lt (fun hx=>h5 (AT.1 hx).symm)).cell 4,(h0.out.drew.kp hK9 h0.out.lt (fun hx=>h5 (AT.1 hx).symm)).cell 5⟩) (first |(go_at_call 117;refine(ko p _ s2.n _ _ _ _ _ _ _ _ _ _ _ hn1 (by omega) (ac.drew ht.out)).mono ?_;rintro e9 w9 ⟨rfl,hB9,hK9⟩))
    have hP9:jx p r e cap tm w9 ⟨s2.ts,s2.t,s2.n+1,s2.g⟩:=PS.part (hB:=hB9) (h:=hP7.out) (hK9.mono (AS _) fun x hx _=>hx);have hK9':Kp w7.heap.size [p,r] w7 w9:=hK9.mono (AS _) fun x hx _=>IS.2 (.inl (AT.1 hx))
    have h6:=hP9.lt;have hk:=(eG hK7.out hK9' (AS _)).1;have h7:=fun o=>hP9.keep (Below.heap_alloc w9 o _ h6.1) (Below.heap_alloc w9 o _ h6.2.1)
    have h8:=fun o=>(eG hK7.out hK9' (AS _)).alloc (AS _) o
    have h9:=AI h7;have hc:=AI h8;have hg:=AI hk;clear hP9 hK9' h6 h7 h8 hB9 hK9 h5 hlt hl
    (try simp only[Exit.then,QI])
    go_wp2;go_ret;exact⟨_,rfl,h9.out _,hc.out _,.set hg.out (ac.new _ _ _)⟩
end
section
open Go.RowKit
attribute [local instance] dP
variable{T:bw PA}
theorem F5{w:By}{base:Nat}{e:Q2}{size n:Nat}{v:BY}{xs:List BY}(h:w.ownsRow base e size v n xs):∃a c,v= .slice a n c:=by
 rcases h.2 with⟨rfl,rfl⟩|⟨g,cap,cur,rfl,_⟩<;>exact⟨_,_,rfl⟩
set_option maxHeartbeats 4000000 in
set_option maxRecDepth 100000 in
theorem LN{p r e cap:Nat}{tm:Bool}{f:Nat}(hq:∀f'<f,Does T 142 p r e cap tm (g5 f')):Does T 118 p r e cap tm (kq f):=by
 intro d s w x hx hP;cases f with
 |zero=>simp[kq]at hx
 |succ f=>
 unfold kq at hx;rcases kN hx with⟨e1,s1,h1,_⟩|⟨id,s1,h1,hx⟩
 ·exact absurd (fT h1).1 (by simp)
 obtain⟨h1,hn1,g0⟩:=fT h1;simp only[cO.ok.injEq]at h1;obtain⟨rfl,rfl⟩:=h1;refine cF trivial (fun _=>Post.no) (PA.func Tryz.func118 (by decide)) rfl ?_;simp only[Tryz.ntmps118,PP,IT,PO,Q5,Q4,PE,PD,PR,PJ,PY,PV];refine ag (fun K hK=> ?_);refine ae (fun w1 he=> ?_);have hv:=AI (hP.ab he);have hK1:=AI ((Kp.refl w:Kp w.heap.size [p,r] w w).ab he);go_wp2;refine hK.out _ _ ?_;clear hK K;refine ag (fun K hK=> ?_);refine ae (fun w2 he2=> ?_);have hP2:=AI (hv.out.ab he2);have hK2:=AI (hK1.out.ab he2);go_wp2_with (go_at_call 117;refine(ko p w2 s.n _ _ _ _ _ _ _ _ _ _ _ hn1 (by omega) hP2.out.blk).mono ?_;rintro e2 w3 ⟨rfl,hB3,hK3⟩)
 refine hK.out _ _ ?_;clear hK K;have hlt:=hP2.out.lt;have e1:=congrArg PW he;have e2:=congrArg PW he2;have hg:Kp w.heap.size [p,r] w w3:=hK2.out.trans (hK3.mono (by omega) (fun x hx _=>IS.2 (.inl (AT.1 hx))));have hsz:=hg.1;have hP3:jx p r e cap tm w3 ⟨s.ts,s.t,s.n+1,s.g⟩:=⟨hB3,by
  obtain⟨sn,rc,hc⟩:=hP2.out.chan;exact⟨sn,rc,(hK3.2 r hlt.2.1 (fun h=>hlt.2.2 (AT.1 h).symm)).trans hc⟩⟩
 have hw:=hP3.lt;have I0:m6 269 p r e cap tm w.heap.size w (s.n+1) w3.heap.size [] ⟨s.ts,s.t,s.n+1,s.g⟩ (.slice none 0 0) (w3.alloc (.cells #[.int .i64 (s.n+1),.slice none 0 0] 269)):=
  ⟨hP3.keep (Below.heap_alloc _ _ _ hw.1) (Below.heap_alloc _ _ _ hw.2.1),hg.alloc (AS _) _,hsz,ac.new _ _ _,Kids.nil _ _ _⟩
 clear hP hv hP2 hK1 hK2 hK3 hB3 hP3 hg;generalize w3.alloc (.cells #[.int .i64 (s.n+1),.slice none 0 0] 269)=w4 at I0 ⊢;generalize w3.heap.size=q at I0 ⊢;generalize s.n+1=id at hx I0;refine ek (mj (fun m a w'=>∃ks s' sl q,(∃u6 u7 u8 u9 u10 u11 u12 u13 u14 u15 u16 u17 u18 u19 u20 u21 u22 u23 u24 u25 u26 u27 u28 u29 u30 u31 u32 u33 u34 u35 u36 u37 u38 u39 u40 u41 u42 u43 u44 u45 u46 u47 u48 u49 u50 u51 u52 u53 u54 u55 u56 u57 u58 u59 u60 u61 u62 u63 u64 u65 u66 u67 u68 u69 u70 u71,a=⟨#[.pointer (some ⟨p,0,none⟩),.int .i64 d,undef,undef,.nilIface,.pointer (some ⟨q,0,none⟩),u6,u7,u8,u9,u10,u11,u12,u13,u14,u15,u16,u17,u18,u19,u20,u21,u22,u23,u24,u25,u26,u27,u28,u29,u30,u31,u32,u33,u34,u35,u36,u37,u38,u39,u40,u41,u42,u43,u44,u45,u46,u47,u48,u49,u50,u51,u52,u53,u54,u55,u56,u57,u58,u59,u60,u61,u62,u63,u64,u65,u66,u67,u68,u69,u70,u71],[]⟩)∧k9 m d id ks s'=some x∧m6 269 p r e cap tm w.heap.size w id q ks s' sl w'∧m≤f) f ⟨_,_,_,_,⟨_,_,_,_,_,_,_,_,_,_,_,_,_,_,_,_,_,_,_,_,_,_,_,_,_,_,_,_,_,_,_,_,_,_,_,_,_,_,_,_,_,_,_,_,_,_,_,_,_,_,_,_,_,_,_,_,_,_,_,_,_,_,_,_,_,_,rfl⟩,hx,I0,AS _⟩ ?_);clear hx I0 hn1 g0;rintro m a w5 ⟨ks,s',sl,q,⟨u6,u7,u8,u9,u10,u11,u12,u13,u14,u15,u16,u17,u18,u19,u20,u21,u22,u23,u24,u25,u26,u27,u28,u29,u30,u31,u32,u33,u34,u35,u36,u37,u38,u39,u40,u41,u42,u43,u44,u45,u46,u47,u48,u49,u50,u51,u52,u53,u54,u55,u56,u57,u58,u59,u60,u61,u62,u63,u64,u65,u66,u67,u68,u69,u70,u71,rfl⟩,hx,I0,hm⟩;cases m with
 |zero=>simp[k9]at hx
 |succ m=>
 unfold k9 at hx;obtain⟨i0,hi0,hz0,hh,hj⟩:=info_parts zW;have h9:=zV;refine ek ?_;refine uP (fun K hK hKr=> ?_);obtain⟨vs,hv1,hv2,hv3,hv4⟩:=I0.kids;obtain⟨sa,sc,g1⟩:=F5 hv1;subst g1;by_cases hend:s'.t.kind=0∨s'.t.kind=6∨s'.t.kind=5
 ·rw[if_pos hend]at hx;have hk:(s'.t.kind==0)=true∨((s'.t.kind==0)=false∧(s'.t.kind==6)=true)∨((s'.t.kind==0)=false∧(s'.t.kind==6)=false∧(s'.t.kind==5)=true):=by
   rcases hend with h|h|h<;>simp[h]
  by_cases h5:s'.t.kind=5∧d=0
  ·rw[if_pos h5]at hx;cases Option.some.inj hx;have b0:(s'.t.kind==0)=false:=by simp[h5.1]
   have b6:(s'.t.kind==6)=false:=by simp[h5.1]
   have b5:(s'.t.kind==5)=true:=by simp[h5.1]
   have bd:(d==0)=true:=by simp[h5.2]
   clear hk hend hv4 hx hv1 hv3;refine ae (fun w6 h6=> ?_);have I6:=AI (I0.ab h6);have h0:=I6.out.ps.blk;have c1_:w6.cell? ⟨p,1,none⟩=some (.int .i64 s'.t.kind):=h0.cell 1;have c2_:w6.cell? ⟨p,2,none⟩=some (.int .i64 s'.t.at_):=h0.cell 2;have cq_:w6.cell? ⟨q,1,none⟩=some _:=I6.out.blk.cell 1;clear h0 h6 I0;go_wp2_with (go_at_call 141;refine(ku _ _ _ _).mono ?_;rintro e7 w7 ⟨rfl,rfl⟩)
   exact⟨rfl,_,rfl,I6.out.ps.keep (Below.heap_alloc _ _ _ I6.out.ps.lt.1) (Below.heap_alloc _ _ _ I6.out.ps.lt.2.1),I6.out.kp.alloc (AS _) _,_,rfl,I6.out.kp.1,ac.new _ _ _⟩
  ·rw[if_neg h5]at hx;have bd:(s'.t.kind==5)=false∨(d==0)=false:=by
    rcases Classical.not_and_iff_not_or_not.1 h5 with h|h
    ·exact .inl (by simpa using h)
    ·exact .inr (by simpa using h)
   by_cases hks:ks.length=0
   ·rw[if_pos hks]at hx;cases Option.some.inj hx;have hz:vs.length=0:=by omega
    rw[hz]at I0;clear hend hv4 hx hv1 hv3 h5;rcases hk with b0|⟨b0,b6⟩|⟨b0,b6,b5⟩
    ·have b5:(s'.t.kind==5)=false:=by simp[show s'.t.kind=0 by simpa using b0]
     clear bd;refine ae (fun w6 h6=> ?_);have I6:=AI (I0.ab h6);have h0:=I6.out.ps.blk;have c1_:w6.cell? ⟨p,1,none⟩=some (.int .i64 s'.t.kind):=h0.cell 1;have c2_:w6.cell? ⟨p,2,none⟩=some (.int .i64 s'.t.at_):=h0.cell 2;have cq_:w6.cell? ⟨q,1,none⟩=some _:=I6.out.blk.cell 1;clear h0 h6 I0;go_wp2_with (go_at_call 141;refine(ku _ _ _ _).mono ?_;rintro e7 w7 ⟨rfl,rfl⟩)
     exact⟨rfl,_,rfl,I6.out.ps.keep (Below.heap_alloc _ _ _ I6.out.ps.lt.1) (Below.heap_alloc _ _ _ I6.out.ps.lt.2.1),I6.out.kp.alloc (AS _) _,_,rfl,I6.out.kp.1,ac.new _ _ _⟩
    ·have b5:(s'.t.kind==5)=false:=by simp[show s'.t.kind=6 by simpa using b6]
     clear bd;refine ae (fun w6 h6=> ?_);have I6:=AI (I0.ab h6);have h0:=I6.out.ps.blk;have c1_:w6.cell? ⟨p,1,none⟩=some (.int .i64 s'.t.kind):=h0.cell 1;have c2_:w6.cell? ⟨p,2,none⟩=some (.int .i64 s'.t.at_):=h0.cell 2;have cq_:w6.cell? ⟨q,1,none⟩=some _:=I6.out.blk.cell 1;clear h0 h6 I0;go_wp2_with (go_at_call 141;refine(ku _ _ _ _).mono ?_;rintro e7 w7 ⟨rfl,rfl⟩)
     exact⟨rfl,_,rfl,I6.out.ps.keep (Below.heap_alloc _ _ _ I6.out.ps.lt.1) (Below.heap_alloc _ _ _ I6.out.ps.lt.2.1),I6.out.kp.alloc (AS _) _,_,rfl,I6.out.kp.1,ac.new _ _ _⟩
    ·have bd':(d==0)=false:=bd.resolve_left (by simp[b5]);clear bd;refine ae (fun w6 h6=> ?_);have I6:=AI (I0.ab h6);have h0:=I6.out.ps.blk;have c1_:w6.cell? ⟨p,1,none⟩=some (.int .i64 s'.t.kind):=h0.cell 1;have c2_:w6.cell? ⟨p,2,none⟩=some (.int .i64 s'.t.at_):=h0.cell 2;have cq_:w6.cell? ⟨q,1,none⟩=some _:=I6.out.blk.cell 1;clear h0 h6 I0;go_wp2_with (go_at_call 141;refine(ku _ _ _ _).mono ?_;rintro e7 w7 ⟨rfl,rfl⟩)
     exact⟨rfl,_,rfl,I6.out.ps.keep (Below.heap_alloc _ _ _ I6.out.ps.lt.1) (Below.heap_alloc _ _ _ I6.out.ps.lt.2.1),I6.out.kp.alloc (AS _) _,_,rfl,I6.out.kp.1,ac.new _ _ _⟩
   ·rw[if_neg hks]at hx;cases Option.some.inj hx;have hz:((vs.length:Int)==0)=false:=by
     have:(vs.length:Int)≠0:=by omega
     simpa using this
    have hvl2:(vs.length==0)=false:=by
     have:vs.length≠0:=by omega
     simpa using this
    clear hend hv4 hx hv1 hv3 h5;rcases hk with b0|⟨b0,b6⟩|⟨b0,b6,b5⟩
    ·have b5:(s'.t.kind==5)=false:=by simp[show s'.t.kind=0 by simpa using b0]
     clear bd;refine ae (fun w6 h6=> ?_);have I6:=AI (I0.ab h6);have h0:=I6.out.ps.blk;have c1_:w6.cell? ⟨p,1,none⟩=some (.int .i64 s'.t.kind):=h0.cell 1;have c2_:w6.cell? ⟨p,2,none⟩=some (.int .i64 s'.t.at_):=h0.cell 2;have cq_:w6.cell? ⟨q,1,none⟩=some _:=I6.out.blk.cell 1;clear h0 h6 I0;go_wp2;go_ret;exact⟨_,rfl,I6.out.ps,I6.out.kp,I6.out.kids.seq I6.out.lt I6.out.blk⟩
    ·have b5:(s'.t.kind==5)=false:=by simp[show s'.t.kind=6 by simpa using b6]
     clear bd;refine ae (fun w6 h6=> ?_);have I6:=AI (I0.ab h6);have h0:=I6.out.ps.blk;have c1_:w6.cell? ⟨p,1,none⟩=some (.int .i64 s'.t.kind):=h0.cell 1;have c2_:w6.cell? ⟨p,2,none⟩=some (.int .i64 s'.t.at_):=h0.cell 2;have cq_:w6.cell? ⟨q,1,none⟩=some _:=I6.out.blk.cell 1;clear h0 h6 I0;go_wp2;go_ret;exact⟨_,rfl,I6.out.ps,I6.out.kp,I6.out.kids.seq I6.out.lt I6.out.blk⟩
    ·have bd':(d==0)=false:=bd.resolve_left (by simp[b5]);clear bd;refine ae (fun w6 h6=> ?_);have I6:=AI (I0.ab h6);have h0:=I6.out.ps.blk;have c1_:w6.cell? ⟨p,1,none⟩=some (.int .i64 s'.t.kind):=h0.cell 1;have c2_:w6.cell? ⟨p,2,none⟩=some (.int .i64 s'.t.at_):=h0.cell 2;have cq_:w6.cell? ⟨q,1,none⟩=some _:=I6.out.blk.cell 1;clear h0 h6 I0;go_wp2;go_ret;exact⟨_,rfl,I6.out.ps,I6.out.kp,I6.out.kids.seq I6.out.lt I6.out.blk⟩
 ·rw[if_neg hend]at hx;have b0:(s'.t.kind==0)=false:=by simpa using fun h=>hend (.inl h)
  have b6:(s'.t.kind==6)=false:=by simpa using fun h=>hend (.inr (.inl h))
  have b5:(s'.t.kind==5)=false:=by simpa using fun h=>hend (.inr (.inr h))
  clear hend hv4 hv1;by_cases h7:s'.t.kind=7
  ·rw[if_pos h7]at hx;cases Option.some.inj hx;have b7:(s'.t.kind==7)=true:=by simp[h7]
   clear hx hv3;refine ae (fun w6 h6=> ?_);have I6:=AI (I0.ab h6);have h0:=I6.out.ps.blk;have c1_:w6.cell? ⟨p,1,none⟩=some (.int .i64 s'.t.kind):=h0.cell 1;have c2_:w6.cell? ⟨p,2,none⟩=some (.int .i64 s'.t.at_):=h0.cell 2;have cq_:w6.cell? ⟨q,1,none⟩=some _:=I6.out.blk.cell 1;clear h0 h6 I0;go_wp2_with (go_at_call 141;refine(ku _ _ _ _).mono ?_;rintro e7 w7 ⟨rfl,rfl⟩)
   exact⟨rfl,_,rfl,I6.out.ps.keep (Below.heap_alloc _ _ _ I6.out.ps.lt.1) (Below.heap_alloc _ _ _ I6.out.ps.lt.2.1),I6.out.kp.alloc (AS _) _,_,rfl,I6.out.kp.1,ac.new _ _ _⟩
  ·rw[if_neg h7]at hx;have b7:(s'.t.kind==7)=false:=by simpa using h7
   refine ae (fun w6 h6=> ?_);have I6:=AI (I0.ab h6);have h0:=I6.out.ps.blk;have c1_:w6.cell? ⟨p,1,none⟩=some (.int .i64 s'.t.kind):=h0.cell 1;clear h0 h6 I0 hv3;go_wp2;refine hK.out _ _ ?_;clear hK K hKr c1_ b0 b6 b5 b7 hv2;split at hx;case isFalse=>cases hx
   rename_i hlen;obtain⟨y,hy,hxy⟩:∃y,g5 m d s'=some y∧bL (some y) (fun k s=>k9 m d id (ks++[k]) s)=some x:=by
    cases hp:g5 m d s' with
    |none=>rw[hp]at hx;cases hx
    |some y=>rw[hp]at hx;exact⟨y,rfl,hx⟩
   clear hx;have I0:=I6.out;clear I6;generalize w6=w5 at I0 ⊢;generalize Value.slice sa vs.length sc=sl at I0 ⊢;clear vs;refine Hm (fun a w τ d ⟨m',h1,ks,s',sl,q,h2,h3,h4,h5⟩=>⟨m',h1,ks,s',sl,q,h2,h3,h4.ab rfl,h5⟩) (fun K hK hKr=> ?_);refine pX rfl ?_;show j8 _ _ _ _ 13 #[false,false,false,false,false,false,false,false,false,false,false,false,false] _ _;refine eO (i:=0) (v:=.pointer (some ⟨q,0,none⟩)) rfl (by decide+kernel) (by decide+kernel) (by decide+kernel) (fun _ _ _ h=>h) hKr.out (.inl ⟨rfl,fun u=>by simp[go_sem]⟩) ?_;simp only[If,zq0];refine eO (i:=1) (v:=.pointer (some ⟨q,0,none⟩)) rfl (by decide+kernel) (by decide+kernel) (by decide+kernel) (fun _ _ _ h=>h) hKr.out (.inl ⟨rfl,fun u=>by simp[go_sem]⟩) ?_;simp only[If,zq0];refine eO (i:=2) (v:=.pointer (some ⟨q,0,none⟩)) rfl (by decide+kernel) (by decide+kernel) (by decide+kernel) (fun _ _ _ h=>h) hKr.out (.inl ⟨rfl,fun u=>by simp[go_sem]⟩) ?_;simp only[If,zq0];refine eO (i:=3) (v:=.pointer (some ⟨q,1,none⟩)) rfl (by decide+kernel) (by decide+kernel) (by decide+kernel) (fun _ _ _ h=>h) hKr.out (.inl ⟨rfl,fun u=>by simp[go_sem]⟩) ?_;simp only[If,zq0];refine eO (i:=5) (v:=.pointer (some ⟨p,0,none⟩)) rfl (by decide+kernel) (by decide+kernel) (by decide+kernel) (fun _ _ _ h=>h) hKr.out (.inl ⟨rfl,fun u=>by simp[go_sem]⟩) ?_;simp only[If,zq0];refine eO (i:=6) (v:=.int .i64 d) rfl (by decide+kernel) (by decide+kernel) (by decide+kernel) (fun _ _ _ h=>h) hKr.out (.inl ⟨rfl,fun u=>by simp[go_sem]⟩) ?_;simp only[If,zq0];try simp only[If,zq0]
   refine dx (rs:=[4,7]) (by decide+kernel) (by simp) ?_;intro i hi;simp only[IS,PU,or_false]at hi;rcases hi with rfl|rfl
   ·refine jy.walk rfl (fun N hN w6 h6=> ?_);have I6:=AI (I0.ab h6);have c1:w6.cell? ⟨q,1,none⟩=some sl:=I6.out.blk.cell 1;go_wp2;refine hN.out _ _ ?_;clear hN N c1;try simp only[If,zq0]
    refine dx (rs:=[7]) (by decide+kernel) (by simp) ?_;intro i hi;simp only[IS,PU,or_false]at hi;subst hi;refine jy.call (f:=142) (R:=Post p r e cap tm w6.heap.size w6 y) rfl rfl (fun u=>by simp[go_sem]) trivial (hq m (by omega) d s' w6 y hy I6.out.ps) (fun v w8 hr=> ?_) (fun ch w8 hr=> ?_)
    ·cases y with
     |err e1 s1=>obtain⟨_,h,_⟩:=hr;cases h
     |ok k s1=>
      obtain⟨v',hl,hP7,hK7,h8⟩:=hr;cases hl;have I7:=I6.out.call (by omega) (by omega) (AS _) hP7 hK7;have hC:=I6.out.kp.1;have hqC:=I6.out.blk.lt;have hsC:∀b,sl.ownBlock=some b→b<w6.heap.size:=by
       obtain⟨vs,hv1,_⟩:=I6.out.kids;exact fun b e=>(fj hv1 e).1
      generalize w6.heap.size=C at hC hqC hsC h8;clear hK7 hP7 I6 hy hq;have I8:=I7;have hrep:=h8;clear I7 h8;obtain⟨vs,hv1,hv2,hv3,hv4⟩:=I8.kids;obtain⟨vt,vq,rfl⟩:=hrep.form;try simp only[If,zq0]
      refine dx (rs:=[8]) (by decide+kernel) (by simp) ?_;intro i hi;obtain rfl:=AT.1 hi;refine jy.walk rfl (fun N hN w9 he9=> ?_);have I9:=I8.ab he9;have hrep9:=hrep.keep (w':=w9) (fun b _ _=>by rw[he9]);have hown9:=bu (w':=w9) hv1 (fun b _ _=>by rw[he9]);have hv49:∀(i:Nat) u x,vs[i]?=some u→ks[i]?=some x→Repr w9 _ u x:=fun i u x h1 h2=>(hv4 i u x h1 h2).keep (w':=w9) (fun b _ _=>by rw[he9])
      have hsz9:w9.heap.size=w8.heap.size:=congrArg PW he9;have H1:=AI I9;have H2:=AI hrep9;have H3:=AI hown9;have H4:=AI hv49;have H5:=AI hsz9;have H6:=AI hv3;clear hv1 hv4 hrep I8 he9 I9 hrep9 hown9 hv49 hsz9 hv3;go_wp2;refine hN.out _ _ ?_;clear hN N;have hn3:=H6.out;have hsz:=H1.out.kp.1;simp only[If,zq0];refine dx (rs:=[9]) (by decide+kernel) (by simp) ?_;intro i hi;obtain rfl:=AT.1 hi;have hown10:=bu (w':=w9.alloc (.cells #[.iface vt (.pointer (some ⟨vq,0,none⟩))] 86)) H3.out (fun b _ hlt=>Below.heap_alloc _ _ b hlt);have hv410:∀(i:Nat) u x,vs[i]?=some u→ks[i]?=some x→Repr (w9.alloc (.cells #[.iface vt (.pointer (some ⟨vq,0,none⟩))] 86)) _ u x:=fun i u x h1 h2=>(H4.out i u x h1 h2).keep (w':=w9.alloc (.cells #[.iface vt (.pointer (some ⟨vq,0,none⟩))] 86)) (fun b _ hlt=>Below.heap_alloc _ _ b hlt)
      have hrep10:=H2.out.keep (w':=w9.alloc (.cells #[.iface vt (.pointer (some ⟨vq,0,none⟩))] 86)) (fun b _ hlt=>Below.heap_alloc _ _ b hlt);refine jy.walk rfl (fun N hN w11 he11=> ?_);have hn11:=fun j u hu=>(jw he11 _).trans (lJ w9 86 (.iface vt (.pointer (some ⟨vq,0,none⟩))) j u hu)
      refine wpList_append_own_at _ rfl (.tmp 64) (.tmp 68) _ rfl w.heap.size 86 i0 .nilIface 1 16 h9 hi0 hz0 hh hj rfl (by decide) sl vs.length vs rfl (bu (w':=w11) hown10 (fun b _ _=>by rw[he11])) ⟨w9.heap.size,0,none⟩ 1 1 [.iface vt (.pointer (some ⟨vq,0,none⟩))] rfl rfl hn11 (one_one H2.out.one) (by simp only[maxLen];omega) (by omega) (by rw[he11];simp;omega) ?_;intro v' w10 hown' hgrow _ hat;refine wpList_nil (hN.out _ _ ?_);clear hN N;obtain⟨va,vn,vc,rfl⟩:=slice_form hown';simp only[If,zq0];refine lU (k:=10) (by decide+kernel) rfl (fun w12 he12=> ?_);simp only[PG,Qb];have I13:=H1.out.grow (by omega) (by omega) (AS _) H2.out hqC hsC hC he11 H3.out hv2 hn3 H4.out hown' hgrow hat he12;have hb12:ac w12 q 269 #[.int .i64 id,sl]:=by
       refine ac.ab ?_ he12;exact(hgrow.block q (by rw[he11];have:=H1.out.blk.lt;simp;omega) fun e=>hv2 e.symm).trans ((congrArg (·[q]?) he11).trans ((Below.heap_alloc _ _ _ H1.out.blk.lt).trans H1.out.blk))
      have hc12:w12.cell? ⟨q,1,none⟩=some sl:=hb12.cell 1;have hf12:w12.frozen? ⟨q,1,none⟩=false:=hb12.frozen 1;clear hgrow hown' hat hb12 hn11 hown10 hv410 hrep10 he12 he11 H2 H3 H4 H5 H6 hv2 hn3 hsz H1 hqC hsC hC;have I13:=AI I13;go_wp2;refine hK.out _ _ ?_;clear hc12 hf12;generalize PK _ _ _=w13 at I13 ⊢;exact⟨m,OF m,_,_,_,_,⟨_,_,_,_,_,_,_,_,_,_,_,_,_,_,_,_,_,_,_,_,_,_,_,_,_,_,_,_,_,_,_,_,_,_,_,_,_,_,_,_,_,_,_,_,_,_,_,_,_,_,_,_,_,_,_,_,_,_,_,_,_,_,_,_,_,_,rfl⟩,hxy,I13.out,by omega⟩
    ·cases y with
     |ok k s1=>obtain⟨_,h,_⟩:=hr;cases h
     |err e1 s1=>
      obtain⟨a,ha,hn,ho,hs⟩:=hr;cases ha;cases Option.some.inj hxy;exact⟨rfl,_,rfl,hn,I6.out.kp.trans (ho.mono I6.out.kp.1 fun x hx _=>hx),hs.mono I6.out.kp.1⟩
   ·refine jy.call (f:=142) (R:=Post p r e cap tm w5.heap.size w5 y) rfl rfl (fun u=>by simp[go_sem]) trivial (hq m (by omega) d s' w5 y hy I0.ps) (fun v w7 hr=> ?_) (fun ch w7 hr=> ?_)
    ·cases y with
     |err e1 s1=>obtain⟨_,h,_⟩:=hr;cases h
     |ok k s1=>
      obtain⟨v',hl,hP7,hK7,h8⟩:=hr;cases hl;have I7:=I0.call (by omega) (by omega) (AS _) hP7 hK7;have hC:=I0.kp.1;have hqC:=I0.blk.lt;have hsC:∀b,sl.ownBlock=some b→b<w5.heap.size:=by
       obtain⟨vs,hv1,_⟩:=I0.kids;exact fun b e=>(fj hv1 e).1
      generalize w5.heap.size=C at hC hqC hsC h8;clear hK7 hP7 I0 hy hq;try simp only[If,zq0]
      refine dx (rs:=[4,8]) (by decide+kernel) (by simp) ?_;intro i hi;simp only[IS,PU,or_false]at hi;rcases hi with rfl|rfl
      ·refine jy.walk rfl (fun N hN w8 ht=> ?_);have I8:=I7.ab ht;have hrep:=h8.keep (w':=w8) (fun b _ _=>by rw[ht]);have c1:w8.cell? ⟨q,1,none⟩=some sl:=I8.blk.cell 1;clear I7 h8 ht;have I8':=AI I8;have hd:=AI hrep;clear I8 hrep;go_wp2;refine hN.out _ _ ?_;clear hN N c1;have I8:=I8'.out;have hrep:=hd.out;clear I8' hd;obtain⟨vs,hv1,hv2,hv3,hv4⟩:=I8.kids;obtain⟨vt,vq,rfl⟩:=hrep.form;try simp only[If,zq0]
       refine dx (rs:=[8]) (by decide+kernel) (by simp) ?_;intro i hi;obtain rfl:=AT.1 hi;refine jy.walk rfl (fun N hN w9 he9=> ?_);have I9:=I8.ab he9;have hrep9:=hrep.keep (w':=w9) (fun b _ _=>by rw[he9]);have hown9:=bu (w':=w9) hv1 (fun b _ _=>by rw[he9]);have hv49:∀(i:Nat) u x,vs[i]?=some u→ks[i]?=some x→Repr w9 _ u x:=fun i u x h1 h2=>(hv4 i u x h1 h2).keep (w':=w9) (fun b _ _=>by rw[he9])
       have hsz9:w9.heap.size=w8.heap.size:=congrArg PW he9;have H1:=AI I9;have H2:=AI hrep9;have H3:=AI hown9;have H4:=AI hv49;have H5:=AI hsz9;have H6:=AI hv3;clear hv1 hv4 hrep I8 he9 I9 hrep9 hown9 hv49 hsz9 hv3;go_wp2;refine hN.out _ _ ?_;clear hN N;have hn3:=H6.out;have hsz:=H1.out.kp.1;simp only[If,zq0];refine dx (rs:=[9]) (by decide+kernel) (by simp) ?_;intro i hi;obtain rfl:=AT.1 hi;have hown10:=bu (w':=w9.alloc (.cells #[.iface vt (.pointer (some ⟨vq,0,none⟩))] 86)) H3.out (fun b _ hlt=>Below.heap_alloc _ _ b hlt);have hv410:∀(i:Nat) u x,vs[i]?=some u→ks[i]?=some x→Repr (w9.alloc (.cells #[.iface vt (.pointer (some ⟨vq,0,none⟩))] 86)) _ u x:=fun i u x h1 h2=>(H4.out i u x h1 h2).keep (w':=w9.alloc (.cells #[.iface vt (.pointer (some ⟨vq,0,none⟩))] 86)) (fun b _ hlt=>Below.heap_alloc _ _ b hlt)
       have hrep10:=H2.out.keep (w':=w9.alloc (.cells #[.iface vt (.pointer (some ⟨vq,0,none⟩))] 86)) (fun b _ hlt=>Below.heap_alloc _ _ b hlt);refine jy.walk rfl (fun N hN w11 he11=> ?_);have hn11:=fun j u hu=>(jw he11 _).trans (lJ w9 86 (.iface vt (.pointer (some ⟨vq,0,none⟩))) j u hu)
       refine wpList_append_own_at _ rfl (.tmp 64) (.tmp 68) _ rfl w.heap.size 86 i0 .nilIface 1 16 h9 hi0 hz0 hh hj rfl (by decide) sl vs.length vs rfl (bu (w':=w11) hown10 (fun b _ _=>by rw[he11])) ⟨w9.heap.size,0,none⟩ 1 1 [.iface vt (.pointer (some ⟨vq,0,none⟩))] rfl rfl hn11 (one_one H2.out.one) (by simp only[maxLen];omega) (by omega) (by rw[he11];simp;omega) ?_;intro v' w10 hown' hgrow _ hat;refine wpList_nil (hN.out _ _ ?_);clear hN N;obtain⟨va,vn,vc,rfl⟩:=slice_form hown';simp only[If,zq0];refine lU (k:=10) (by decide+kernel) rfl (fun w12 he12=> ?_);simp only[PG,Qb];have I13:=H1.out.grow (by omega) (by omega) (AS _) H2.out hqC hsC hC he11 H3.out hv2 hn3 H4.out hown' hgrow hat he12;have hb12:ac w12 q 269 #[.int .i64 id,sl]:=by
        refine ac.ab ?_ he12;exact(hgrow.block q (by rw[he11];have:=H1.out.blk.lt;simp;omega) fun e=>hv2 e.symm).trans ((congrArg (·[q]?) he11).trans ((Below.heap_alloc _ _ _ H1.out.blk.lt).trans H1.out.blk))
       have hc12:w12.cell? ⟨q,1,none⟩=some sl:=hb12.cell 1;have hf12:w12.frozen? ⟨q,1,none⟩=false:=hb12.frozen 1;clear hgrow hown' hat hb12 hn11 hown10 hv410 hrep10 he12 he11 H2 H3 H4 H5 H6 hv2 hn3 hsz H1 hqC hsC hC;have I13:=AI I13;go_wp2;refine hK.out _ _ ?_;clear hc12 hf12;generalize PK _ _ _=w13 at I13 ⊢;exact⟨m,OF m,_,_,_,_,⟨_,_,_,_,_,_,_,_,_,_,_,_,_,_,_,_,_,_,_,_,_,_,_,_,_,_,_,_,_,_,_,_,_,_,_,_,_,_,_,_,_,_,_,_,_,_,_,_,_,_,_,_,_,_,_,_,_,_,_,_,_,_,_,_,_,_,rfl⟩,hxy,I13.out,by omega⟩
      ·have I8:=I7;have hrep:=h8;clear I7 h8;obtain⟨vs,hv1,hv2,hv3,hv4⟩:=I8.kids;obtain⟨vt,vq,rfl⟩:=hrep.form;refine jy.walk rfl (fun N hN w9 he9=> ?_);have I9:=I8.ab he9;have hrep9:=hrep.keep (w':=w9) (fun b _ _=>by rw[he9]);have hown9:=bu (w':=w9) hv1 (fun b _ _=>by rw[he9]);have hv49:∀(i:Nat) u x,vs[i]?=some u→ks[i]?=some x→Repr w9 _ u x:=fun i u x h1 h2=>(hv4 i u x h1 h2).keep (w':=w9) (fun b _ _=>by rw[he9])
       have hsz9:w9.heap.size=w7.heap.size:=congrArg PW he9;have H1:=AI I9;have H2:=AI hrep9;have H3:=AI hown9;have H4:=AI hv49;have H5:=AI hsz9;have H6:=AI hv3;clear hv1 hv4 hrep I8 he9 I9 hrep9 hown9 hv49 hsz9 hv3;go_wp2;refine hN.out _ _ ?_;clear hN N;have hn3:=H6.out;have hsz:=H1.out.kp.1;simp only[If,zq0];refine dx (rs:=[4]) (by decide+kernel) (by simp) ?_;intro i hi;obtain rfl:=AT.1 hi;refine jy.walk rfl (fun N hN wm hem=> ?_);have c1m:wm.cell? ⟨q,1,none⟩=some sl:=(jw hem _).trans ((QB _ _ ⟨q,1,none⟩ H1.out.blk.lt).trans (H1.out.blk.cell 1));have hem':=AI hem;clear hem;go_wp2;refine hN.out _ _ ?_;clear hN N c1m;simp only[If,zq0];refine dx (rs:=[9]) (by decide+kernel) (by simp) ?_;intro i hi;obtain rfl:=AT.1 hi;have hown10:=bu (w':=w9.alloc (.cells #[.iface vt (.pointer (some ⟨vq,0,none⟩))] 86)) H3.out (fun b _ hlt=>Below.heap_alloc _ _ b hlt);have hv410:∀(i:Nat) u x,vs[i]?=some u→ks[i]?=some x→Repr (w9.alloc (.cells #[.iface vt (.pointer (some ⟨vq,0,none⟩))] 86)) _ u x:=fun i u x h1 h2=>(H4.out i u x h1 h2).keep (w':=w9.alloc (.cells #[.iface vt (.pointer (some ⟨vq,0,none⟩))] 86)) (fun b _ hlt=>Below.heap_alloc _ _ b hlt)
       have hrep10:=H2.out.keep (w':=w9.alloc (.cells #[.iface vt (.pointer (some ⟨vq,0,none⟩))] 86)) (fun b _ hlt=>Below.heap_alloc _ _ b hlt);refine jy.walk rfl (fun N hN w11 hf=> ?_);have he11:=hf.trans hem'.out;clear hf hem';have hn11:=fun j u hu=>(jw he11 _).trans (lJ w9 86 (.iface vt (.pointer (some ⟨vq,0,none⟩))) j u hu)
       refine wpList_append_own_at _ rfl (.tmp 64) (.tmp 68) _ rfl w.heap.size 86 i0 .nilIface 1 16 h9 hi0 hz0 hh hj rfl (by decide) sl vs.length vs rfl (bu (w':=w11) hown10 (fun b _ _=>by rw[he11])) ⟨w9.heap.size,0,none⟩ 1 1 [.iface vt (.pointer (some ⟨vq,0,none⟩))] rfl rfl hn11 (one_one H2.out.one) (by simp only[maxLen];omega) (by omega) (by rw[he11];simp;omega) ?_;intro v' w10 hown' hgrow _ hat;refine wpList_nil (hN.out _ _ ?_);clear hN N;obtain⟨va,vn,vc,rfl⟩:=slice_form hown';simp only[If,zq0];refine lU (k:=10) (by decide+kernel) rfl (fun w12 he12=> ?_);simp only[PG,Qb];have I13:=H1.out.grow (by omega) (by omega) (AS _) H2.out hqC hsC hC he11 H3.out hv2 hn3 H4.out hown' hgrow hat he12;have hb12:ac w12 q 269 #[.int .i64 id,sl]:=by
        refine ac.ab ?_ he12;exact(hgrow.block q (by rw[he11];have:=H1.out.blk.lt;simp;omega) fun e=>hv2 e.symm).trans ((congrArg (·[q]?) he11).trans ((Below.heap_alloc _ _ _ H1.out.blk.lt).trans H1.out.blk))
       have hc12:w12.cell? ⟨q,1,none⟩=some sl:=hb12.cell 1;have hf12:w12.frozen? ⟨q,1,none⟩=false:=hb12.frozen 1;clear hgrow hown' hat hb12 hn11 hown10 hv410 hrep10 he12 he11 H2 H3 H4 H5 H6 hv2 hn3 hsz H1 hqC hsC hC;have I13:=AI I13;go_wp2;refine hK.out _ _ ?_;clear hc12 hf12;generalize PK _ _ _=w13 at I13 ⊢;exact⟨m,OF m,_,_,_,_,⟨_,_,_,_,_,_,_,_,_,_,_,_,_,_,_,_,_,_,_,_,_,_,_,_,_,_,_,_,_,_,_,_,_,_,_,_,_,_,_,_,_,_,_,_,_,_,_,_,_,_,_,_,_,_,_,_,_,_,_,_,_,_,_,_,_,_,rfl⟩,hxy,I13.out,by omega⟩
    ·cases y with
     |ok k s1=>obtain⟨_,h,_⟩:=hr;cases h
     |err e1 s1=>
      obtain⟨a,ha,hn,ho,hs⟩:=hr;cases ha;cases Option.some.inj hxy;exact⟨rfl,_,rfl,hn,I0.kp.trans (ho.mono I0.kp.1 fun x hx _=>hx),hs.mono I0.kp.1⟩
end
section
open Go.RowKit
attribute [local instance] dP
variable{T:bw PA}
theorem PS.groups{p r e cap:Nat}{tm:Bool}{w:By}{s:cZ}(h:jx p r e cap tm w s)(n:Int):jx p r e cap tm (w.setCell ⟨p,11,none⟩ (.int .i64 n)) ⟨s.ts,s.t,s.n,n⟩:=⟨by
 have:=h.blk.ci 11 (.int .i64 n);simpa only[PL,Q8,Q7]using this,by
 obtain⟨sn,rc,hc⟩:=h.chan;exact⟨sn,rc,AG hc (p:=⟨p,11,none⟩) (PX h.lt.2.2) _⟩⟩
set_option maxHeartbeats 4000000 in
set_option maxRecDepth 100000 in
theorem HZ{p r e cap:Nat}{tm:Bool}{f:Nat}(hq:∀f'<f,Does T 94 p r e cap tm (ic f')):Does T 174 p r e cap tm (iV f):=by
 intro d s w x hx hP;cases f with
 |zero=>simp[iV]at hx
 |succ f=>
 unfold iV at hx;have hlt:=hP.lt;refine cF trivial (fun _=>Post.no) (PA.func Tryz.func174 (by decide)) rfl ?_;simp only[Tryz.ntmps174,PP,IT,PO,Q5,Q4,PE,PD,PR,PJ,PY,PV];refine ag (fun K hK=> ?_);refine ae (fun w1 he=> ?_);have f4:=AI (hP.ab he);have hK1:=AI ((Kp.refl w:Kp w.heap.size [p,r] w w).ab he);go_wp2;refine hK.out _ _ ?_;clear hK K;refine ag (fun K hK=> ?_);refine ae (fun w2 he2=> ?_);have hP2:=AI (f4.out.ab he2);have hK2:=AI (hK1.out.ab he2);have c2_:w2.cell? ⟨p,2,none⟩=some (.int .i64 s.t.at_):=hP2.out.blk.cell 2;clear he2 he f4 hK1 hP;go_wp2;refine hK.out _ _ ?_;clear hK K c2_;refine ag (fun K hK=> ?_);by_cases h9:s.g=9
 ·rw[if_pos h9]at hx;cases Option.some.inj hx;have b9:(s.g==9)=true:=by simp[h9]
  refine ae (fun w3 h7=> ?_);have hP3:=AI (hP2.out.ab h7);have hK3:=AI (hK2.out.ab h7);have c11_:w3.cell? ⟨p,11,none⟩=some (.int .i64 s.g):=hP3.out.blk.cell 11;clear h7 hP2 hK2 h9;go_wp2_with (go_at_call 141;refine(ku _ _ _ _).mono ?_;rintro e7 w7 ⟨rfl,rfl⟩)
  exact⟨rfl,_,rfl,hP3.out.keep (Below.heap_alloc _ _ _ hP3.out.lt.1) (Below.heap_alloc _ _ _ hP3.out.lt.2.1),hK3.out.alloc (AS _) _,_,rfl,hK3.out.1,ac.new _ _ _⟩
 rw[if_neg h9]at hx;split at hx;case isFalse=>cases hx
 rename_i hd;obtain⟨hd1,hd2,hg1,hg2⟩:=hd;have b9:(s.g==9)=false:=by simpa using h9
 refine ae (fun w3 h7=> ?_);have hP3:=AI (hP2.out.ab h7);have hK3:=AI (hK2.out.ab h7);have c11_:w3.cell? ⟨p,11,none⟩=some (.int .i64 s.g):=hP3.out.blk.cell 11;clear h7 hP2 hK2 h9;go_wp2;refine hK.out _ _ ?_;clear hK K c11_ b9;refine ag (fun K hK=> ?_);refine ae (fun w4 he4=> ?_);have gg:=AI (hP3.out.ab he4);have hK4:=AI (hK3.out.ab he4);have c11_:w4.cell? ⟨p,11,none⟩=some (.int .i64 s.g):=gg.out.blk.cell 11;have f11_:w4.frozen? ⟨p,11,none⟩=false:=gg.out.blk.frozen 11;clear he4 hP3 hK3;go_wp2;refine hK.out _ _ ?_;clear hK K c11_ f11_;have gx:=gg.out.groups (s.g+1);have hK5:=hK4.out.setCell (p:=⟨p,11,none⟩) (fun _=>QE) (.int .i64 (s.g+1));clear gg hK4;generalize w4.setCell _ _=w5 at gx hK5 ⊢;rcases kN hx with⟨e1,s1,h1,_⟩|⟨id,s1,h1,hx⟩
 ·exact absurd (fT h1).1 (by simp)
 obtain⟨h1,hn1,fg⟩:=fT h1;simp only[cO.ok.injEq]at h1;obtain⟨rfl,rfl⟩:=h1;dsimp only at hn1 fg hx;refine ag (fun K hK=> ?_);refine ae (fun w6 e0=> ?_);have hw:=AI (gx.ab e0);have hK6:=AI (hK5.ab e0);have f5:=AI hw.out.blk;have c11_:w6.cell? ⟨p,11,none⟩=some (.int .i64 (s.g+1)):=hw.out.blk.cell 11;have c0_:w6.cell? ⟨p,0,none⟩=some (.chan (some r)):=hw.out.blk.cell 0;clear e0 gx hK5;go_region_held3 (fun w'=>w'.cell? ⟨p,11,none⟩=some (.int .i64 (s.g+1))∧w'.cell? ⟨p,0,none⟩=some (.chan (some r))) (first |go_keep|exact⟨hB9.cell 11,hB9.cell 0⟩) (first |(go_at_call 117;refine(ko p _ s.n _ _ _ _ _ _ _ _ _ _ _ hn1 (by omega) (ac.drew f5.out)).mono ?_;rintro e9 w9 ⟨rfl,hB9,hK9⟩))
 refine hK.out _ _ ?_;have hP9:jx p r e cap tm w9 ⟨s.ts,s.t,s.n+1,s.g+1⟩:=PS.part (s:=⟨s.ts,s.t,s.n,s.g+1⟩) (hB:=hB9) (h:=hw.out) (hK9.mono (AS _) fun x hx _=>hx);have hK9':Kp w6.heap.size [p,r] w6 w9:=hK9.mono (AS _) fun x hx _=>IS.2 (.inl (AT.1 hx))
 have e3:=hP9.lt;have h6:=eG hK6.out hK9' (AS _);have f6:=h6.1;have g0:=hP9.keep (Below.heap_alloc w9 (.cells #[.int .i64 (s.n+1),.nilIface,.int .i64 (s.g+1)] 315) _ e3.1) (Below.heap_alloc w9 (.cells #[.int .i64 (s.n+1),.nilIface,.int .i64 (s.g+1)] 315) _ e3.2.1);have h6:=h6.alloc (AS _) (.cells #[.int .i64 (s.n+1),.nilIface,.int .i64 (s.g+1)] 315);have hl:=ac.new w9 315 #[.int .i64 (s.n+1),.nilIface,.int .i64 (s.g+1)];clear hB9 hK9 hP9 hK9' e3 hw hK6 f5 hK K;generalize w9.alloc _=w10 at g0 h6 hl ⊢;generalize w9.heap.size=q at hl f6 ⊢;obtain⟨z,hz,h3⟩:∃z,cy ⟨s.ts,s.t,s.n+1,s.g+1⟩=some z∧bL (some z) (fun _ s2=>bL (ic f (d+1) s2) fun k s3=>if s3.t.kind=5 then bL (cy s3) fun _ s4=>some (.ok (.grp (s.n+1) k (s.g+1)) s4)else some (.err (.own 10 s.t.at_) s3))=some x:=by
  cases hp:cy ⟨s.ts,s.t,s.n+1,s.g+1⟩with
  |none=>rw[hp]at hx;cases hx
  |some z=>rw[hp]at hx;exact⟨z,rfl,hx⟩
 clear hx;refine ag (fun K hK=> ?_);refine aC ?_;show bo _ _ _ (IN 0 (1+1)) _ _;refine b8 0 1 1 (fun N hN w11 he11=> ?_) (by decide);simp only[zq1];have e4:=AI (g0.ab he11);have g1:=AI (h6.ab he11);have g2:=AI (hl.ab he11);clear he11 g0 h6 hl;go_wp2;refine hN.out _ _ ?_;clear hN N;refine bJ (f:=93) (i:=1) (rest:=[]) rfl rfl (fun u=>by simp[go_sem]) trivial (mp hz e4.out) (fun u w12 hr=> ?_) (fun ch w12 hr=> ?_);rotate_left
 ·obtain⟨h4,hr⟩:=hr;cases z with
  |ok _ s2=>obtain⟨_,h⟩:=hr;cases h
  |err e2 s2=>
   obtain⟨rfl,g3,hch⟩:=hr;cases hch;cases Option.some.inj h3;exact⟨rfl,_,rfl,g3,eG g1.out h4 (AS _),rfl⟩
 obtain⟨h4,hr⟩:=hr;cases z with
 |err e2 s2=>obtain⟨_,_,h⟩:=hr;cases h
 |ok _ s2=>
 refine aZ ?_;simp only[If,zq0];refine hK.out _ _ ?_;clear hK K;have e5:q∉[p,r]:=fun hx=>by
  rcases IS.1 hx with rfl|hx
  ·omega
  ·have:=AT.1 hx;omega
 have e6:=hr.1;have e8:ac w12 q 315 _:=g2.out.kp h4 g2.out.lt e5;have eb:=eG g1.out h4 (AS _);clear hr h4 e4 g1 g2 hz;dsimp only[bL]at h3;obtain⟨y,hy,hxy⟩:∃y,ic f (d+1) s2=some y∧bL (some y) (fun k s3=>if s3.t.kind=5 then bL (cy s3) fun _ s4=>some (.ok (.grp (s.n+1) k (s.g+1)) s4)else some (.err (.own 10 s.t.at_) s3))=some x:=by
  cases hp:ic f (d+1) s2 with
  |none=>rw[hp]at h3;cases h3
  |some z=>rw[hp]at h3;exact⟨z,rfl,h3⟩
 clear h3;refine ag (fun K hK=> ?_);refine aC ?_;show bo _ _ _ (IN 0 (4+4)) _ _;refine b8 0 4 4 (fun N hN w14 hm=> ?_) (by decide);simp only[zq1];have ee:=AI (e6.ab hm);have h8:=AI (eb.ab hm);have hn:=AI (e8.ab hm);clear hm e6 eb e8;go_wp2;refine hN.out _ _ ?_;clear hN N;refine bJ (f:=94) (R:=Post p r e cap tm w14.heap.size w14 y) (i:=4) (rest:=IN 5 (3+0)) rfl rfl (fun u=>by simp[go_sem]) trivial (hq f (by omega) (d+1) s2 w14 y hy ee.out) (fun v w15 hr=> ?_) (fun ch w15 hr=> ?_);rotate_left
 ·cases y with
  |ok k s1=>obtain⟨_,h,_⟩:=hr;cases h
  |err e1 s1=>
   obtain⟨a,ha,fl,fp,fr⟩:=hr;cases ha;cases Option.some.inj hxy;exact⟨rfl,_,rfl,fl,eG h8.out fp (AS _),fr.mono h8.out.1⟩
 cases y with
 |err e1 s1=>obtain⟨_,h,_⟩:=hr;cases h
 |ok k s3=>
 obtain⟨v',fs,ef,g9,hc⟩:=hr;cases fs;dsimp only[bL]at hxy;have eg:ac w15 q 315 _:=hn.out.kp g9 hn.out.lt e5;have hq14:=hn.out.lt;have gh:=eG h8.out g9 (AS _);have f7:=h8.out.1;obtain⟨vt,vq,rfl⟩:=hc.form;clear ee h8 hn g9;simp only[If,zq0];refine b8 5 3 0 (fun N hN w16 hf=> ?_) (by decide);simp only[zq1];have ho:=eg.ab hf;have c1_:w16.cell? ⟨q,1,none⟩=some .nilIface:=ho.cell 1;have f1_:w16.frozen? ⟨q,1,none⟩=false:=ho.frozen 1;have gr:=AI ho;have el:=AI (ef.ab hf);have em:=AI (gh.ab hf);have en:=AI (hc.keep (w':=w16) fun b _ _=>by rw[hf]);clear hf ef gh hc eg ho;go_wp2;refine hN.out _ _ (aZ (hK.out _ _ ?_));clear hN N hK K c1_ f1_;have hs:ac (w16.setCell ⟨q,1,none⟩ (.iface vt (.pointer (some ⟨vq,0,none⟩)))) q 315 #[.int .i64 (s.n+1),.iface vt (.pointer (some ⟨vq,0,none⟩)),.int .i64 (s.g+1)]:=by
  have:=gr.out.ci 1 (.iface vt (.pointer (some ⟨vq,0,none⟩)));simpa only[PL,Q8,Q7]using this
 have hg:=PS.keep (w':=w16.setCell ⟨q,1,none⟩ (.iface vt (.pointer (some ⟨vq,0,none⟩)))) el.out (Below.heap_setCell _ ⟨q,1,none⟩ _ p (by show p≠q;omega)) (Below.heap_setCell _ ⟨q,1,none⟩ _ r (by show r≠q;omega));have hh:=em.out.setCell (p:=⟨q,1,none⟩) (fun h=>by have:q<w.heap.size:=h;omega) (.iface vt (.pointer (some ⟨vq,0,none⟩)));have ht:Repr (w16.setCell ⟨q,1,none⟩ (.iface vt (.pointer (some ⟨vq,0,none⟩)))) (fun b=>w.heap.size≤b) (.iface vt (.pointer (some ⟨vq,0,none⟩))) k:=(en.out.keep (w':=w16.setCell ⟨q,1,none⟩ (.iface vt (.pointer (some ⟨vq,0,none⟩)))) fun b hb _=>Below.heap_setCell _ ⟨q,1,none⟩ _ b (by show b≠q;omega)).mono fun b hb _=>PZ f7 hb
 clear el em en gr;generalize w16.setCell _ _=w17 at hs hg hh ht ⊢;refine ag (fun K hK=> ?_);by_cases h5:s3.t.kind=5
 ·rw[if_pos h5]at hxy;have b5:(s3.t.kind==5)=true:=by simp[h5]
  clear h5;refine ae (fun w18 h0=> ?_);have h2:=AI (hg.ab h0);have hi:=AI (hh.ab h0);have et:=AI (hs.ab h0);have ev:=AI (ht.keep (w':=w18) fun b _ _=>by rw[h0]);have c1_:w18.cell? ⟨p,1,none⟩=some (.int .i64 s3.t.kind):=h2.out.blk.cell 1;clear h0 hg hh hs ht;go_wp2;refine hK.out _ _ ?_;clear hK K c1_ b5;obtain⟨z,hz,h3⟩:∃z,cy s3=some z∧bL (some z) (fun _ s4=>some (.ok (.grp (s.n+1) k (s.g+1)) s4))=some x:=by
   cases hp:cy s3 with
   |none=>rw[hp]at hxy;cases hxy
   |some z=>rw[hp]at hxy;exact⟨z,rfl,hxy⟩
  clear hxy;refine ag (fun K hK=> ?_);refine aC ?_;show bo _ _ _ (IN 0 (1+1)) _ _;refine b8 0 1 1 (fun N hN w19 hj=> ?_) (by decide);simp only[zq1];have ey:=AI (h2.out.ab hj);have gb:=AI (hi.out.ab hj);have gf:=AI (et.out.ab hj);have f0:=AI (ev.out.keep (w':=w19) fun b _ _=>by rw[hj]);clear hj h2 hi et ev;go_wp2;refine hN.out _ _ ?_;clear hN N;refine bJ (f:=93) (i:=1) (rest:=[]) rfl rfl (fun u=>by simp[go_sem]) trivial (mp hz ey.out) (fun u w20 hr=> ?_) (fun ch w20 hr=> ?_);rotate_left
  ·obtain⟨h4,hr⟩:=hr;cases z with
   |ok _ s4=>obtain⟨_,h⟩:=hr;cases h
   |err e2 s4=>
    obtain⟨rfl,g3,hch⟩:=hr;cases hch;cases Option.some.inj h3;exact⟨rfl,_,rfl,g3,eG gb.out h4 (AS _),rfl⟩
  obtain⟨hv,hr⟩:=hr;cases z with
  |err e2 s4=>obtain⟨_,_,h⟩:=hr;cases h
  |ok _ s4=>
  cases Option.some.inj h3;refine aZ ?_;simp only[If,zq0];refine hK.out _ _ ?_;clear hK K;have f1:=hr.1;have f2:ac w20 q 315 _:=gf.out.kp hv gf.out.lt e5;have f3:=zA f0.out hv (by omega) (by omega);have gv:=eG gb.out hv (AS _);clear hr hv ey gb gf f0;refine ae (fun w21 hk=> ?_);have fb:=AI (f1.ab hk);have fc:=AI (gv.ab hk);have fe:=AI (f2.ab hk);have ff:=AI (f3.keep (w':=w21) fun b _ _=>by rw[hk]);clear hk f1 gv f2 f3;go_wp2;go_ret;exact⟨_,rfl,fb.out,fc.out,.grp f6 fe.out ff.out⟩
 ·rw[if_neg h5]at hxy;cases Option.some.inj hxy;have b5:(s3.t.kind==5)=false:=by simpa using h5
  clear h5;refine ae (fun w18 h0=> ?_);have h2:=AI (hg.ab h0);have hi:=AI (hh.ab h0);have c1_:w18.cell? ⟨p,1,none⟩=some (.int .i64 s3.t.kind):=h2.out.blk.cell 1;clear h0 hg hh hs ht;go_wp2_with (go_at_call 141;refine(ku _ _ _ _).mono ?_;rintro e7 w7 ⟨rfl,rfl⟩)
  exact⟨rfl,_,rfl,h2.out.keep (Below.heap_alloc _ _ _ h2.out.lt.1) (Below.heap_alloc _ _ _ h2.out.lt.2.1),hi.out.alloc (AS _) _,_,rfl,hi.out.1,ac.new _ _ _⟩
theorem Ic{p r e cap:Nat}{tm:Bool}:∀f,Does T 94 p r e cap tm (ic f):=by
 have key:∀f,Does T 94 p r e cap tm (ic f)∧Does T 118 p r e cap tm (kq f)∧Does T 142 p r e cap tm (g5 f)∧Does T 162 p r e cap tm (iI f)∧Does T 174 p r e cap tm (iV f):=by
  intro f;induction f using Nat.strongRecOn with
  |_ f ih=>exact⟨LP fun f' h=>(ih f' h).2.1,LN fun f' h=>(ih f' h).2.2.1,Ky fun f' h=>(ih f' h).2.2.2.1,Mi fun f' h=>(ih f' h).2.2.2.2,HZ fun f' h=>(ih f' h).1⟩
 exact fun f=>(key f).1
end
abbrev an:=Nat→Bool
def xu(S:an)(i:Nat):Nat→Nat
 |0=>0
 |n+1=>2^n*(S (64*i+n)).toNat+xu S i n
def wd(S:an)(i:Nat):Nat:=xu S i 64
theorem EO(S:an)(i n:Nat):xu S i n<2^n:=by
 induction n with
 |zero=>simp[xu]
 |succ n ih=>
  have:(S (64*i+n)).toNat≤1:=Bool.toNat_le _;have h2:2^n*(S (64*i+n)).toNat≤2^n*1:=Nat.mul_le_mul_left _ this;simp only[xu];rw[Nat.pow_succ];omega
theorem Kb(S:an)(i n j:Nat):(xu S i n).testBit j=(decide (j<n)&&S (64*i+j)):=by
 induction n with
 |zero=>simp[xu]
 |succ n ih=>
  simp only[xu];rw[Nat.testBit_two_pow_mul_add _ (EO S i n)];split
  ·next h=>rw[ih];simp[h];omega
  ·next h=>
   by_cases e:j=n
   ·subst e;simp;cases S (64*i+j)<;>simp
   ·have h1:j-n≠0:=by omega
    have h2:¬ j<n+1:=by omega
    have h3:(S (64*i+n)).toNat<2^ (j-n):=by
     have:(S (64*i+n)).toNat≤1:=Bool.toNat_le _;have h4:2^1≤2^ (j-n):=Qd (by decide) (by omega);omega
    rw[Qa h3];simp[h2]
theorem kM(S:an)(i:Nat):wd S i<2^64:=EO S i 64
theorem ml(S:an)(i j:Nat):(wd S i).testBit j=(decide (j<64)&&S (64*i+j)):=Kb S i 64 j
attribute [irreducible] wd
theorem sW(S:an)(i n:Nat)(hn:n<2^64)(h:∀j,j<64→n.testBit j=S (64*i+j)):n=wd S i:=by
 apply Nat.eq_of_testBit_eq;intro j;rw[ml];by_cases hj:j<64
 ·simp[hj,h j hj]
 ·simp[hj];exact Qa (Q6 hn (Qd (by decide) (by omega)))
def wz(S:an)(i:Nat):Int:=(wd S i:Int)
theorem wraps_u64(n:Int)(h₀:0≤n)(h₁:n<2^64):IntKind.u64.wrap n=n:=by rw[IntKind.wrap_u64];omega
theorem u64_and(a b:Nat)(ha:a<2^64)(hb:b<2^64):bits .and .u64 (a:Int) (b:Int)=((a&&&b:Nat):Int):=(bits_nat .u64 64 (by decide) wraps_u64 a b ha hb).1
theorem u64_or(a b:Nat)(ha:a<2^64)(hb:b<2^64):bits .or .u64 (a:Int) (b:Int)=((a|||b:Nat):Int):=(bits_nat .u64 64 (by decide) wraps_u64 a b ha hb).2
theorem u64_xor(a b:Nat)(ha:a<2^64)(hb:b<2^64):bits .xor .u64 (a:Int) (b:Int)=((a^^^b:Nat):Int):=by
 have ha':a%2^IntKind.u64.bits=a:=Ql ha;have hb':b%2^IntKind.u64.bits=b:=Ql hb;simp only[bits,BitVec.ofInt_natCast,BitVec.toNat_xor,BitVec.toNat_ofNat,ha',hb'];exact wraps_u64 _ (QH _) (by have:=Nat.xor_lt_two_pow ha hb;exact_mod_cast this)
theorem u64_andNot(a b:Nat)(ha:a<2^64)(hb:b<2^64):bits .andNot .u64 (a:Int) (b:Int)=((a&&& (b^^^ (2^64-1)):Nat):Int):=by
 have ha':a%2^IntKind.u64.bits=a:=Ql ha;have hb':b%2^IntKind.u64.bits=b:=Ql hb;have hn:(~~~ (BitVec.ofNat IntKind.u64.bits b)).toNat=b^^^ (2^64-1):=by
  apply Nat.eq_of_testBit_eq;intro j;rw[BitVec.testBit_toNat];rw[Qs,Qc];by_cases hj:j<64
  ·have:j<IntKind.u64.bits:=hj;rw[BitVec.getLsbD_not,BitVec.getLsbD_ofNat];simp[this,hj]
  ·have h2:¬ j<IntKind.u64.bits:=hj;have h3:b.testBit j=false:=Qa (Q6 hb (Qd (by decide) (by omega)));simp[BitVec.getLsbD_not,h2,hj,h3]
 simp only[bits,BitVec.ofInt_natCast,BitVec.toNat_and,BitVec.toNat_ofNat,ha',hn];exact wraps_u64 _ (QH _) (by have:=Qp (x:=b^^^ (2^64-1)) (y:=a) (n:=64);have h5:a&&& (b^^^ (2^64-1))≤a:=Nat.and_le_left;exact_mod_cast Qo h5 ha)
def ins(S:an)(k:Nat):an:=fun x=>S x||x==k
def del(S:an)(k:Nat):an:=fun x=>S x&&x !=k
def comp(S:an):an:=fun x=> !S x
def bV(S:an)(lo hi:Nat):an:=fun x=>S x||(decide (lo≤x)&&decide (x≤hi))
def az:an:=fun _=>false
def mg(S:an):an:=fun x=>S x||(decide (65≤x∧x≤90)&&S (x+32))||(decide (97≤x∧x≤122)&&S (x-32))
theorem Ce(i:Nat):wz az i=0:=by
 have:0=wd az i:=sW _ _ 0 (by decide) (by intro j hj;simp[az]);unfold wz;omega
theorem pW{S T:an}{i:Nat}(h:∀j,j<64→S (64*i+j)=T (64*i+j)):wz S i=wz T i:=by
 have:wd S i=wd T i:=sW _ _ _ (kM _ _) (by intro j hj;rw[ml];simp[hj,h j hj]);simp[wz,this]
theorem Lu(S:an)(i j:Nat)(hj:j<64):bits .or .u64 (wz S i) ((2^j:Nat):Int)=wz (ins S (64*i+j)) i:=by
 have h2:(2:Nat)^j<2^64:=Nat.pow_lt_pow_right (by decide) hj;rw[wz,u64_or _ _ (kM _ _) h2,wz];congr 1
 refine sW _ _ _ (Qh (kM _ _) h2) ?_;intro k hk;rw[Qy,ml,Nat.testBit_two_pow];simp only[hk,ins,decide_true,Bool.true_and];congr 1
 by_cases e:j=k
 ·subst e;simp
 ·have:(64*i+k==64*i+j)=false:=by simp;omega
  simp[e,this]
theorem yQ(S:an)(i i' j:Nat)(hj:j<64)(h:i'≠i):wz (ins S (64*i+j)) i'=wz S i':=pW (by
 intro k hk;have:(64*i'+k==64*i+j)=false:=by simp;omega
 simp[ins,this])
theorem Lv(S:an):bits .andNot .u64 (wz S 0) 1024=wz (del S 10) 0:=by
 rw[wz,show(1024:Int)=((1024:Nat):Int)from rfl,u64_andNot _ _ (kM _ _) (by decide),wz];congr 1
 refine sW _ _ _ (Qo Nat.and_le_left (kM _ _)) ?_;intro k hk;rw[Qt,ml,Qs,Qc,show(1024:Nat)=2^10 from rfl,Nat.testBit_two_pow];simp only[hk,del,decide_true,Bool.true_and];congr 1
 by_cases e:10=k
 ·subst e;simp
 ·have h2:k≠10:=fun h=>e h.symm
  simp[e,h2]
theorem nN(S:an)(i:Nat)(h:i≠0):wz (del S 10) i=wz S i:=pW (by
 intro k hk;have:(64*i+k !=10)=true:=by simp;omega
 simp[del,this])
theorem Ka(S:an)(i:Nat):bits .xor .u64 18446744073709551615 (wz S i)=wz (comp S) i:=by
 rw[wz,show(18446744073709551615:Int)=((18446744073709551615:Nat):Int)from rfl,u64_xor _ _ (by decide) (kM _ _),wz];congr 1
 refine sW _ _ _ (Nat.xor_lt_two_pow (by decide) (kM _ _)) ?_;intro k hk;rw[Qs,ml,show(18446744073709551615:Nat)=2^64-1 from rfl,Qc];simp[hk,comp]
theorem K9(S:an):bits .or .u64 (wz S 1) (bits .or .u64 (IntKind.u64.wrap (bits .and .u64 (wz S 1) 134217726*4294967296)) (bits .and .u64 (wz S 1/4294967296) 134217726))=wz (mg S) 1:=by
 have g:(134217726:Int)=((134217726:Nat):Int):=rfl;have gb:∀j,(134217726:Nat).testBit j=(decide (1≤j∧j≤26)):=by
  intro j;by_cases hj:j<27
  ·have:∀j,j<27→(134217726:Nat).testBit j=(decide (1≤j∧j≤26)):=by decide
   exact this j hj
  ·rw[Qa (Q6 (by decide:134217726<2^27) (Qd (by decide) (by omega)))];simp;omega
 have h1:bits .and .u64 (wz S 1) 134217726=((wd S 1&&&134217726:Nat):Int):=by rw[wz,g,u64_and _ _ (kM _ _) (by decide)]
 have l1:wd S 1&&&134217726<2^27:=Qp _ (by decide);have h2:IntKind.u64.wrap (((wd S 1&&&134217726:Nat):Int)*4294967296)=(((wd S 1&&&134217726)<<<32:Nat):Int):=by
  rw[Nat.shiftLeft_eq,wraps_u64]
  ·exact(Int.natCast_mul _ 4294967296).symm
  ·omega
  ·omega
 have l2:(wd S 1&&&134217726)<<<32<2^64:=by rw[Nat.shiftLeft_eq];omega
 have h3:bits .and .u64 (wz S 1/4294967296) 134217726=((wd S 1>>>32&&&134217726:Nat):Int):=by
  have:wz S 1/ (4294967296:Int)=((wd S 1>>>32:Nat):Int):=by rw[wz,Nat.shiftRight_eq_div_pow];exact(Int.natCast_ediv _ 4294967296).symm
  rw[this,g,u64_and _ _ _ (by decide)];rw[Nat.shiftRight_eq_div_pow];exact Qo (Nat.div_le_self _ _) (kM _ _)
 have l3:wd S 1>>>32&&&134217726<2^64:=Q6 (Qp _ (by decide:134217726<2^27)) (by decide);rw[h1,h2,h3,u64_or _ _ l2 l3,wz,u64_or _ _ (kM _ _) (Qh l2 l3),wz];congr 1
 refine sW _ _ _ (Qh (kM _ _) (Qh l2 l3)) ?_;intro k hk;rw[Qy,Qy,Nat.testBit_shiftLeft,Qt,Qt,Nat.testBit_shiftRight,ml,ml,ml,gb,gb];simp only[mg,Nat.mul_one];by_cases c1:1≤k∧k≤26
 ·have a1:(65≤64+k∧64+k≤90):=by omega
  have a2:¬ (97≤64+k∧64+k≤122):=by omega
  have a3:¬ (32≤k):=by omega
  have a4:32+k<64:=by omega
  have a5:64+(32+k)=64+k+32:=by omega
  simp[c1,a1,a2,a3,a4,a5,hk]
 ·have b1:¬ (65≤64+k∧64+k≤90):=by omega
  by_cases c2:97≤64+k∧64+k≤122
  ·have d1:32≤k:=by omega
   have d2:1≤k-32∧k-32≤26:=by omega
   have d3:k-32<64:=by omega
   have d4:64+(k-32)=64+k-32:=by omega
   simp[c1,b1,c2,d1,d2,d3,d4,hk]
  ·have d2:¬ (32≤k∧1≤k-32∧k-32≤26):=by omega
   simp[c1,b1,c2,hk];intros
   exact absurd ⟨by assumption,by omega,by omega⟩ d2
theorem mG(S:an)(i:Nat)(h:i≠1):wz (mg S) i=wz S i:=pW (by
 intro k hk;have h1:¬ (65≤64*i+k∧64*i+k≤90):=by omega
 have h2:¬ (97≤64*i+k∧64*i+k≤122):=by omega
 simp[mg,h1,h2])
def words(S:an):Array BY:=#[.int .u64 (wz S 0),.int .u64 (wz S 1),.int .u64 (wz S 2),.int .u64 (wz S 3)]
def mP(v:Nat):List UInt8→Option Nat
 |[]=>some v
 |c::cs=>if c.toNat<48∨57<c.toNat then none else mP (min (10*v+(c.toNat-48)) 21) cs
def ea(l:List UInt8):Nat×Bool:=match mP 0 l with
 |none=>(0,false)
 |some v=>(v,!l.isEmpty&&decide (v≤20))
def dH(c:Nat):Int:=if c=40 then 4 else if c=41 then 5 else if c=124 then 6 else if c=94 then 2 else if c=36 then 3 else -1
def bz:List (List UInt8×List UInt8):=[
 ([97,108,110,117,109],[97,122,65,90,48,57]),
 ([97,108,112,104,97],[97,122,65,90]),
 ([98,108,97,110,107],[32,32,9,9]),
 ([99,110,116,114,108],[0,31,127,127]),
 ([100,105,103,105,116],[48,57]),
 ([103,114,97,112,104],[33,126]),
 ([108,111,119,101,114],[97,122]),
 ([112,114,105,110,116],[32,126]),
 ([112,117,110,99,116],[33,47,58,64,91,96,123,126]),
 ([115,112,97,99,101],[9,13,32,32]),
 ([117,112,112,101,114],[65,90]),
 ([120,100,105,103,105,116],[48,57,97,102,65,70])]
def ga(S:an):List UInt8→an
 |lo::hi::t=>ga (bV S lo.toNat hi.toNat) t
 |_=>S
structure dF where
 t:Tok
 wr:Option (Int×Int)
 more:Bool
 p:Nat
def gl(k at_:Int):Tok:=⟨k,at_,0,0,0,0,0,0,false⟩
def dl(at_:Int)(S:an):Tok:=⟨1,at_,wz S 0,wz S 1,wz S 2,wz S 3,0,0,false⟩
def si(at_ least most:Int)(bad:Bool):Tok:=⟨7,at_,0,0,0,0,least,most,bad⟩
def Ei(at_:Int):Tok:=⟨8,at_,0,0,0,0,0,0,true⟩
def dC(k at_:Int)(p:Nat):dF:=⟨Ei at_,some (k,at_),false,p⟩
def bO(rest:List UInt8):Int×Int×Bool×Nat:=
 if PM rest 125<0 then(0,0,false,0)else
  let c:=Qm (rest.take (PM rest 125).toNat) [44]
  let n:=(PM rest 125).toNat+1
  if c.2.2=false then((ea c.1).1,(ea c.1).1,(ea c.1).2,n)
  else if c.2.1=[]then((ea c.1).1,-1,(ea c.1).2,n)
  else((ea c.1).1,(ea c.2.1).1,(ea c.1).2&& (ea c.2.1).2&&decide ((ea c.1).1≤(ea c.2.1).1),n)
def de(c p:Nat)(rest:List UInt8):dF:=
 if c=42 then⟨si p 0 (-1) false,none,true,p+1⟩
 else if c=43 then⟨si p 1 (-1) false,none,true,p+1⟩
 else if c=63 then⟨si p 0 1 false,none,true,p+1⟩
 else
  let b:=bO rest
  ⟨si p b.1 b.2.1 (!b.2.2.1),if b.2.2.1 then none else some (7,p),b.2.2.1,p+1+b.2.2.2⟩
def eU(S:an)(rest:List UInt8):Option (an×Nat):=
 let c:=Qm (rest.drop 2) [58,93]
 if rest.getD 1 0≠58∨c.2.2=false then none else
  match bz.find? (fun x=>x.1==c.1)with
  |none=>none
  |some x=>some (ga S x.2,c.1.length+4)
def pE(ln fold nt:Bool)(S:an):an:=
 let S1:=if fold then mg S else S
 if nt then(if ln then del (comp S1) 10 else comp S1)else S1
def fI(ln fold:Bool)(l:List UInt8)(nt:Bool)(at_:Nat):Nat→Bool→an→Nat→Option dF
 |0,_,_,_=>none
 |f+1,first,S,p=>
  match l.drop p with
  |[]=>some (dC 4 at_ p)
  |a::r=>
   if a=93∧first=false then some ⟨dl at_ (pE ln fold nt S),none,true,p+1⟩
   else if 0<r.length∧a=91∧0≤PM [58,46,61] (r.getD 0 0)then
    match eU S (a::r)with
    |none=>some (dC 5 p p)
    |some x=>fI ln fold l nt at_ f false x.1 (p+x.2)
   else if 1<r.length∧r.getD 0 0=45∧r.getD 1 0≠93 then
    if(r.getD 1 0).toNat<a.toNat then some (dC 6 p p)
    else fI ln fold l nt at_ f false (bV S a.toNat (r.getD 1 0).toNat) (p+3)
   else fI ln fold l nt at_ f false (bV S a.toNat a.toNat) (p+1)
def uh(ln fold:Bool)(l:List UInt8)(at_ p:Nat):Option dF:=
 let nt:=Qk (l.drop p) [94]
 fI ln fold l nt at_ (l.length+1) true az (if nt then p+1 else p)
def lu(ln:Bool)(S:an):an:=if ln then del S 10 else S
def lv(fold:Bool)(S:an):an:=if fold then mg S else S
def sE:List UInt8:=[40,41,91,46,94,36,92,124,42,43,63,123,93,125]
def bG(ln fold:Bool)(l:List UInt8)(p:Nat):Option dF:=
 match l.drop p with
 |[]=>some ⟨gl 0 p,none,false,p⟩
 |c::r=>
  if 0≤dH c.toNat then some ⟨gl (dH c.toNat) p,none,true,p+1⟩
  else if c=42∨c=43∨c=63∨c=123 then some (de c.toNat p r)
  else if c=91 then uh ln fold l p (p+1)
  else if c=46 then some ⟨dl p (lu ln (bV az 0 255)),none,true,p+1⟩
  else if c=92 then
   match r with
   |[]=>some (dC 2 p (p+1))
   |d::_=>
    if 49≤d.toNat∧d.toNat≤57 then some (dC 3 p (p+2))
    else if PM sE d<0 then some (dC 2 p (p+2))
    else some ⟨dl p (lv fold (bV az d.toNat d.toNat)),none,true,p+2⟩
  else some ⟨dl p (lv fold (bV az c.toNat c.toNat)),none,true,p+1⟩
def eE(ln fold:Bool)(l:List UInt8):Nat→Nat→Option (List Tok×Option (Int×Int))
 |0,_=>none
 |f+1,p=>match bG ln fold l p with
  |none=>none
  |some x=>if x.more then(eE ln fold l f x.p).map (fun y=>(x.t::y.1,y.2))else some ([x.t],x.wr)
theorem Gl{l:List UInt8}{c:UInt8}(h:¬ PM l c<0):(PM l c).toNat<l.length:=by
 have h1:=(Lib.indexByte_some (l:=l) (c:=c) (o:=(PM l c).toNat) (by omega)).1;rcases QD (PM l c).toNat l.length with h2|h2
 ·exact h2
 ·rw[Qz h2]at h1;cases h1
theorem Dp(rest:List UInt8):(bO rest).2.2.2≤rest.length:=by
 unfold bO;split
 ·exact Qj _
 ·next h=>
  have h1:(PM rest 125).toNat+1≤rest.length:=Gl h;dsimp only;split
  ·exact h1
  ·split
   ·exact h1
   ·exact h1
theorem CA(s sep:List UInt8)(h:(Qm s sep).2.2=true):(Qm s sep).1.length+sep.length≤s.length:=by
 unfold Qm at *;split at h
 ·next h0=>
  have:=Lib.index_room s sep h0;rw[if_pos h0];simp only[List.length_take];omega
 ·cases h
theorem rR{S:an}{rest:List UInt8}{x:an×Nat}(h:eU S rest=some x)(hr:2≤rest.length):x.2≤rest.length∧0<x.2:=by
 unfold eU at h;dsimp only at h;split at h
 ·cases h
 ·next h0=>
  have h1:(Qm (rest.drop 2) [58,93]).2.2=true:=by
   cases hc:(Qm (rest.drop 2) [58,93]).2.2
   ·exact absurd (.inr hc) h0
   ·rfl
  have h2:=CA _ _ h1;split at h
  ·cases h
  ·cases h;simp only[List.length_drop,IT,PO]at h2;refine⟨?_,by omega⟩;show(Qm (rest.drop 2) [58,93]).1.length+4≤rest.length;omega
theorem qR{l r:List UInt8}{p:Nat}{a:UInt8}(h:l.drop p=a::r):p+1+r.length=l.length:=by
 have:=congrArg List.length h;simp at this;omega
structure sO(p:Nat)(x:dF):Prop where
 wrn:x.more=true→x.wr=none
 bad:x.t.bad=x.wr.isSome
 k8:x.t.kind=8→x.t.bad=true
 bk:x.t.bad=true→x.t.kind=8∨x.t.kind=7
 last:x.more=false→x.t.kind=0∨x.t.bad=true
 endk:x.t.kind=0→x.more=false
 atp:x.t.kind≠8→x.t.at_=p
theorem sO.wrong(q k at_:Int)(p p':Nat):sO p (dC k at_ p'):=⟨fun h=>by(cases h),rfl,fun _=>rfl,fun _=>.inl rfl,fun _=>.inr rfl,fun h=>by(cases h),fun h=>absurd rfl h⟩
theorem sO.set(p p':Nat)(S:an):sO p ⟨dl p S,none,true,p'⟩:=⟨fun _=>rfl,rfl,fun h=>by(cases h),fun h=>by(cases h),fun h=>by(cases h),fun h=>by(cases h),fun _=>rfl⟩
theorem tL{c:Nat}(h:0≤dH c):dH c=2∨dH c=3∨dH c=4∨dH c=5∨dH c=6:=by
 unfold dH at *;repeat(split at h<;>try simp_all)
theorem sO.sign(p p':Nat)(c:Nat)(h:0≤dH c):sO p ⟨gl (dH c) p,none,true,p'⟩:=by
 have:=tL h;refine⟨fun _=>rfl,rfl,fun h=> ?_,fun h=>by(cases h),fun h=>by(cases h),fun h=> ?_,fun _=>rfl⟩
 ·dsimp only[gl]at h;omega
 ·dsimp only[gl]at h;omega
theorem sO.rep(p:Nat)(c:Nat)(rest:List UInt8):sO p (de c p rest):=by
 unfold de;split
 ·exact⟨fun _=>rfl,rfl,fun h=>by(cases h),fun h=>by(cases h),fun h=>by(cases h),fun h=>by(cases h),fun _=>rfl⟩
 split
 ·exact⟨fun _=>rfl,rfl,fun h=>by(cases h),fun h=>by(cases h),fun h=>by(cases h),fun h=>by(cases h),fun _=>rfl⟩
 split
 ·exact⟨fun _=>rfl,rfl,fun h=>by(cases h),fun h=>by(cases h),fun h=>by(cases h),fun h=>by(cases h),fun _=>rfl⟩
 dsimp only;cases hb:(bO rest).2.2.1
 ·exact⟨fun h=>by(cases h),rfl,fun h=>by(cases h),fun h=>.inr rfl,fun h=>.inr rfl,fun h=>by(cases h),fun _=>rfl⟩
 ·exact⟨fun _=>rfl,rfl,fun h=>by(cases h),fun h=>by(cases h),fun h=>by(cases h),fun h=>by(cases h),fun _=>rfl⟩
theorem zw(ln fold:Bool)(l:List UInt8)(nt:Bool)(at_:Nat):∀(f:Nat)(first:Bool)(S:an)(p:Nat),p≤l.length→l.length<f+p→∃x,fI ln fold l nt at_ f first S p=some x∧p≤x.p∧x.p≤l.length∧sO at_ x:=by
 intro f;induction f with
 |zero=>intro first S p h1 h2;omega
 |succ f ih=>
  intro first S p h1 h2
  unfold fI;split
  ·exact⟨_,rfl,AS _,h1,.wrong 0 _ _ _ _⟩
  ·next a r h=>
   have hl:=qR h;split
   ·exact⟨_,rfl,Qw _,by dsimp only;omega,.set _ _ _⟩
   ·split
    ·next hc=>
     split
     ·exact⟨_,rfl,AS _,h1,.wrong 0 _ _ _ _⟩
     ·next x hx=>
      have:=rR hx (by simp;omega);simp only[IT]at this;obtain⟨y,hy,h3,h4,h5⟩:=ih false x.1 (p+x.2) (by omega) (by omega);exact⟨y,hy,by omega,h4,h5⟩
    ·split
     ·next hc=>
      split
      ·exact⟨_,rfl,AS _,h1,.wrong 0 _ _ _ _⟩
      ·obtain⟨y,hy,h3,h4,h5⟩:=ih false (bV S a.toNat (r.getD 1 0).toNat) (p+3) (by omega) (by omega);exact⟨y,hy,by omega,h4,h5⟩
     ·obtain⟨y,hy,h3,h4,h5⟩:=ih false (bV S a.toNat a.toNat) (p+1) (by omega) (by omega);exact⟨y,hy,by omega,h4,h5⟩
theorem qf{l:List UInt8}{p:Nat}{c:UInt8}(h:Qk (l.drop p) [c]=true):p+1≤l.length:=by
 unfold Qk at h;cases hd:l.drop p with
 |nil=>rw[hd]at h;simp at h
 |cons a r=>have:=qR hd;omega
theorem eX(ln fold:Bool)(l:List UInt8)(p:Nat)(hp:p≤l.length):∃x,bG ln fold l p=some x∧p≤x.p∧(x.more=true→p<x.p)∧x.p≤l.length∧sO p x:=by
 unfold bG;split
 ·exact⟨_,rfl,AS _,(fun h=>by cases h),hp,⟨fun _=>rfl,rfl,fun h=>by(cases h),fun h=>by(cases h),fun _=>.inl rfl,fun _=>rfl,fun _=>rfl⟩⟩
 ·next c r h=>
  have hl:=qR h;split
  ·exact⟨_,rfl,Qw _,fun _=>OF _,by dsimp only;omega,.sign _ _ _ (by assumption)⟩
  ·split
   ·have hb:=Dp r;refine⟨_,rfl,?_,fun _=> ?_,?_,.rep _ _ _⟩;all_goals
     unfold de;repeat(first |split |(dsimp only;omega))
   ·split
    ·unfold uh;dsimp only;split
     ·next hn=>
      have:=qf hn;obtain⟨y,hy,h3,h4,h5⟩:=zw ln fold l (Qk (l.drop (p+1)) [94]) p (l.length+1) true az (p+1+1) (by omega) (by omega);exact⟨y,hy,by omega,fun _=>by omega,h4,h5⟩
     ·obtain⟨y,hy,h3,h4,h5⟩:=zw ln fold l (Qk (l.drop (p+1)) [94]) p (l.length+1) true az (p+1) (by omega) (by omega);exact⟨y,hy,by omega,fun _=>by omega,h4,h5⟩
    ·split
     ·exact⟨_,rfl,Qw _,fun _=>OF _,by dsimp only;omega,.set _ _ _⟩
     ·split
      ·split
       ·exact⟨_,rfl,Qw _,(fun h=>by cases h),(by show _≤_;simp only[dC];omega),.wrong 0 _ _ _ _⟩
       ·next d r'=>
        simp only[IT]at hl;split
        ·exact⟨_,rfl,(by simp only[dC];omega),(fun h=>by cases h),(by show _≤_;simp only[dC];omega),.wrong 0 _ _ _ _⟩
        split
        ·exact⟨_,rfl,(by simp only[dC];omega),(fun h=>by cases h),(by show _≤_;simp only[dC];omega),.wrong 0 _ _ _ _⟩
        ·exact⟨_,rfl,by dsimp only;omega,fun _=>by dsimp only;omega,by dsimp only;omega,.set _ _ _⟩
      ·exact⟨_,rfl,by dsimp only;omega,fun _=>by dsimp only;omega,by dsimp only;omega,.set _ _ _⟩
theorem vg(ln fold:Bool)(l:List UInt8):∀(f p:Nat),p≤l.length→l.length<f+p→∃x,eE ln fold l f p=some x∧x.1.length≤f∧x.1≠[]:=by
 intro f;induction f with
 |zero=>intro p h1 h2;omega
 |succ f ih=>
  intro p h1 h2;obtain⟨x,hx,h3,h4,h5,_⟩:=eX ln fold l p h1;unfold eE;rw[hx];dsimp only;split
  ·next hm=>
   have h4:=h4 hm;obtain⟨y,hy,h6,h7⟩:=ih x.p h5 (by omega);rw[hy];exact⟨_,rfl,by simp;omega,by simp⟩
  ·exact⟨_,rfl,by simp,by simp⟩
section
structure jO where
 p:Nat
 n:Int
 g:Int
inductive df(α:Type) where
 |ok (a:α) (s:jO)
 |err (k at_:Int)
def kO{α β:Type}(x:Option (df α))(f:α→jO→Option (df β)):Option (df β):=match x with
 |none=>none
 |some (.err k a)=>some (.err k a)
 |some (.ok a s)=>f a s
section
variable(ln fold:Bool)(l:List UInt8)
mutual
def mM:Nat→Int→jO→Option (df Nd)
 |0,_,_=>none
 |f+1,d,s=>nl f d (s.n+1) [] ⟨s.p,s.n+1,s.g⟩
def nl:Nat→Int→Int→List Nd→jO→Option (df Nd)
 |0,_,_,_,_=>none
 |f+1,d,id,ks,s=>kO (sj f d s) fun k s=>match bG ln fold l s.p with
  |none=>none
  |some x=>if x.t.kind=6 then nl f d id (ks++[k]) ⟨x.p,s.n,s.g⟩else some (.ok (.alt id (ks++[k])) s)
def sj:Nat→Int→jO→Option (df Nd)
 |0,_,_=>none
 |f+1,d,s=>nk f d (s.n+1) [] ⟨s.p,s.n+1,s.g⟩
def nk:Nat→Int→Int→List Nd→jO→Option (df Nd)
 |0,_,_,_,_=>none
 |f+1,d,id,ks,s=>match bG ln fold l s.p with
  |none=>none
  |some x=>
   if x.t.kind=0∨x.t.kind=6∨x.t.kind=5 then
    if x.t.kind=5∧d=0 then some (.err 11 x.t.at_)
    else if ks.length=0 then some (.err 9 x.t.at_)
    else some (.ok (.seq id ks) s)
   else if x.t.kind=7 then some (.err 8 x.t.at_)
   else kO (o8 f d s) fun k s=>nk f d id (ks++[k]) s
def o8:Nat→Int→jO→Option (df Nd)
 |0,_,_=>none
 |f+1,d,s=>kO (gS f d s) fun k s=>jH f k s
def jH:Nat→Nd→jO→Option (df Nd)
 |0,_,_=>none
 |f+1,k,s=>match bG ln fold l s.p with
  |none=>none
  |some x=>if x.t.kind=7 then match x.wr with
   |some w=>some (.err w.1 w.2)
   |none=>jH f (.rep (s.n+1) k x.t.least x.t.most) ⟨x.p,s.n+1,s.g⟩
   else some (.ok k s)
def gS:Nat→Int→jO→Option (df Nd)
 |0,_,_=>none
 |f+1,d,s=>match bG ln fold l s.p with
  |none=>none
  |some x=>match x.wr with
   |some w=>some (.err w.1 w.2)
   |none=>if x.t.kind=4 then mr f d s else
    if x.t.kind=2 then some (.ok (.edge (s.n+1) false) ⟨x.p,s.n+1,s.g⟩)
    else if x.t.kind=3 then some (.ok (.edge (s.n+1) true) ⟨x.p,s.n+1,s.g⟩)
    else some (.ok (.set (s.n+1) x.t.b0 x.t.b1 x.t.b2 x.t.b3) ⟨x.p,s.n+1,s.g⟩)
def mr:Nat→Int→jO→Option (df Nd)
 |0,_,_=>none
 |f+1,d,s=>match bG ln fold l s.p with
  |none=>none
  |some x=>
   if s.g=9 then some (.err 12 x.t.at_)
   else kO (mM f (d+1) ⟨x.p,s.n+1,s.g+1⟩) fun k s3=>match bG ln fold l s3.p with
    |none=>none
    |some y=>if y.t.kind=5 then some (.ok (.grp (s.n+1) k (s.g+1)) ⟨y.p,s3.n,s3.g⟩)else some (.err 10 x.t.at_)
end
end
section
variable{ln fold:Bool}{l:List UInt8}{wr:Option (Int×Int)}
def AtP(ln fold:Bool)(l:List UInt8)(wr:Option (Int×Int))(s:cZ)(σ:jO):Prop:=σ.p≤l.length∧s.n=σ.n∧s.g=σ.g∧s.t.kind≠8∧∃f,eE ln fold l f σ.p=some (s.t::s.ts,wr)
def iz(ln fold:Bool)(l:List UInt8)(wr:Option (Int×Int))(p:Nat):Prop:=∃x w,bG ln fold l p=some x∧x.t.kind=8∧x.wr=some w∧wr=some w
def Ej(wr:Option (Int×Int)):uL→Int→Int→Prop
 | .tok,k,a=>wr=some (k,a)
 | .own k' a',k,a=>k'=k∧a'=a
def Rel(ln fold:Bool)(l:List UInt8)(wr:Option (Int×Int)){α:Type}:Option (cO α)→Option (df α)→Prop
 |none,_=>True
 |some (.ok a s),r=>∃σ,r=some (.ok a σ)∧AtP ln fold l wr s σ
 |some (.err e s),r=>∃k at_,r=some (.err k at_)∧Ej wr e k at_
def xm(ln fold:Bool)(l:List UInt8)(wr:Option (Int×Int)){α:Type}:Option (cO α)→Option (df α)→Prop
 |none,_=>True
 |some (.ok a s),r=>∃σ,r=some (.ok a σ)∧AtP ln fold l wr s σ
 |some (.err e s),r=>(∃k at_,r=some (.err k at_)∧Ej wr e k at_)∨(e= .tok∧∃a σ,r=some (.ok a σ)∧iz ln fold l wr σ.p)
theorem xm.of{α:Type}{x:Option (cO α)}{r:Option (df α)}(h:Rel ln fold l wr x r):xm ln fold l wr x r:=by
 match x,h with
 |none,_=>trivial
 |some (.ok a s),h=>exact h
 |some (.err e s),h=>exact .inl h
theorem AtP.now{s:cZ}{σ:jO}(h:AtP ln fold l wr s σ):∃x,bG ln fold l σ.p=some x∧x.t=s.t∧sO σ.p x∧x.p≤l.length∧
 ((x.more=true∧∃f,eE ln fold l f x.p=some (s.ts,wr))∨(x.more=false∧s.ts=[]∧wr=x.wr)):=by
 obtain⟨hp,_,_,_,f,hf⟩:=h;obtain⟨x,hx,_,_,h3,h4⟩:=eX ln fold l σ.p hp;cases f with
 |zero=>cases hf
 |succ f=>
  unfold eE at hf;rw[hx]at hf;dsimp only at hf;split at hf
  ·next hm=>
   rw[Qi]at hf;obtain⟨y,hy,he⟩:=hf;simp only[Prod.mk.injEq,List.cons.injEq]at he;obtain⟨⟨h5,h6⟩,h7⟩:=he;exact⟨x,hx,h5,h4,h3,.inl ⟨hm,f,by rw[hy,← h6,← h7]⟩⟩
  ·next hm=>
   simp only[Option.some.injEq,Prod.mk.injEq,List.cons.injEq]at hf;obtain⟨⟨h5,h6⟩,h7⟩:=hf;exact⟨x,hx,h5,h4,h3,.inr ⟨by simpa using hm,h6.symm,h7.symm⟩⟩
theorem AtP.step{s:cZ}{σ:jO}{x:dF}(h:AtP ln fold l wr s σ)(hx:bG ln fold l σ.p=some x)(hw:x.wr=none)(h0:x.t.kind≠0):
 ∃t ts,s.ts=t::ts∧((t.kind≠8∧∀n g,AtP ln fold l wr ⟨ts,t,n,g⟩ ⟨x.p,n,g⟩)∨(t.kind=8∧iz ln fold l wr x.p)):=by
 obtain⟨y,hy,hyt,hok,hle,hm⟩:=h.now;cases hx.symm.trans hy;rcases hm with⟨hm,f,hf⟩|⟨hm,_,_⟩
 ·obtain⟨z,hz,_,_,h3,h4⟩:=eX ln fold l x.p hle;cases f with
  |zero=>cases hf
  |succ f=>
   have h1:=hf;unfold eE at hf;rw[hz]at hf;dsimp only at hf;have key:∃ts,s.ts=z.t::ts∧(z.more=false→wr=z.wr):=by
    split at hf
    ·next hm=>
     rw[Qi]at hf;obtain⟨y,hy,he⟩:=hf;cases y;simp only[Prod.mk.injEq]at he;exact⟨_,he.1.symm,fun h=>by rw[h]at hm;cases hm⟩
    ·simp only[Option.some.injEq,Prod.mk.injEq]at hf;exact⟨_,hf.1.symm,fun _=>hf.2.symm⟩
   obtain⟨ts,h5,h6⟩:=key;refine⟨z.t,ts,h5,?_⟩;by_cases h8:z.t.kind=8
   ·have hb:=h4.bad;rw[h4.k8 h8]at hb;obtain⟨w,hw⟩:=Qf.1 hb.symm;have hmf:z.more=false:=by
     cases hzm:z.more
     ·rfl
     ·have:=h4.wrn hzm;rw[this]at hw;cases hw
    exact .inr ⟨h8,z,w,hz,h8,hw,(h6 hmf).trans hw⟩
   ·exact .inl ⟨h8,fun n g=>⟨hle,rfl,rfl,h8,f+1,by rw[h1,h5]⟩⟩
 ·rcases hok.last hm with h|h
  ·exact absurd h h0
  ·have:=hok.bad;rw[h,hw]at this;cases this
theorem iz.HI{p:Nat}(h:iz ln fold l wr p)(f:Nat)(d id:Int)(ks:List Nd)(n g:Int):∃k a,nk ln fold l (f+3) d id ks ⟨p,n,g⟩=some (.err k a)∧wr=some (k,a):=by
 obtain⟨x,w,hx,h8,hw,hwr⟩:=h;refine⟨w.1,w.2,?_,hwr⟩;unfold nk;rw[hx];dsimp only;rw[if_neg (by omega),if_neg (by omega)];unfold o8 gS;rw[hx];dsimp only;rw[hw];rfl
theorem iz.alt{p:Nat}(h:iz ln fold l wr p)(f:Nat)(d:Int)(n g:Int):∃k a,mM ln fold l (f+6) d ⟨p,n,g⟩=some (.err k a)∧wr=some (k,a):=by
 obtain⟨k,a,h1,h2⟩:=h.HI f d (n+1+1) [] (n+1+1) g;refine⟨k,a,?_,h2⟩;unfold mM nl sj;dsimp only;rw[h1];rfl
theorem iz.NX{p:Nat}(h:iz ln fold l wr p)(f:Nat)(d:Int)(id:Int)(ks:List Nd)(n g:Int):∃k a,nl ln fold l (f+5) d id ks ⟨p,n,g⟩=some (.err k a)∧wr=some (k,a):=by
 obtain⟨k,a,h1,h2⟩:=h.HI f d (n+1) [] (n+1) g;refine⟨k,a,?_,h2⟩;unfold nl sj;dsimp only;rw[h1];rfl
theorem iz.FQ{p:Nat}(h:iz ln fold l wr p)(f:Nat)(k:Nd)(n g:Int):jH ln fold l (f+1) k ⟨p,n,g⟩=some (.ok k ⟨p,n,g⟩):=by
 obtain⟨x,w,hx,h8,hw,hwr⟩:=h;unfold jH;rw[hx];dsimp only;rw[if_neg (by omega)]
theorem yu:∀f:Nat,
 (∀d s σ,AtP ln fold l wr s σ→Rel ln fold l wr (ic f d s) (mM ln fold l (f+8) d σ))∧
 (∀d id ks s σ,AtP ln fold l wr s σ→Rel ln fold l wr (iJ f d id ks s) (nl ln fold l (f+8) d id ks σ))∧
 (∀d s σ,AtP ln fold l wr s σ→Rel ln fold l wr (kq f d s) (sj ln fold l (f+8) d σ))∧
 (∀d id ks s σ,AtP ln fold l wr s σ→Rel ln fold l wr (k9 f d id ks s) (nk ln fold l (f+8) d id ks σ))∧
 (∀d s σ,AtP ln fold l wr s σ→s.t.kind≠0→s.t.kind≠7→xm ln fold l wr (g5 f d s) (o8 ln fold l (f+8) d σ))∧
 (∀k s σ,AtP ln fold l wr s σ→xm ln fold l wr (fV f k s) (jH ln fold l (f+8) k σ))∧
 (∀d s σ,AtP ln fold l wr s σ→s.t.kind≠0→s.t.kind≠7→xm ln fold l wr (iI f d s) (gS ln fold l (f+8) d σ))∧
 (∀d s σ,AtP ln fold l wr s σ→s.t.kind=4→xm ln fold l wr (iV f d s) (mr ln fold l (f+8) d σ)):=by
 intro f;induction f with
 |zero=>exact⟨fun _ _ _ _=>trivial,fun _ _ _ _ _ _=>trivial,fun _ _ _ _=>trivial,fun _ _ _ _ _ _=>trivial,fun _ _ _ _ _ _=>trivial,fun _ _ _ _=>trivial,fun _ _ _ _ _ _=>trivial,fun _ _ _ _ _=>trivial⟩
 |succ f ih=>
  obtain⟨iAlt,iAltL,iSeq,iSeqL,iPiece,iPieceL,iAtom,iGroup⟩:=ih;have pre:∀{s:cZ}{σ:jO},AtP ln fold l wr s σ→AtP ln fold l wr ⟨s.ts,s.t,s.n+1,s.g⟩ ⟨σ.p,σ.n+1,σ.g⟩:=fun⟨h1,h2,h3,h4,h5⟩=>⟨h1,by dsimp only;rw[h2],h3,h4,h5⟩
  refine⟨fun d s σ h=> ?_,fun d id ks s σ h=> ?_,fun d s σ h=> ?_,fun d id ks s σ h=> ?_,fun d s σ h h0 h7=> ?_,fun k s σ h=> ?_,fun d s σ h h0 h7=> ?_,fun d s σ h h4=> ?_⟩
  ·rw[show f+1+8=(f+8)+1 from by omega];unfold ic mM gE;split
   ·have:=iAltL d (s.n+1) [] _ _ (pre h);rw[← h.2.1]at this ⊢;exact this
   ·trivial
  ·rw[show f+1+8=(f+8)+1 from by omega];unfold iJ nl;split
   ·have h1:=iSeq d s σ h;cases hp:kq f d s with
    |none=>trivial
    |some r=>
     rw[hp]at h1;cases r with
     |err e s1=>
      obtain⟨k,a,h2,h3⟩:=h1;rw[h2];exact⟨k,a,rfl,h3⟩
     |ok k s1=>
      obtain⟨σ1,h2,h3⟩:=h1;rw[h2];obtain⟨x,hx,hxt,hok,hle,hm⟩:=h3.now;simp only[bL,kO];rw[hx];dsimp only;rw[hxt];split
      ·next h6=>
       have hw:x.wr=none:=by
        have:=hok.bk;cases hb:x.t.bad
        ·have:=hok.bad;rw[hb]at this;simpa using this.symm
        ·have:=hok.bk hb;rw[hxt]at this;omega
       obtain⟨t,ts,ht,h7⟩:=h3.step hx hw (by rw[hxt];omega);unfold cy;rw[ht];dsimp only;rcases h7 with⟨h8,h9⟩|⟨h8,h9⟩
       ·rw[if_neg h8];have:=iAltL d id (ks++[k]) _ _ (h9 s1.n s1.g);rw[← h3.2.1,← h3.2.2.1];exact this
       ·rw[if_pos h8];obtain⟨k',a',h10,h11⟩:=h9.NX (f+3) d id (ks++[k]) σ1.n σ1.g;exact⟨k',a',h10,h11⟩
      ·exact⟨σ1,rfl,h3⟩
   ·trivial
  ·rw[show f+1+8=(f+8)+1 from by omega];unfold kq sj gE;split
   ·have:=iSeqL d (s.n+1) [] _ _ (pre h);rw[← h.2.1]at this ⊢;exact this
   ·trivial
  ·rw[show f+1+8=(f+8)+1 from by omega];obtain⟨x,hx,hxt,hok,hle,hm⟩:=h.now;unfold k9 nk;rw[hx];dsimp only;rw[hxt];split
   ·split
    ·exact⟨_,_,rfl,rfl,rfl⟩
    split
    ·exact⟨_,_,rfl,rfl,rfl⟩
    ·exact⟨σ,rfl,h⟩
   ·next hk=>
    split
    ·exact⟨_,_,rfl,rfl,rfl⟩
    split
    ·next h7 _=>
     have h1:=iPiece d s σ h (by omega) h7;cases hp:g5 f d s with
     |none=>trivial
     |some r=>
      rw[hp]at h1;cases r with
      |err e s1=>
       rcases h1 with⟨k,a,h2,h3⟩|⟨rfl,k,σ1,h2,h3⟩
       ·rw[h2];exact⟨k,a,rfl,h3⟩
       ·rw[h2];obtain⟨k',a',h4,h5⟩:=h3.HI (f+5) d id (ks++[k]) σ1.n σ1.g;exact⟨k',a',h4,h5⟩
      |ok k s1=>
       obtain⟨σ1,h2,h3⟩:=h1;rw[h2];exact iSeqL d id (ks++[k]) s1 σ1 h3
    ·trivial
  ·rw[show f+1+8=(f+8)+1 from by omega];unfold g5 o8;have h1:=iAtom d s σ h h0 h7;cases hp:iI f d s with
   |none=>trivial
   |some r=>
    rw[hp]at h1;cases r with
    |err e s1=>
     rcases h1 with⟨k,a,h2,h3⟩|⟨rfl,k,σ1,h2,h3⟩
     ·rw[h2];exact .inl ⟨k,a,rfl,h3⟩
     ·rw[h2];exact .inr ⟨rfl,k,σ1,h3.FQ (f+7) k σ1.n σ1.g,h3⟩
    |ok k s1=>
     obtain⟨σ1,h2,h3⟩:=h1;rw[h2];exact iPieceL k s1 σ1 h3
  ·rw[show f+1+8=(f+8)+1 from by omega];obtain⟨x,hx,hxt,hok,hle,hm⟩:=h.now;unfold fV jH;rw[hx];dsimp only;rw[hxt];split
   ·next h7=>
    split
    ·next hb=>
     have hd:=hok.bad;rw[hxt,hb]at hd;obtain⟨w,hw⟩:=Qf.1 hd.symm;rw[hw];rcases hm with⟨hm,_⟩|⟨_,_,hwr⟩
     ·have:=hok.wrn hm;rw[this]at hw;cases hw
     ·exact .inl ⟨_,_,rfl,by show wr=_;rw[hwr,hw]⟩
    ·next hb=>
     have hw:x.wr=none:=by
      have:=hok.bad;rw[hxt]at this;cases hx:x.wr
      ·rfl
      ·rw[hx]at this;simp at this;exact absurd this hb
     rw[hw];dsimp only;unfold gE;split
     ·obtain⟨t,ts,ht,h8⟩:=(pre h).step hx hw (by rw[hxt];omega);simp only[bL,cy];rw[ht];dsimp only;rcases h8 with⟨h8,h9⟩|⟨h8,h9⟩
      ·rw[if_neg h8];have:=iPieceL (.rep (s.n+1) k s.t.least s.t.most) _ _ (h9 (s.n+1) s.g);rw[← h.2.1,← h.2.2.1];exact this
      ·rw[if_pos h8];exact .inr ⟨rfl,_,_,h9.FQ (f+7) _ _ _,h9⟩
     ·trivial
   ·exact⟨σ,rfl,h⟩
  ·rw[show f+1+8=(f+8)+1 from by omega];obtain⟨x,hx,hxt,hok,hle,hm⟩:=h.now;have hw:x.wr=none:=by
    cases hb:x.t.bad
    ·have:=hok.bad;rw[hb]at this;simpa using this.symm
    ·have h1:=hok.bk hb;rw[hxt]at h1;exact(h1.elim h.2.2.2.1 h7).elim
   unfold iI gS;rw[hx];dsimp only;rw[hw];dsimp only;rw[hxt];split
   ·next h4=>exact iGroup d s σ h h4
   ·obtain⟨t,ts,ht,h8⟩:=h.step hx hw (by rw[hxt];omega);unfold cy;rw[ht];dsimp only;rcases h8 with⟨h8,h9⟩|⟨h8,h9⟩
    ·rw[if_neg h8];simp only[bL,gE];by_cases hb:0≤s.n∧s.n<1000000
     ·rw[if_pos hb];dsimp only;have h10:AtP ln fold l wr ⟨ts,t,s.n+1,s.g⟩ ⟨x.p,s.n+1,s.g⟩:=h9 (s.n+1) s.g;rw[← h.2.1,← h.2.2.1];split
      ·exact⟨_,rfl,h10⟩
      split
      ·exact⟨_,rfl,h10⟩
      ·exact⟨_,rfl,h10⟩
     ·rw[if_neg hb];trivial
    ·rw[if_pos h8];refine .inr ⟨rfl,?_⟩;split
     ·exact⟨_,_,rfl,h9⟩
     split
     ·exact⟨_,_,rfl,h9⟩
     ·exact⟨_,_,rfl,h9⟩
  ·rw[show f+1+8=(f+8)+1 from by omega];obtain⟨x,hx,hxt,hok,hle,hm⟩:=h.now;have hw:x.wr=none:=by
    cases hb:x.t.bad
    ·have:=hok.bad;rw[hb]at this;simpa using this.symm
    ·have h1:=hok.bk hb;rw[hxt]at h1;omega
   unfold iV mr;rw[hx];dsimp only;rw[hxt,h.2.2.1,h.2.1];split
   ·exact .inl ⟨_,_,rfl,rfl,rfl⟩
   split
   ·unfold gE;dsimp only;split
    ·obtain⟨t,ts,ht,h8⟩:=h.step hx hw (by rw[hxt];omega);simp only[bL,cy];rw[ht];dsimp only;rcases h8 with⟨h8,h9⟩|⟨h8,h9⟩
     ·rw[if_neg h8];have h1:=iAlt (d+1) _ _ (h9 (σ.n+1) (σ.g+1));dsimp only at h1 ⊢;cases hp:ic f (d+1) ⟨ts,t,σ.n+1,σ.g+1⟩with
      |none=>trivial
      |some r=>
       rw[hp]at h1;cases r with
       |err e s1=>
        obtain⟨k,a,h2,h3⟩:=h1;rw[h2];exact .inl ⟨k,a,rfl,h3⟩
       |ok k s3=>
        obtain⟨σ3,h2,h3⟩:=h1;rw[h2];obtain⟨y,hy,ha,hc,hley,hmy⟩:=h3.now;simp only[kO];rw[hy];dsimp only;rw[ha];split
        ·next h5=>
         have hwy:y.wr=none:=by
          cases hb:y.t.bad
          ·have:=hc.bad;rw[hb]at this;simpa using this.symm
          ·have h1:=hc.bk hb;rw[ha]at h1;omega
         obtain⟨t2,ts2,he,h10⟩:=h3.step hy hwy (by rw[ha];omega);rw[he];dsimp only;rcases h10 with⟨h10,h11⟩|⟨h10,h11⟩
         ·rw[if_neg h10];rw[← h3.2.1,← h3.2.2.1];exact⟨_,rfl,h11 _ _⟩
         ·rw[if_pos h10];exact .inr ⟨rfl,_,_,rfl,h11⟩
        ·exact .inl ⟨_,_,rfl,rfl,rfl⟩
     ·rw[if_pos h8];obtain⟨k',a',h10,h11⟩:=h9.alt (f+2) (d+1) (σ.n+1) (σ.g+1);refine .inl ⟨k',a',?_,h11⟩;rw[h10];rfl
    ·trivial
   ·trivial
end
end
section
section
variable{ln fold:Bool}{l:List UInt8}{wr:Option (Int×Int)}
def ep(ln fold:Bool)(l:List UInt8)(wr:Option (Int×Int))(s:cZ):Prop:=∃σ,AtP ln fold l wr s σ
structure Room(a:Int)(s:cZ):Prop where
 n0:0≤s.n
 g0:0≤s.g
 n1:s.n+3*(s.ts.length:Int)+a≤1000
 g1:s.g+(s.ts.length:Int)≤500
structure Less(a:Int)(c:Nat)(s s':cZ):Prop where
 k:s'.ts.length+c≤s.ts.length
 n:s'.n+3*(s'.ts.length:Int)≤s.n+3*(s.ts.length:Int)+a
 g:s'.g+(s'.ts.length:Int)≤s.g+(s.ts.length:Int)
 n0:s.n≤s'.n
 g0:s.g≤s'.g
def Tot(ln fold:Bool)(l:List UInt8)(wr:Option (Int×Int))(a:Int)(c:Nat)(s:cZ){α:Type}(x:Option (cO α)):Prop:=∃r,x=some r∧∀v s',r= .ok v s'→ep ln fold l wr s'∧Less a c s s'
theorem Tot.err{a:Int}{c:Nat}{s:cZ}{α:Type}(e:uL)(s':cZ):Tot ln fold l wr a c s (some (.err e s':cO α)):=⟨_,rfl,fun v s' h=>by cases h⟩
theorem Tot.ok{a:Int}{c:Nat}{s s':cZ}{α:Type}{v:α}(h:ep ln fold l wr s')(h2:Less a c s s'):Tot ln fold l wr a c s (some (.ok v s')):=⟨_,rfl,fun v s' h=>by cases h;exact⟨by assumption,h2⟩⟩
theorem Tot.thn{a b a':Int}{c c' d:Nat}{s:cZ}{α β:Type}{x:Option (cO α)}{f:α→cZ→Option (cO β)}(h:Tot ln fold l wr a c s x)(hf:∀v s',ep ln fold l wr s'→Less a c s s'→Tot ln fold l wr b d s (f v s')):Tot ln fold l wr b d s (bL x f):=by
 obtain⟨r,rfl,h⟩:=h;cases r with
 |err e s'=>exact .err e s'
 |ok v s'=>obtain⟨h1,h2⟩:=h v s' rfl;exact hf v s' h1 h2
theorem Tot.from{a b e:Int}{c d g:Nat}{s s1:cZ}{α:Type}{x:Option (cO α)}(h:Tot ln fold l wr a c s1 x)(h1:Less b d s s1)(ha:a+b≤e)(hc:g≤c+d):Tot ln fold l wr e g s x:=by
 obtain⟨r,rfl,h⟩:=h;refine⟨r,rfl,fun v s' hr=> ?_⟩;obtain⟨h2,h3⟩:=h v s' hr;refine⟨h2,?_,?_,?_,?_,?_⟩
 ·have:=h3.k;have:=h1.k;omega
 ·have:=h3.n;have:=h1.n;omega
 ·have:=h3.g;have:=h1.g;omega
 ·have:=h3.n0;have:=h1.n0;omega
 ·have:=h3.g0;have:=h1.g0;omega
theorem Less.refl(s:cZ):Less 0 0 s s:=⟨AS _,by omega,by omega,by omega,by omega⟩
theorem ep.part{s:cZ}(h:ep ln fold l wr s)(n g:Int):ep ln fold l wr ⟨s.ts,s.t,n,g⟩:=by
 obtain⟨σ,h1,h2,h3,h4,h5⟩:=h;exact⟨⟨σ.p,n,g⟩,h1,rfl,rfl,h4,h5⟩
theorem nR{s:cZ}(h:ep ln fold l wr s)(h0:0≤s.n)(h1:s.n<1000000):gE s=some (.ok (s.n+1) ⟨s.ts,s.t,s.n+1,s.g⟩):=by
 unfold gE;rw[if_pos ⟨h0,h1⟩]
theorem nQ{s:cZ}(h:ep ln fold l wr s)(h0:s.t.kind≠0)(hb:s.t.bad=false):∃r,cy s=some r∧∀v s',r= .ok v s'→ep ln fold l wr s'∧s'.n=s.n∧s'.g=s.g∧s'.ts.length+1=s.ts.length:=by
 obtain⟨σ,h⟩:=h;obtain⟨x,hx,hxt,hok,hle,hm⟩:=h.now;have hw:x.wr=none:=by
  have:=hok.bad;rw[hxt,hb]at this;simpa using this.symm
 obtain⟨t,ts,ht,h8⟩:=h.step hx hw (by rw[hxt];exact h0);unfold cy;rw[ht];dsimp only;rcases h8 with⟨h8,h9⟩|⟨h8,h9⟩
 ·rw[if_neg h8];refine⟨_,rfl,fun v s' hv=> ?_⟩;cases hv;exact⟨⟨_,h9 _ _⟩,rfl,rfl,by simp⟩
 ·rw[if_pos h8];exact⟨_,rfl,fun v s' hv=>by cases hv⟩
theorem ep.bad{s:cZ}(h:ep ln fold l wr s)(h7:s.t.kind≠7):s.t.bad=false:=by
 obtain⟨σ,h⟩:=h;obtain⟨x,hx,hxt,hok,hle,hm⟩:=h.now;cases hb:s.t.bad
 ·rfl
 ·have:=hok.bk (by rw[hxt];exact hb);rw[hxt]at this;exact absurd this (by have:=h.2.2.2.1;omega)
theorem vr{s:cZ}(h:ep ln fold l wr s)(h0:s.t.kind≠0)(hb:s.t.bad=false):1≤s.ts.length:=by
 obtain⟨σ,h⟩:=h;obtain⟨x,hx,hxt,hok,hle,hm⟩:=h.now;rcases hm with⟨_,f,hf⟩|⟨hm,_,_⟩
 ·cases h3:s.ts with
  |nil=>
   rw[h3]at hf;cases f with
   |zero=>cases hf
   |succ f=>
    obtain⟨y,hy,_,h2⟩:=vg ln fold l (l.length+1) x.p hle (by omega);have hw:x.wr=none:=by
     have:=hok.bad;rw[hxt,hb]at this;simpa using this.symm
    obtain⟨t,ts,ht,_⟩:=h.step hx hw (by rw[hxt];exact h0);rw[h3]at ht;cases ht
  |cons t ts=>simp
 ·rcases hok.last hm with h1|h1
  ·rw[hxt]at h1;exact absurd h1 h0
  ·rw[hxt,hb]at h1;cases h1
theorem zO:∀f:Nat,
 (∀(d:Int) s,ep ln fold l wr s→Room 2 s→0≤d→d+(s.ts.length:Int)≤500→7*s.ts.length+6≤f→Tot ln fold l wr 2 0 s (ic f d s))∧
 (∀(d:Int) id ks s,ep ln fold l wr s→Room 1 s→0≤d→d+(s.ts.length:Int)≤500→7*s.ts.length+5≤f→ks.length+s.ts.length≤1000→Tot ln fold l wr 1 0 s (iJ f d id ks s))∧
 (∀(d:Int) s,ep ln fold l wr s→Room 1 s→0≤d→d+(s.ts.length:Int)≤500→7*s.ts.length+4≤f→Tot ln fold l wr 1 0 s (kq f d s))∧
 (∀(d:Int) id ks s,ep ln fold l wr s→Room 0 s→0≤d→d+(s.ts.length:Int)≤500→7*s.ts.length+3≤f→ks.length+s.ts.length≤1000→Tot ln fold l wr 0 0 s (k9 f d id ks s))∧
 (∀(d:Int) s,ep ln fold l wr s→Room 0 s→0≤d→d+(s.ts.length:Int)≤500→7*s.ts.length+2≤f→s.t.kind≠0→s.t.kind≠7→Tot ln fold l wr 0 1 s (g5 f d s))∧
 (∀k s,ep ln fold l wr s→Room 0 s→7*s.ts.length+1≤f→Tot ln fold l wr 0 0 s (fV f k s))∧
 (∀(d:Int) s,ep ln fold l wr s→Room 0 s→0≤d→d+(s.ts.length:Int)≤500→7*s.ts.length+1≤f→s.t.kind≠0→s.t.kind≠7→Tot ln fold l wr 0 1 s (iI f d s))∧
 (∀(d:Int) s,ep ln fold l wr s→Room 0 s→0≤d→d+(s.ts.length:Int)≤500→7*s.ts.length≤f→s.t.kind=4→Tot ln fold l wr 0 1 s (iV f d s)):=by
 intro f;induction f with
 |zero=>
  refine⟨fun d s _ _ _ _ h=>(by omega),fun d id ks s _ _ _ _ h=>(by omega),fun d s _ _ _ _ h=>(by omega),fun d id ks s _ _ _ _ h=>(by omega),fun d s _ _ _ _ h=>(by omega),fun k s _ _ h=>(by omega),fun d s _ _ _ _ h=>(by omega),fun d s hs _ _ _ h h4=> ?_⟩;have:=vr hs (by omega) (hs.bad (by omega));omega
 |succ f ih=>
  obtain⟨iAlt,iAltL,iSeq,iSeqL,iPiece,iPieceL,iAtom,iGroup⟩:=ih;refine⟨fun d s h hr hd hd2 hf=> ?_,fun d id ks s h hr hd hd2 hf hk=> ?_,fun d s h hr hd hd2 hf=> ?_,fun d id ks s h hr hd hd2 hf hk=> ?_,fun d s h hr hd hd2 hf h0 h7=> ?_,fun k s h hr hf=> ?_,fun d s h hr hd hd2 hf h0 h7=> ?_,fun d s h hr hd hd2 hf h4=> ?_⟩
  ·obtain⟨r1,r2,r3,r4⟩:=hr;unfold ic;rw[nR h r1 (by omega)];exact(iAltL d _ [] _ (h.part (s.n+1) s.g) ⟨by show 0≤s.n+1;omega,r2,by dsimp only;omega,r4⟩ hd hd2 (by show 7*s.ts.length+5≤f;omega) (by show 0+s.ts.length≤_;omega)).from (b:=1) (d:=0) ⟨AS _,by dsimp only;omega,Qe _,by show s.n≤s.n+1;omega,Qe _⟩ (by omega) (by omega)
  ·obtain⟨r1,r2,r3,r4⟩:=hr;unfold iJ;rw[if_pos (by omega)];refine Tot.thn (a':=0) (c':=0) (iSeq d s h ⟨r1,r2,r3,r4⟩ hd hd2 (by omega)) fun k s1 h1 hl=> ?_
   split
   ·next h6=>
    obtain⟨r,hs,hr⟩:=nQ h1 (by omega) (h1.bad (by omega));rw[hs];cases r with
    |err e s2=>exact .err e s2
    |ok v s2=>
     obtain⟨h2,e1,e2,e3⟩:=hr v s2 rfl;have:=hl.k;have:=hl.n;have:=hl.g;have:=hl.n0;have:=hl.g0;exact(iAltL d id (ks++[k]) s2 h2 ⟨by omega,by omega,by omega,by omega⟩ hd (by omega) (by omega) (by simp;omega)).from (b:=0) (d:=0) ⟨by omega,by omega,by omega,by omega,by omega⟩ (by omega) (by omega)
   ·exact .ok h1 hl
  ·obtain⟨r1,r2,r3,r4⟩:=hr;unfold kq;rw[nR h r1 (by omega)];exact(iSeqL d _ [] _ (h.part (s.n+1) s.g) ⟨by show 0≤s.n+1;omega,r2,by dsimp only;omega,r4⟩ hd hd2 (by show 7*s.ts.length+3≤f;omega) (by show 0+s.ts.length≤_;omega)).from (b:=1) (d:=0) ⟨AS _,by dsimp only;omega,Qe _,by show s.n≤s.n+1;omega,Qe _⟩ (by omega) (by omega)
  ·obtain⟨r1,r2,r3,r4⟩:=hr;unfold k9;split
   ·split
    ·exact .err _ _
    split
    ·exact .err _ _
    ·exact .ok h (Less.refl s)
   split
   ·exact .err _ _
   next h0 h7=>
   rw[if_pos (by omega)];refine Tot.thn (a':=0) (c':=0) (iPiece d s h ⟨r1,r2,r3,r4⟩ hd hd2 (by omega) (by omega) h7) fun k s1 h1 hl=> ?_
   have:=hl.k;have:=hl.n;have:=hl.g;have:=hl.n0;have:=hl.g0;exact(iSeqL d id (ks++[k]) s1 h1 ⟨by omega,by omega,by omega,by omega⟩ hd (by omega) (by omega) (by simp;omega)).from hl (by omega) (by omega)
  ·obtain⟨r1,r2,r3,r4⟩:=hr;unfold g5;refine Tot.thn (a':=0) (c':=0) (iAtom d s h ⟨r1,r2,r3,r4⟩ hd hd2 (by omega) h0 h7) fun k s1 h1 hl=> ?_
   have:=hl.k;have:=hl.n;have:=hl.g;have:=hl.n0;have:=hl.g0;exact(iPieceL k s1 h1 ⟨by omega,by omega,by omega,by omega⟩ (by omega)).from hl (by omega) (by omega)
  ·obtain⟨r1,r2,r3,r4⟩:=hr;unfold fV;split
   ·next h7=>
    split
    ·exact .err _ _
    ·next hb=>
     have hb:s.t.bad=false:=by simpa using hb
     have hp:=vr h (by omega) hb;rw[nR h r1 (by omega)];obtain⟨r,hs,hr⟩:=nQ (h.part (s.n+1) s.g) (by show s.t.kind≠0;omega) hb;simp only[bL];rw[hs];cases r with
     |err e s2=>exact .err e s2
     |ok v s2=>
      obtain⟨h2,e1,e2,e3⟩:=hr v s2 rfl;dsimp only at e1 e2 e3 ⊢;exact(iPieceL _ s2 h2 ⟨by omega,by omega,by omega,by omega⟩ (by omega)).from (b:=0) (d:=1) ⟨by omega,by omega,by omega,by omega,by omega⟩ (by omega) (by omega)
   ·exact .ok h (Less.refl s)
  ·obtain⟨r1,r2,r3,r4⟩:=hr;have hb:=h.bad h7;have hp:=vr h h0 hb;unfold iI;split
   ·next h4=>exact iGroup d s h ⟨r1,r2,r3,r4⟩ hd hd2 (by omega) h4
   ·obtain⟨r,hs,hr⟩:=nQ h h0 hb;rw[hs];cases r with
    |err e s2=>exact .err e s2
    |ok v s2=>
     obtain⟨h2,e1,e2,e3⟩:=hr v s2 rfl;simp only[bL];rw[nR h2 (by omega) (by omega)];have hL:Less 0 1 s ⟨s2.ts,s2.t,s2.n+1,s2.g⟩:=⟨by show s2.ts.length+1≤_;omega,by show s2.n+1+3*(s2.ts.length:Int)≤_;omega,by show s2.g+(s2.ts.length:Int)≤_;omega,by show _≤s2.n+1;omega,by show _≤s2.g;omega⟩;dsimp only;split
     ·exact .ok (h2.part _ _) hL
     split
     ·exact .ok (h2.part _ _) hL
     ·exact .ok (h2.part _ _) hL
  ·obtain⟨r1,r2,r3,r4⟩:=hr;have hb:=h.bad (by omega);have hp:=vr h (by omega) hb;unfold iV;split
   ·exact .err _ _
   rw[if_pos (by omega),nR (h.part s.n (s.g+1)) r1 (by dsimp only;omega)];obtain⟨r,hs,hr⟩:=nQ (h.part (s.n+1) (s.g+1)) (by show s.t.kind≠0;omega) hb;simp only[bL];rw[hs];cases r with
   |err e s2=>exact .err e s2
   |ok v s2=>
    obtain⟨h2,e1,e2,e3⟩:=hr v s2 rfl;dsimp only at e1 e2 e3 ⊢;obtain⟨r3',h8,h9⟩:=iAlt (d+1) s2 h2 ⟨by omega,by omega,by omega,by omega⟩ (by omega) (by omega) (by omega);rw[h8];cases r3' with
    |err e s3=>exact .err e s3
    |ok k s3=>
     obtain⟨h3,hl⟩:=h9 k s3 rfl;have:=hl.k;have:=hl.n;have:=hl.g;have:=hl.n0;have:=hl.g0;dsimp only;split
     ·next h5=>
      obtain⟨r4',ha,hc⟩:=nQ h3 (by omega) (h3.bad (by omega));rw[ha];cases r4' with
      |err e s4=>exact .err e s4
      |ok v s4=>
       obtain⟨he,e4,e5,e6⟩:=hc v s4 rfl;exact .ok he ⟨by omega,by omega,by omega,by omega,by omega⟩
     ·exact .err _ _
end
end
def deep:Nat:=2000
def oa(t0:Tok)(ts:List Tok):Option (cO Nd):=bL (cy ⟨ts,t0,0,0⟩) fun _ s=>ic deep 0 s
def LL(ln fold:Bool)(l:List UInt8):Option (df Nd):=mM ln fold l (deep+8) 0 ⟨0,0,0⟩
inductive Alike(wr:Option (Int×Int)):cO Nd→df Nd→Prop
 |ok (a:Nd) (s:cZ) (σ:jO) (h:s.g=σ.g):Alike wr (.ok a s) (.ok a σ)
 |err (e:uL) (s:cZ) (k at_:Int) (h:Ej wr e k at_):Alike wr (.err e s) (.err k at_)
theorem xw(ln fold:Bool)(l:List UInt8)(h:l.length≤120)(t0:Tok):
 ∃ts wr,eE ln fold l (l.length+1) 0=some (ts,wr)∧ts.length≤121∧∃r r',oa t0 ts=some r∧LL ln fold l=some r'∧Alike wr r r':=by
 obtain⟨⟨ts,wr⟩,hx,hlen,hne⟩:=vg ln fold l (l.length+1) 0 (Qj _) (by omega);refine⟨ts,wr,hx,by dsimp only at hlen;omega,?_⟩;cases ts with
 |nil=>exact absurd rfl hne
 |cons t ts=>
  dsimp only at hlen;simp only[IT]at hlen;by_cases h8:t.kind=8
  ·obtain⟨x,hsx,_,_,h3,h4⟩:=eX ln fold l 0 (Qj _);have hx':=hx;unfold eE at hx';rw[hsx]at hx';dsimp only at hx';have key:x.t=t∧(x.more=false→x.wr=wr):=by
    split at hx'
    ·next hm=>
     rw[Qi]at hx';obtain⟨y,hy,he⟩:=hx';simp only[Prod.mk.injEq,List.cons.injEq]at he;exact⟨he.1.1,fun h=>by rw[h]at hm;cases hm⟩
    ·simp only[Option.some.injEq,Prod.mk.injEq,List.cons.injEq]at hx';exact⟨hx'.1.1,fun _=>hx'.2⟩
   have hb:=h4.bad;rw[h4.k8 (by rw[key.1];exact h8)]at hb;obtain⟨w,hw⟩:=Qf.1 hb.symm;have hmf:x.more=false:=by
    cases hzm:x.more
    ·rfl
    ·have:=h4.wrn hzm;rw[this]at hw;cases hw
   have hF:iz ln fold l wr 0:=⟨x,w,hsx,by rw[key.1];exact h8,hw,(key.2 hmf).symm.trans hw⟩;obtain⟨k,a,h10,h11⟩:=hF.alt (deep+2) 0 0 0;refine⟨_,_,by unfold oa cy;dsimp only;rw[if_pos h8];rfl,h10,.err .tok _ _ _ h11⟩
  ·have hA:AtP ln fold l wr ⟨ts,t,0,0⟩ ⟨0,0,0⟩:=⟨Qj _,rfl,rfl,h8,_,hx⟩;obtain⟨r,hr,_⟩:=(zO (ln:=ln) (fold:=fold) (l:=l) (wr:=wr) deep).1 0 ⟨ts,t,0,0⟩ ⟨_,hA⟩ ⟨Qe _,Qe _,by dsimp only;omega,by dsimp only;omega⟩ (Qe _) (by dsimp only;omega) (by dsimp only[deep];omega);have hR:=(yu (ln:=ln) (fold:=fold) (l:=l) (wr:=wr) deep).1 0 _ _ hA;rw[hr]at hR;have e:oa t0 (t::ts)=some r:=by
    unfold oa cy;dsimp only;rw[if_neg h8];exact hr
   cases r with
   |ok a s=>
    obtain⟨σ,h1,h2⟩:=hR;exact⟨_,_,e,h1,.ok a s σ h2.2.2.1⟩
   |err e' s=>
    obtain⟨k,a,h1,h2⟩:=hR;exact⟨_,_,e,h1,.err e' s k a h2⟩
section
open Go.Conc
section
variable{P:QA}{D:eQ P}{ops:Array Oper}{Q:Exit→Act→By→Prop}{md:Region.Mode}
theorem go_step{g t:Nat}{listed:Array Bool}{i:Nat}(hi:(No md ops listed)[t% (No md ops listed).length]?=some i):Region.linearise.go md ops (g+1) t listed []=i::Region.linearise.go md ops g (t/ (No md ops listed).length) (listed.setIfInBounds i true) []:=by
 have e:Region.linearise.go md ops (g+1) t listed []=(match(No md ops listed)[t% (No md ops listed).length]? with
  |some i=>Region.linearise.go md ops g (t/ (No md ops listed).length) (listed.setIfInBounds i true) [i]
  |none=>[].reverse):=rfl
 rw[e,hi];dsimp only;rw[linearise_go_acc,List.reverse_singleton,List.singleton_append]
theorem zG{t:Nat}{listed:Array Bool}(h:No md ops listed≠[]):∃i,(No md ops listed)[t% (No md ops listed).length]?=some i∧i∈No md ops listed:=by
 have hlt:t% (No md ops listed).length<(No md ops listed).length:=Nat.mod_lt _ (List.length_pos_iff.2 h);exact⟨_,List.getElem?_eq_getElem hlt,List.getElem_mem hlt⟩
theorem M7:∀(g k t:Nat)(listed:Array Bool),Region.seqB md ops g k listed=true→Region.linearise.go md ops g t listed []=IN k g:=by
 intro g;induction g with
 |zero=>intro k t listed _;rfl
 |succ g ih=>
  intro k t listed h;simp only[Region.seqB,QL,decide_eq_true_eq]at h;rw[go_step (i:=k) (by rw[h.1];simp[Nat.mod_one]),ih (k+1) _ _ h.2];rfl
theorem yX{w:By}{n g:Nat}{L:Array Bool→Act→Prop}{Q1:Exit→Act→By→Prop}(hq:∀listed a,L listed a→Q1 .normal a w):∀(f t:Nat)(listed:Array Bool)(a:Act),wpAnyL P md ops w n L f listed a→
 wpOps P ops Q1 ((Region.linearise.go md ops (f+g) t listed []).take f) a w:=by
 intro f;induction f with
 |zero=>exact fun t listed a h=>hq _ _ h
 |succ f ih=>
  intro t listed a h;obtain⟨i,hi,hm⟩:=zG (t:=t) h.1;rw[show f+1+g=(f+g)+1 by omega,go_step hi,List.take_succ_cons,wpOps_cons];exact wpOp_of_stOp (fun a' h'=>ih _ _ _ h') (h.2 i hm).2
theorem Bf{w:By}{n g:Nat}{L:Array Bool→Act→Prop}:∀(f t:Nat)(listed:Array Bool)(a:Act),wpAnyL P md ops w n L f listed a→
 ∃listed' t' a',L listed' a'∧(Region.linearise.go md ops (f+g) t listed []).drop f=Region.linearise.go md ops g t' listed' []:=by
 intro f;induction f with
 |zero=>exact fun t listed a h=>⟨listed,t,a,h,by simp⟩
 |succ f ih=>
  intro t listed a h;obtain⟨i,hi,hm⟩:=zG (t:=t) h.1;obtain⟨_,oi,h0,_⟩:=mem_ready.1 hm;obtain⟨v,_,hK⟩:=yieldsAt_of_stOp h0 (h.2 i hm).2;obtain⟨l',t',a',h1,h2⟩:=ih (t/ (No md ops listed).length) _ _ hK;exact⟨l',t',a',h1,by rw[show f+1+g=(f+g)+1 by omega,go_step hi,PG];exact h2⟩
theorem lx{id:Nat}{a:Act}{w:By}{l:List Oper}(n:Nat)(hm:P.follows .mixedOrders=true)(hB:Region.lexTailB .any l.toArray n=true)
 (h:∀K:Act→Prop,RowKit.Hid (∀a',bo D l.toArray Q (IN n (l.length-n)) a' w→K a')→∀w1:By,w1.heap=w.heap→wpStill P l.toArray w1 K (l.take n) a):cV D (.region id l.toArray true) Q a w:=by
 simp only[Region.lexTailB,QL,decide_eq_true_eq]at hB;obtain⟨⟨⟨⟨h3,hn⟩,hs⟩,hc⟩,h4⟩:=hB;have hn':n<l.length:=by simpa using hn
 have htl:(l.take n).length=n:=by simp;omega
 have hdl:(l.drop n).length=l.toArray.size-n:=by simp
 have inv0:HeadInv .any l.toArray n (Qv l.toArray.size false):=
  ⟨by simp,fun j oj _ hl=>(by rw[getD_replicate_false]at hl;cases hl),fun t _ ht=>getD_in (by simpa using ht) (getD_replicate_false _ _)⟩
 have h0:=h (fun a'=>bo D l.toArray Q (IN n (l.length-n)) a' w) (AI fun _ h=>h);have H:=fun w1(hw1:World.heap w1=w.heap)=>wpAnyL_lex (md:=.any) (g:=l.toArray.size-n) h3 hs hc hn (l.take n) 0 _ a (fun j hj=>by
  have hj':j<n:=by rw[htl]at hj;exact hj
  simp[hj']) (by simpa using htl) inv0 (by rw[htl];exact h4) (h0 w1 hw1)
 refine oI fun t=> ?_
 simp only[Region.schedule,hm,Bool.true_or,if_true];have e:(l.take n).length+(l.toArray.size-n)=l.toArray.size:=by rw[htl];omega
 generalize hsch:Region.linearise.go .any l.toArray l.toArray.size t (Qv l.toArray.size false) []=sch;have hsch':Region.linearise .any l.toArray t=sch:=hsch;rw[hsch'];have hop:∀τ d,wpOps P l.toArray (fun e a' w'=>e= .normal∧bo D l.toArray Q (IN n (l.length-n)) a' w∧∃τ d,w'=af w τ d) (sch.take n) a (af w τ d):=fun τ d=>by
  have:=yX (g:=l.toArray.size-n) (Q1:=fun e a' w'=>e= .normal∧bo D l.toArray Q (IN n (l.length-n)) a' w∧∃τ d,w'=af w τ d) (fun listed a hL=>⟨rfl,hL.2,τ,d,rfl⟩) _ t _ _ (H (af w τ d) rfl);rw[e,htl,hsch]at this;exact this
 have hd:sch.drop n=IN n (l.length-n):=by
  obtain⟨l',t',a',h1,h2⟩:=Bf (g:=l.toArray.size-n) _ t _ _ (H w rfl);rw[e,htl,hsch,M7 _ _ _ _ h1.1]at h2;simpa using h2
 have hsp:sch=sch.take n++IN n (l.length-n):=by rw[← hd];exact(List.take_append_drop n sch).symm
 rw[hsp];exact qK hop (fun a' w' hq=>by
  obtain⟨_,h1,τ,d,rfl⟩:=hq;exact KD h1 τ d) (fun ch a' w' hq=>by cases hq.1) (fun a' w' hq=>by cases hq.1)
end
theorem bP{P:QA}{D:eQ P}{x y:Code}{Q:Exit→Act→By→Prop}{a:Act}{w:By}(M:Act→By→Prop)(h1:cV D x (Exit.then M Q) a w)(h2:∀a w,M a w→cV D y Q a w):cV D (.seq x y) Q a w:=
 wD (yV h1 fun e a w h=>by cases e<;>first |exact h2 _ _ h|exact h)
theorem du(n:Nat)(ts:Array BY)(h:ts.size=n):ts=((List.range n).map fun i=>ts.getD i undef).toArray:=by
 apply Array.ext
 ·simp[h]
 ·intro i h1 h2;simp[Array.getD,h1]
end
section
open Go.RowKit
attribute [local instance] dP
variable{T:bw PA}
def pu:Tok:=⟨0,0,0,0,0,0,0,0,false⟩
structure eJ where
 nb:Nat
 gb:Nat
 eb:Nat
 r:Nat
 e:Nat
 cap:Nat
 tm:Bool
 B:Nat
structure Rs(E:eJ)(w:By)(n g er:BY):Prop where
 n:ac w E.nb 86 #[n]
 g:ac w E.gb 3 #[g]
 e:ac w E.eb 105 #[er]
theorem Rs.ab{E:eJ}{w w':By}{n g er:BY}(h:Rs E w n g er)(he:w'.heap=w.heap):Rs E w' n g er:=⟨h.n.ab he,h.g.ab he,h.e.ab he⟩
theorem Rs.keep{E:eJ}{w w':By}{n g er:BY}(h:Rs E w n g er)(hk:∀b,b=E.nb∨b=E.gb∨b=E.eb→w'.heap[b]?=w.heap[b]?):Rs E w' n g er:=⟨(hk _ (.inl rfl)).trans h.n,(hk _ (.inr (.inl rfl))).trans h.g,(hk _ (.inr (.inr rfl))).trans h.e⟩
def ws(E:eJ)(v7:BY)(ds:List Deferred)(a:Act):Prop:=a.defers=ds∧a.tmps.size=29∧a.tmps.getD 4 undef= .pointer (some ⟨E.nb,0,none⟩)∧a.tmps.getD 5 undef= .pointer (some ⟨E.gb,0,none⟩)∧a.tmps.getD 6 undef= .pointer (some ⟨E.eb,0,none⟩)∧a.tmps.getD 7 undef=v7
theorem ws.out{E:eJ}{v7:BY}{ds:List Deferred}{a:Act}(h:ws E v7 ds a):∃u:Nat→BY,a= {tmps:=#[u 0,u 1,u 2,u 3,.pointer (some ⟨E.nb,0,none⟩),.pointer (some ⟨E.gb,0,none⟩),.pointer (some ⟨E.eb,0,none⟩),v7,u 8,u 9,u 10,u 11,u 12,u 13,u 14,u 15,u 16,u 17,u 18,u 19,u 20,u 21,u 22,u 23,u 24,u 25,u 26,u 27,u 28],defers:=ds}:=by
 obtain⟨hd,hn,h4,h5,h6,h7⟩:=h;obtain⟨ts,ds'⟩:=a;dsimp only at hd hn h4 h5 h6 h7 ⊢;subst hd;refine⟨fun i=>ts.getD i undef,?_⟩;rw[← h4,← h5,← h6,← h7];have:ts=((List.range 29).map fun i=>ts.getD i undef).toArray:=by
  apply Array.ext
  ·simp[hn]
  ·intro i h1 h2;simp[Array.getD,h1]
 exact congrArg (fun t=>({tmps:=t,defers:=ds'}:Act)) this
def GO(E:eJ)(pb:Nat):Deferred:= {target:=.fn (.func 92) #[.pointer (some ⟨E.nb,0,none⟩),.pointer (some ⟨E.gb,0,none⟩),.pointer (some ⟨E.eb,0,none⟩),.pointer (some ⟨pb,0,none⟩)],args:=#[]}
structure PI(E:eJ)(pb p:Nat)(w0:By)(s:cZ)(w:By):Prop where
 ps:jx p E.r E.e E.cap E.tm w s
 bx:w.cell? ⟨pb,0,none⟩=some (.pointer (some ⟨p,0,none⟩))
 kp:Kp E.B [E.nb,E.gb,E.eb,E.r] w0 w
 lt:E.B≤p∧E.B≤pb∧pb≠p
theorem PI.ab{E:eJ}{pb p:Nat}{w0 w w':By}{s:cZ}(h:PI E pb p w0 s w)(he:w'.heap=w.heap):PI E pb p w0 s w':=⟨h.ps.ab he,by unfold Qn;rw[he];exact h.bx,h.kp.ab he,h.lt⟩
theorem AH{w w':By}{b:Nat}(h:w'.heap[b]?=w.heap[b]?)(i:Nat):w'.cell? ⟨b,i,none⟩=w.cell? ⟨b,i,none⟩:=by unfold Qn;rw[h]
theorem Jk{w:By}{b i:Nat}{v:BY}(h:w.cell? ⟨b,i,none⟩=some v):b<w.heap.size:=by
 rcases QD b w.heap.size with hlt|hge
 ·exact hlt
 ·unfold Qn at h;rw[Qx hge]at h;cases h
theorem PI.call{E:eJ}{pb p:Nat}{w0 w w':By}{s s':cZ}(h:PI E pb p w0 s w)(hr:E.r<E.B)(h0:jx p E.r E.e E.cap E.tm w' s')(hk:Kp w.heap.size [p,E.r] w w'):PI E pb p w0 s' w':=by
 obtain⟨h1,h2,h3⟩:=h.lt;have hlt:=Jk h.bx;refine⟨h0,(AH (hk.2 pb hlt (by simp;omega)) 0).trans h.bx,h.kp.trans (hk.mono (by have:=h.ps.lt;omega) fun x hx hlt=> ?_),h.lt⟩;simp only[IS,PU,or_false]at hx;rcases hx with rfl|rfl
 ·omega
 ·simp
theorem PI.set{E:eJ}{pb p b i:Nat}{v:BY}{w0 u:By}{s:cZ}(hI:PI E pb p w0 s u)(hb:b=E.nb∨b=E.gb∨b=E.eb)(hBl:E.nb<E.B∧E.gb<E.B∧E.eb<E.B)(hre:E.r≠E.nb∧E.r≠E.gb∧E.r≠E.eb):PI E pb p w0 s (u.setCell ⟨b,i,none⟩ v):=by
 have hbB:b<E.B:=by rcases hb with rfl|rfl|rfl<;>omega
 obtain⟨h1,h2,h3⟩:=hI.lt;have hfar:∀x,x≠b→(u.setCell ⟨b,i,none⟩ v).heap[x]?=u.heap[x]?:=fun x hx=>Below.heap_setCell u _ _ x hx
 refine⟨hI.ps.keep (hfar p (by omega)) (hfar E.r (by rcases hb with rfl|rfl|rfl<;>omega)),(AH (hfar pb (by omega)) 0).trans hI.bx,hI.kp.setCell (fun _=>by rcases hb with rfl|rfl|rfl<;>simp) v,hI.lt⟩
theorem Rs.call{E:eJ}{w w':By}{n g er:BY}{p:Nat}(h:Rs E w n g er)(hk:Kp w.heap.size [p,E.r] w w')(hB:E.nb<E.B∧E.gb<E.B∧E.eb<E.B)(hp:E.B≤p)(h0:E.r≠E.nb∧E.r≠E.gb∧E.r≠E.eb):Rs E w' n g er:=by
 obtain⟨h1,h2,h3⟩:=hB;obtain⟨k1,k2,k3⟩:=h0;refine⟨(hk.2 _ h.n.lt ?_).trans h.n,(hk.2 _ h.g.lt ?_).trans h.g,(hk.2 _ h.e.lt ?_).trans h.e⟩<;>(simp;omega)
def Came(E:eJ)(w:By)(x:cO Nd)(n g er:BY):Prop:=match x with
 | .ok nd s=>er= .nilIface∧g= .int .i64 s.g∧Repr w (fun b=>E.B≤b) n nd
 | .err y s=>n= .nilIface∧g= .int .i64 0∧∃q,er= .iface 133 (.pointer q)∧ErrAt E.e E.B w s.t.bad y q
def PQ(E:eJ)(pb p:Nat)(w0:By)(x:cO Nd)(e:Exit)(a:Act)(w:By):Prop:=match x with
 | .ok nd s=>e= .ret∧ws E (.pointer (some ⟨pb,0,none⟩)) [GO E pb] a∧PI E pb p w0 s w∧∃n,Rs E w n (.int .i64 s.g) .nilIface∧Repr w (fun b=>E.B≤b) n nd
 | .err y s=>ws E (.pointer (some ⟨pb,0,none⟩)) [GO E pb] a∧PI E pb p w0 s w∧∃q,e= .panic (thrown q)∧ErrAt E.e E.B w s.t.bad y q∧∃n g er,Rs E w n g er
set_option maxHeartbeats 4000000 in
set_option maxRecDepth 100000 in
theorem DG{p0 p1 p2 p4 p5 p6 p7 p8:Code}(hc:(Tryz.f53).body=some (.seq p0 (.seq p1 (.seq p2 (.seq p4 (.seq p5 (.seq p6 (.seq p7 p8))))))))
 {E:eJ} {pb p:Nat} {w0 w:By} {ts:List Tok} {x:cO Nd} {n0 g0 e0:BY} {a:Act} (hx:oa pu ts=some x) (h3:ws E (.pointer (some ⟨pb,0,none⟩)) [] a) (hI:PI E pb p w0 ⟨ts,pu,0,0⟩ w) (hR:Rs E w n0 g0 e0)
 (hne:E.nb≠E.gb∧E.nb≠E.eb∧E.gb≠E.eb) (h4:E.nb<E.B∧E.gb<E.B∧E.eb<E.B) (h8:E.r<E.B) (h5:E.r≠E.nb∧E.r≠E.gb∧E.r≠E.eb):
 cV (aK T) (.seq p4 (.seq p5 (.seq p6 (.seq p7 p8)))) (PQ E pb p w0 x) a w:=by
 cases hc;obtain⟨u,rfl⟩:=h3.out;clear h3;replace hI:=AI hI;replace hR:=AI hR;refine bP (fun a' w'=>ws E (.pointer (some ⟨pb,0,none⟩)) [GO E pb] a'∧PI E pb p w0 ⟨ts,pu,0,0⟩ w'∧Rs E w' n0 g0 e0) ?_ ?_
 ·refine ae (fun w1 he=> ?_);replace hI:=AI (hI.out.ab he);replace hR:=AI (hR.out.ab he);clear he;go_wp2;exact⟨⟨rfl,rfl,rfl,rfl,rfl,rfl⟩,hI.out,hR.out⟩
 intro a w1 ⟨h3,hI1,hR1⟩;obtain⟨u,rfl⟩:=h3.out;clear h3 hI hR;replace hI1:=AI hI1;replace hR1:=AI hR1;obtain⟨z,hz,h1⟩:∃z,cy ⟨ts,pu,0,0⟩=some z∧bL (some z) (fun _ s=>ic deep 0 s)=some x:=by
  unfold oa at hx;cases hp:cy ⟨ts,pu,0,0⟩with
  |none=>rw[hp]at hx;cases hx
  |some z=>rw[hp]at hx;exact⟨z,rfl,hx⟩
 refine ag (fun K hK=> ?_);refine aC ?_;show bo _ _ _ (IN 0 (1+1)) _ _;refine b8 0 1 1 (fun N hN w2 he=> ?_) (by decide);simp only[zq1];replace hI1:=AI (hI1.out.ab he);replace hR1:=AI (hR1.out.ab he);have c7:w2.cell? ⟨pb,0,none⟩=some (.pointer (some ⟨p,0,none⟩)):=hI1.out.bx;replace h1:=AI h1;clear he;go_wp2;refine hN.out _ _ ?_;clear hN N c7;refine bJ (f:=93) (i:=1) (rest:=[]) rfl rfl (fun u=>by simp[go_sem]) trivial (mp hz hI1.out.ps) (fun u2 w3 hr=> ?_) (fun ch w3 hr=> ?_);rotate_left
 ·obtain⟨hK3,hr⟩:=hr;cases z with
  |ok _ s2=>obtain⟨_,h⟩:=hr;cases h
  |err e2 s2=>
   obtain⟨rfl,hP3,hch⟩:=hr;cases hch;cases Option.some.inj h1.out;exact⟨⟨rfl,rfl,rfl,rfl,rfl,rfl⟩,hI1.out.call h8 hP3 hK3,_,rfl,rfl,_,_,_,hR1.out.call hK3 h4 hI1.out.lt.1 h5⟩
 obtain⟨hK3,hr⟩:=hr;cases z with
 |err e2 s2=>obtain⟨_,_,h⟩:=hr;cases h
 |ok _ s1=>
 have hI3:=AI (hI1.out.call h8 hr.1 hK3);have hR3:=AI (hR1.out.call hK3 h4 hI1.out.lt.1 h5);have h1:ic deep 0 s1=some x:=h1.out;clear hI1 hR1 hK3 hr;refine aZ (hK.out _ _ ?_);simp only[If,zq0];clear hK K;refine ag (fun K hK=> ?_);refine aC ?_;show bo _ _ _ (IN 0 (1+2)) _ _;refine b8 0 1 2 (fun N hN w4 he=> ?_) (by decide);simp only[zq1];replace hI3:=AI (hI3.out.ab he);replace hR3:=AI (hR3.out.ab he);have c7:w4.cell? ⟨pb,0,none⟩=some (.pointer (some ⟨p,0,none⟩)):=hI3.out.bx;replace h1:=AI h1;clear he;go_wp2;refine hN.out _ _ ?_;clear hN N c7;have ha:E.B≤w4.heap.size:=by have:=hI3.out.ps.lt.1;have:=hI3.out.lt.1;omega
 refine bJ (f:=94) (i:=1) (rest:=IN 2 (1+0)) rfl rfl (fun u=>by simp[go_sem]) trivial (Ic deep 0 s1 w4 x h1.out hI3.out.ps) (fun v w5 hr=> ?_) (fun ch w5 hr=> ?_);rotate_left
 ·cases x with
  |ok nd s2=>obtain⟨v,h,_⟩:=hr;cases h
  |err y s2=>
   obtain⟨q,h,h9,hK5,hE⟩:=hr;cases h;exact⟨⟨rfl,rfl,rfl,rfl,rfl,rfl⟩,hI3.out.call h8 h9 hK5,_,rfl,hE.mono ha,_,_,_,hR3.out.call hK5 h4 hI3.out.lt.1 h5⟩
 cases x with
 |err y s2=>obtain⟨q,h,_⟩:=hr;cases h
 |ok nd s2=>
 obtain⟨v',h,h9,hK5,hRp⟩:=hr;cases h;have hI5:=AI (hI3.out.call h8 h9 hK5);have hR5:=AI (hR3.out.call hK5 h4 hI3.out.lt.1 h5);replace hRp:=AI (hRp.mono (S':=fun b=>E.B≤b) fun b hb _=>PZ ha hb);clear hI3 hR3 h9 hK5 h1;simp only[If,zq0];obtain⟨vt,vq,rfl⟩:=hRp.out.form;refine b8 2 1 0 (fun N hN w6 he=> ?_) (by decide);simp only[zq1];replace hI5:=AI (hI5.out.ab he);replace hR5:=AI (hR5.out.ab he);replace hRp:=AI (hRp.out.keep (w':=w6) (fun b _ _=>by rw[he]));have cn:w6.cell? ⟨E.nb,0,none⟩=some _:=hR5.out.n.cell 0;have fn:∀i,w6.frozen? ⟨E.nb,i,none⟩=false:=hR5.out.n.frozen;clear he;go_wp2;refine hN.out _ _ (aZ (hK.out _ _ ?_));clear hN N hK K cn fn;have hset:=fun(b i:Nat)(v:BY)(u:By)(hI:PI E pb p w0 s2 u)(hb:b=E.nb∨b=E.gb∨b=E.eb)=>PI.set (b:=b) (i:=i) (v:=v) hI hb h4 h5
 have hI7:=AI (hset E.nb 0 (.iface vt (.pointer (some ⟨vq,0,none⟩))) w6 hI5.out (.inl rfl));have h0:Rs E (w6.setCell ⟨E.nb,0,none⟩ (.iface vt (.pointer (some ⟨vq,0,none⟩)))) (.iface vt (.pointer (some ⟨vq,0,none⟩))) g0 e0:=⟨hR5.out.n.ci 0 _,hR5.out.g.far (PX hne.1) _,hR5.out.e.far (PX hne.2.1) _⟩;have h2:Repr (w6.setCell ⟨E.nb,0,none⟩ (.iface vt (.pointer (some ⟨vq,0,none⟩)))) (fun b=>E.B≤b) (.iface vt (.pointer (some ⟨vq,0,none⟩))) nd:=hRp.out.keep fun b hb _=>Below.heap_setCell _ _ _ b (by dsimp only;omega)
 replace h0:=AI h0;replace h2:=AI h2;clear hI5 hR5 hRp;generalize w6.setCell ⟨E.nb,0,none⟩ (.iface vt (.pointer (some ⟨vq,0,none⟩)))=w7 at *;clear w6;refine ag (fun M hM=> ?_);refine ae (fun w8 he=> ?_);have c7:w8.cell? ⟨pb,0,none⟩=some (.pointer (some ⟨p,0,none⟩)):=(hI7.out.ab he).bx;have cp:w8.cell? ⟨p,11,none⟩=some (.int .i64 s2.g):=(hI7.out.ab he).ps.blk.cell 11;replace hI7:=AI (hI7.out.ab he);replace h0:=AI (h0.out.ab he);replace h2:=AI (h2.out.keep (w':=w8) (fun b _ _=>by rw[he]));have cn:w8.cell? ⟨E.nb,0,none⟩=some _:=h0.out.n.cell 0;have fn:∀i,w8.frozen? ⟨E.nb,i,none⟩=false:=h0.out.n.frozen;have cg:w8.cell? ⟨E.gb,0,none⟩=some _:=h0.out.g.cell 0;have fg:∀i,w8.frozen? ⟨E.gb,i,none⟩=false:=h0.out.g.frozen;have ce:w8.cell? ⟨E.eb,0,none⟩=some _:=h0.out.e.cell 0;have fe:∀i,w8.frozen? ⟨E.eb,i,none⟩=false:=h0.out.e.frozen;have n1:=hne.1;have n2:=hne.2.1;have n3:=hne.2.2;have n4:=PX n1;have n5:=PX n2;have n6:=PX n3;have hd:p≠E.nb:=by have:=hI7.out.lt.1;omega
 have hqn:pb≠E.nb:=by have:=hI7.out.lt.2.1;omega
 clear he;go_wp2;go_region
 go_wp2;refine hM.out _ _ ?_;clear hM M cn fn cg fg ce fe c7 cp hd hqn;have h6:=hset E.eb 0 .nilIface _ (hset E.gb 0 (.int .i64 s2.g) _ (hset E.nb 0 (.iface vt (.pointer (some ⟨vq,0,none⟩))) w8 hI7.out (.inl rfl)) (.inr (.inl rfl))) (.inr (.inr rfl));have h7:Rs E (((w8.setCell ⟨E.nb,0,none⟩ (.iface vt (.pointer (some ⟨vq,0,none⟩)))).setCell ⟨E.gb,0,none⟩ (.int .i64 s2.g)).setCell ⟨E.eb,0,none⟩ .nilIface) (.iface vt (.pointer (some ⟨vq,0,none⟩))) (.int .i64 s2.g) .nilIface:=
  ⟨((h0.out.n.ci 0 _).far n1 _).far n2 _,((h0.out.g.far n4 _).ci 0 _).far n3 _,((h0.out.e.far n5 _).far n6 _).ci 0 _⟩
 have hRp9:Repr (((w8.setCell ⟨E.nb,0,none⟩ (.iface vt (.pointer (some ⟨vq,0,none⟩)))).setCell ⟨E.gb,0,none⟩ (.int .i64 s2.g)).setCell ⟨E.eb,0,none⟩ .nilIface) (fun b=>E.B≤b) (.iface vt (.pointer (some ⟨vq,0,none⟩))) nd:=
  h2.out.keep fun b hb _=>(Below.heap_setCell _ _ _ b (by dsimp only;omega)).trans ((Below.heap_setCell _ _ _ b (by dsimp only;omega)).trans (Below.heap_setCell _ _ _ b (by dsimp only;omega)))
 replace h6:=AI h6;replace h7:=AI h7;replace hRp9:=AI hRp9;clear hI7 h0 h2 hset n1 n2 n3 n4 n5 n6;generalize PK (PK (PK _ _ _) _ _) _ _=w9 at *;refine ae (fun wa he=> ?_);replace h6:=AI (h6.out.ab he);replace h7:=AI (h7.out.ab he);replace hRp9:=AI (hRp9.out.keep (w':=wa) (fun b _ _=>by rw[he];rfl));clear he;go_wp2;exact⟨rfl,⟨rfl,rfl,rfl,rfl,rfl,rfl⟩,h6.out,_,h7.out,hRp9.out⟩
end
section
open Go.RowKit
attribute [local instance] dP
variable{T:bw PA}
theorem HT{P:QA}{b:Q9}{a:Act}{ops:Array Oper}{i:Nat}{rest:List Nat}{o:Oper}{k:List Item}{cs cs':List Q9}{v:BY}{w:By}(hb:b.kind= .deferred)(hro:b.roundOf=none)(ho:ops[i]?=some o)(hw:Region.wanted o (yielded ops a.tmps)=true)
 (hr:(execOp a.eval o).run P w= .ok .recover w) (hv:recoverD cs=some (v,cs')∨(recoverD cs=none∧v= .nilIface∧cs'=cs)):
 step P (lone (b.at a (.inRegion ops (i::rest)::k)) cs w)= .next (lone (b.at (a.put o.dst v) (.inRegion ops rest::k)) cs' w):=by
 have hg:=stepG_op (P:=P) (b:=b) (k:=k) (cs:=cs) (w:=w) (rest:=rest) ho hw;have hfin:∀v,(b.at a (.inRegion ops (i::rest)::k)).finish v=b.at (a.put o.dst v) (.inRegion ops rest::k):=fun v=>by rw[Qu,ho];rfl
 have hk:(b.at a (.inRegion ops (i::rest)::k)).kind= .deferred:=hb;have htr:=tryRecover_deferred hk cs;refine step_lone_go ?_;rw[hg,← hfin];simp only[Frame.at]at htr ⊢;rcases hv with hv|⟨hv,rfl,rfl⟩
 ·simp[stepG.apply,hr,htr,hv,hro]
 ·simp[stepG.apply,hr,htr,hv,hro]
section
variable{P:QA}{D:eQ P}{K:Goroutine→By→Prop}{c:Code}{a:Act}{w:By}{b:Q9}{k:List Item}{cs:List Q9}{ops:Array Oper}{l:List Nat}
theorem rD{M:Act→By→Prop}(h:cV D c (fun e a w=>e= .normal∧M a w) a w)(hok:D.okF b.fn)(hk:b.kind≠.early)(hn:∀a w,M a w→D.H K (bY (b.at a k) cs) w):D.H K (bY (b.at a (.code c::k)) cs) w:=
 h b k cs K hok hk fun e a' w' ⟨he,hm⟩=>by subst he;exact hn _ _ hm
theorem qJ{M:Act→By→Prop}(h:bo D ops (fun e a w=>e= .normal∧M a w) l a w)(hok:D.okF b.fn)(hk:b.kind≠.early)(hn:∀a w,M a w→D.H K (bY (b.at a k) cs) w):D.H K (bY (b.at a (.inRegion ops l::k)) cs) w:=
 h b k cs K hok hk fun e a' w' ⟨he,hm⟩=>by subst he;exact hn _ _ hm
end
def QF(v0 v1 v2 v3:BY)(a:Act):Prop:=a.defers=[]∧a.tmps.size=17∧a.tmps.getD 0 undef=v0∧a.tmps.getD 1 undef=v1∧a.tmps.getD 2 undef=v2∧a.tmps.getD 3 undef=v3
theorem QF.out{v0 v1 v2 v3:BY}{a:Act}(h:QF v0 v1 v2 v3 a):∃u:Nat→BY,a= {tmps:=(v0::v1::v2::v3::u 4::u 5::u 6::u 7::u 8::u 9::u 10::u 11::u 12::u 13::u 14::u 15::u 16::[]).toArray,defers:=[]}:=by
 obtain⟨hd,hn,rfl,rfl,rfl,rfl⟩:=h;obtain⟨ts,ds⟩:=a;dsimp only at hd hn ⊢;subst hd;refine⟨fun i=>ts.getD i undef,?_⟩;exact congrArg (fun t=>({tmps:=t,defers:=[]}:Act)) (du 17 ts hn)
def QG(v0 v1 v2 v3 v14:BY)(a:Act):Prop:=a.defers=[]∧a.tmps.size=17∧a.tmps.getD 0 undef=v0∧a.tmps.getD 1 undef=v1∧a.tmps.getD 2 undef=v2∧a.tmps.getD 3 undef=v3∧a.tmps.getD 14 undef=v14
theorem QG.out{v0 v1 v2 v3 v14:BY}{a:Act}(h:QG v0 v1 v2 v3 v14 a):∃u:Nat→BY,a= {tmps:=(v0::v1::v2::v3::u 4::u 5::u 6::u 7::u 8::u 9::u 10::u 11::u 12::u 13::v14::u 15::u 16::[]).toArray,defers:=[]}:=by
 obtain⟨hd,hn,rfl,rfl,rfl,rfl,rfl⟩:=h;obtain⟨ts,ds⟩:=a;dsimp only at hd hn ⊢;subst hd;refine⟨fun i=>ts.getD i undef,?_⟩;exact congrArg (fun t=>({tmps:=t,defers:=[]}:Act)) (du 17 ts hn)
abbrev vp(b:Nat):BY:=.pointer (some ⟨b,0,none⟩)
structure Jr(E:eJ)(PF:Q9):Prop where
 fn:PF.fn=53
 kind:PF.kind= .normal
 round:PF.roundOf=none
 defers:PF.defers=[]
 mode:PF.mode= .returning∨∃v,PF.mode= .panicking [{v:=v,recovered:=true}]
 size:PF.tmps.size=29
 s4:PF.tmps.getD 4 undef=vp E.nb
 s5:PF.tmps.getD 5 undef=vp E.gb
 s6:PF.tmps.getD 6 undef=vp E.eb
structure Fin(E:eJ)(w0:By)(x:cO Nd)(w:By):Prop where
 kp:Kp E.B [E.nb,E.gb,E.eb,E.r] w0 w
 came:∃n g er,Rs E w n g er∧Came E w x n g er
theorem ErrAt.keep{e B:Nat}{w w':By}{bad:Bool}{x:uL}{q:Option Addr}(h:ErrAt e B w bad x q)(hk:∀b,B≤b→b<w.heap.size→w'.heap[b]?=w.heap[b]?):ErrAt e B w' bad x q:=by
 cases x with
 |tok=>exact h
 |own k a=>obtain⟨q,h1,h2,h3⟩:=h;exact⟨q,h1,h2,(hk q h2 h3.lt).trans h3⟩
theorem Came.keep{E:eJ}{w w':By}{x:cO Nd}{n g er:BY}(h:Came E w x n g er)(hk:∀b,E.B≤b→b<w.heap.size→w'.heap[b]?=w.heap[b]?):Came E w' x n g er:=by
 cases x with
 |ok nd s=>exact⟨h.1,h.2.1,h.2.2.keep fun b hb hlt=>hk b hb hlt⟩
 |err y s=>obtain⟨h1,h2,q,h3,h4⟩:=h;exact⟨h1,h2,q,h3,h4.keep hk⟩
theorem Fin.ab{E:eJ}{w0 w w':By}{x:cO Nd}(h:Fin E w0 x w)(he:w'.heap=w.heap):Fin E w0 x w':=by
 obtain⟨n,g,er,h1,h2⟩:=h.came;exact⟨h.kp.ab he,n,g,er,h1.ab he,h2.keep fun b _ _=>by rw[he]⟩
theorem Fin.ay{E:eJ}{w0 w:By}{x:cO Nd}(h:Fin E w0 x w){o:Obj}(ho:w.heap[E.r]?=some o)(hr:E.r<E.B)(o':Obj)(hne:E.r≠E.nb∧E.r≠E.gb∧E.r≠E.eb):Fin E w0 x (ay w E.r o'):=by
 obtain⟨n,g,er,h1,h2⟩:=h.came;have hk:∀b,b≠E.r→(Go.Proofs.YtkgohmcmmcpigaaGreatDoor.ay w E.r o').heap[b]?=w.heap[b]?:=fun b hb=>by
  show(w.heap.setIfInBounds E.r o')[b]?=_;rw[Q3 (PX hb)]
 exact⟨h.kp.ay (fun _=>by simp) o',n,g,er,h1.keep fun b hb=>hk b (hb.elim (fun e=>e▸PX hne.1) fun hb=>hb.elim (fun e=>e▸PX hne.2.1) fun e=>e▸PX hne.2.2),h2.keep fun b hb _=>hk b (by omega)⟩
def pf:Q9:= {(default:Q9)with fn:=92,kind:=.deferred}
def pq(E:eJ)(ops:Array Oper)(k:List Item)(D0:Q9)(w0:By)(x:cO Nd)(g:Goroutine)(w:By):Prop:=
 ∃a PF pb,g=bY (pf.at a (.inRegion ops [0,1]::k)) [PF,D0]∧QG (vp E.nb) (vp E.gb) (vp E.eb) (vp pb) (.chan (some E.r)) a∧Jr E PF∧(∃s rc,w.heap[E.r]?=some (.chan E.cap #[] false s rc E.tm))∧Fin E w0 x w
set_option maxRecDepth 100000 in
theorem drain{q0 q1 q2 q3 cQ:Code}{i iQ:Nat}{ops:Array Oper}(hc:(Tryz.f92).body=some (.seq (.seq q0 (.seq q1 q2)) (.seq q3 (.block i (.loop (.seq (.region iQ ops false) cQ))))))
 {E:eJ} {D0 PF:Q9} {pb:Nat} {w0:By} {x:cO Nd} (hPF:Jr E PF) (hr:E.r<E.B) (hne:E.r≠E.nb∧E.r≠E.gb∧E.r≠E.eb):∀(ts:List Tok)(a:Act)(w:By)(s rc:Nat),QG (vp E.nb) (vp E.gb) (vp E.eb) (vp pb) (.chan (some E.r)) a→w.heap[E.r]?=some (.chan E.cap (ts.map (Tok.val E.e)).toArray false s rc E.tm)→Fin E w0 x w→
 (aK T).H (pq E ops [.code cQ,.inLoop (.seq (.region iQ ops false) cQ),.inBlock i] D0 w0 x) (bY (pf.at a (.code (.seq (.region iQ ops false) cQ)::[.inLoop (.seq (.region iQ ops false) cQ),.inBlock i])) [PF,D0]) w:=by
 cases hc;intro ts;induction ts with
 |nil=>
  intro a w s rc ha hch hF;refine(aK T).one (fun u=>step_seq) trivial ((aK T).one (fun u=>step_region) trivial ((aK T).stop _ _ _ ?_));exact⟨a,PF,pb,rfl,ha,hPF,⟨s,rc,hch⟩,hF⟩
 |cons t ts ih=>
  intro a w s rc ha hch hF;refine(aK T).one (fun u=>step_seq) trivial ((aK T).one (fun u=>step_region) trivial ?_);obtain⟨u,rfl⟩:=ha.out;clear ha;have hF2:=hF.ay hch hr (.chan E.cap (ts.map (Tok.val E.e)).toArray false s (rc+1) E.tm) hne;refine qJ (M:=fun a w=>QG (vp E.nb) (vp E.gb) (vp E.eb) (vp pb) (.chan (some E.r)) a∧a.tmps.getD 16 undef= .bool true∧w.heap[E.r]?=some (.chan E.cap (ts.map (Tok.val E.e)).toArray false s (rc+1) E.tm)∧Fin E w0 x w) ?_ trivial (by simp[pf]) ?_
  ·refine xP (i:=0) (rest:=IN 1 (1+0)) (v:=Tok.val E.e t) rfl rfl (PA.recv E.r rfl rfl) (by rw[hch];rfl) ?_;refine b8 1 1 0 (fun N hN w2 he=> ?_) (by decide);simp only[zq1];have hch2:=(congrArg (·[E.r]?) he).trans (qU (o:=.chan E.cap (ts.map (Tok.val E.e)).toArray false s (rc+1) E.tm) hch);replace hF2:=AI (hF2.ab he);replace hch2:=AI hch2;clear he hch hF;simp only[If,if_true];go_wp2;refine hN.out _ _ (aZ ⟨rfl,?_⟩);exact⟨⟨rfl,rfl,rfl,rfl,rfl,rfl,rfl⟩,rfl,hch2.out,hF2.out⟩
  ·intro a w2 ⟨ha,h0,hch2,h1⟩;refine(aK T).one (fun u=>step_seq) trivial ((aK T).one (fun u=>step_cond (t:=true) h0) trivial ((aK T).one (fun u=>step_skip) trivial ?_));refine(aK T).one (fun u=>step_block) trivial ((aK T).one (fun u=>step_skip) trivial ((aK T).one (fun u=>step_inBlock) trivial ((aK T).one (fun u=>step_inLoop) trivial ?_)));exact ih a w2 s (rc+1) ha hch2 h1
end
section
open Go.RowKit
attribute [local instance] dP
variable{T:bw PA}
def QR(v0 v1 v2 v3 v4:BY)(a:Act):Prop:=a.defers=[]∧a.tmps.size=17∧a.tmps.getD 0 undef=v0∧a.tmps.getD 1 undef=v1∧a.tmps.getD 2 undef=v2∧a.tmps.getD 3 undef=v3∧a.tmps.getD 4 undef=v4
theorem QR.out{v0 v1 v2 v3 v4:BY}{a:Act}(h:QR v0 v1 v2 v3 v4 a):∃u:Nat→BY,a= {tmps:=(v0::v1::v2::v3::v4::u 5::u 6::u 7::u 8::u 9::u 10::u 11::u 12::u 13::u 14::u 15::u 16::[]).toArray,defers:=[]}:=by
 obtain⟨hd,hn,rfl,rfl,rfl,rfl,rfl⟩:=h;obtain⟨ts,ds⟩:=a;dsimp only at hd hn ⊢;subst hd;refine⟨fun i=>ts.getD i undef,?_⟩;exact congrArg (fun t=>({tmps:=t,defers:=[]}:Act)) (du 17 ts hn)
@[go_sem] theorem Ni(q:Option Addr)(w:By):(QK (.iface 133 (.pointer q)) 20 133 false).run PA w= .ok (.pointer q) w:=by
 unfold QK;simp[go_sem]
def gi:Q9:= {(default:Q9)with fn:=53,kind:=.normal}
theorem zP{E:eJ}{pb:Nat}{c:Code}(hc:(Tryz.f92).body=some c):QJ PA 92 #[vp E.nb,vp E.gb,vp E.eb,vp pb] .deferred=pf.at {tmps:=#[vp E.nb,vp E.gb,vp E.eb,vp pb]++Qv (17-4) undef,defers:=[]} [.code c]:=by
 have hf:=PA.func Tryz.func92 (by decide);simp[QJ,Frame.at,hf,hc,pf,Tryz.ntmps92]
set_option maxHeartbeats 4000000 in
set_option maxRecDepth 100000 in
theorem FR{q0 q1 q2 q3 cQ:Code}{i iQ:Nat}{ops:Array Oper}(hc:(Tryz.f92).body=some (.seq (.seq q0 (.seq q1 q2)) (.seq q3 (.block i (.loop (.seq (.region iQ ops false) cQ))))))
 {E:eJ} {D0:Q9} {pb p:Nat} {w0 w:By} {x:cO Nd} {e:Exit} {a:Act} {fr:Q9} (hr:E.r<E.B) (hg:E.r≠E.nb∧E.r≠E.gb∧E.r≠E.eb) (hne:E.nb≠E.gb∧E.nb≠E.eb∧E.gb≠E.eb) (hh:E.nb<E.B∧E.gb<E.B∧E.eb<E.B)
 (h:PQ E pb p w0 x e a w) (todo:List Item) (h8:(e= .ret∧fr= {gi.at a todo with mode:=.returning})∨∃ch,e= .panic ch∧fr= {gi.at a todo with mode:=.panicking ch}):
 (aK T).H (pq E ops [.code cQ,.inLoop (.seq (.region iQ ops false) cQ),.inBlock i] D0 w0 x) (bY fr [D0]) w:=by
 have hent:= @zP E pb _ hc;have ha:=fun PF hPF=> @drain T _ _ _ _ _ _ _ _ hc E D0 PF pb w0 x hPF hr hg
 replace ha:=AI ha;cases hc;obtain⟨s,hd,h0,h9⟩:∃s,PI E pb p w0 s w∧ws E (vp pb) [GO E pb] a∧((∃nd n,x= .ok nd s∧e= .ret∧Rs E w n (.int .i64 s.g) .nilIface∧Repr w (fun b=>E.B≤b) n nd)∨∃y q n g er,x= .err y s∧e= .panic (thrown q)∧ErrAt E.e E.B w s.t.bad y q∧Rs E w n g er):=by
  cases x with
  |ok nd s=>obtain⟨h1,h2,h3,n,h4,h5⟩:=h;exact⟨s,h3,h2,.inl ⟨nd,n,rfl,h1,h4,h5⟩⟩
  |err y s=>obtain⟨h2,h3,q,h1,h4,n,g,er,h5⟩:=h;exact⟨s,h3,h2,.inr ⟨y,q,n,g,er,rfl,h1,h4,h5⟩⟩
 have hfa:fr.fn=53∧fr.kind= .normal∧fr.roundOf=none∧fr.defers=[GO E pb]∧fr.tmps=a.tmps∧fr.mode≠.run:=by
  rcases h8 with⟨_,rfl⟩|⟨ch,_,rfl⟩<;>exact⟨rfl,rfl,rfl,h0.1,rfl,by simp⟩
 obtain⟨f1,f2,f3,f4,f5,f6⟩:=hfa;refine(aK T).one (fr':=QJ PA 92 #[vp E.nb,vp E.gb,vp E.eb,vp pb] .deferred) (cs':= {fr with defers:=[]}::[D0]) (fun u=>step_defer f6 f4 rfl ?_) trivial ?_
 ·exact ao (PA.func Tryz.func92 (by decide)) (by kernel_rfl) rfl _ u
 rw[hent];refine(aK T).one (fun u=>step_seq) trivial ((aK T).one (fun u=>step_seq) trivial ((aK T).one (fun u=>step_region) trivial ?_));obtain⟨PF,v,hPF,hi,hv⟩:∃PF v,Jr E PF∧(recoverD [{fr with defers:=[]},D0]=some (v,[PF,D0])∨(recoverD [{fr with defers:=[]},D0]=none∧v= .nilIface∧[PF,D0]=[{fr with defers:=[]},D0]))∧
  ((e= .ret∧v= .nilIface)∨∃q,e= .panic (thrown q)∧v= .iface 133 (.pointer q)):=by
  rcases h8 with⟨he,h8⟩|⟨ch,he,h8⟩
  ·refine⟨{fr with defers:=[]},.nilIface,⟨f1,f2,f3,rfl,.inl (by rw[h8]),by rw[f5];exact h0.2.1,by rw[f5];exact h0.2.2.1,by rw[f5];exact h0.2.2.2.1,by rw[f5];exact h0.2.2.2.2.1⟩,.inr ⟨?_,rfl,rfl⟩,.inl ⟨he,rfl⟩⟩;rw[h8];rfl
  ·rcases h9 with⟨nd,n,_,h1,_⟩|⟨y,q,n,g,er,_,h1,_⟩
   ·rw[h1]at he;cases he
   ·rw[h1]at he;cases he;refine⟨{fr with defers:=[],mode:=.panicking [{v:=.iface 133 (.pointer q),recovered:=true}]},.iface 133 (.pointer q),⟨f1,f2,f3,rfl,.inr ⟨_,rfl⟩,by rw[f5];exact h0.2.1,by rw[f5];exact h0.2.2.1,by rw[f5];exact h0.2.2.2.1,by rw[f5];exact h0.2.2.2.2.1⟩,.inl ?_,.inr ⟨q,h1,rfl⟩⟩;rw[h8];rfl
 refine(aK T).one (fun u=>HT (i:=0) rfl rfl rfl rfl ?_ hi) trivial ?_
 ·simp[execOp,go_sem]
 clear h8 hi f1 f2 f3 f4 f5 f6 hent;refine qJ (M:=fun a w'=>QR (vp E.nb) (vp E.gb) (vp E.eb) (vp pb) v a∧w'.heap=w.heap) ?_ trivial (by simp[pf]) ?_
 ·show bo _ _ _ (IN 1 (1+0)) _ _;refine b8 1 1 0 (fun N hN w2 he=> ?_) (by decide);simp only[zq1];simp only[PP,IT,PO,Q5,Q4,PE,PD,PR,PJ,PY,PV,If,PL,Q8,Q7];clear hd h9 h;go_wp2;refine hN.out _ _ (aZ ⟨rfl,⟨rfl,rfl,rfl,rfl,rfl,rfl,rfl⟩,he⟩)
 intro a1 w1 ⟨hm,hf⟩;obtain⟨u,rfl⟩:=hm.out;have h6:=AI (hd.ab hf);replace ha:=AI (ha.out PF hPF);refine rD (M:=fun a w'=>QF (vp E.nb) (vp E.gb) (vp E.eb) (vp pb) a∧PI E pb p w0 s w'∧∃n g er,Rs E w' n g er∧Came E w' x n g er) ?_ trivial (by simp[pf]) ?_
 ·rcases h9 with⟨nd,n,hx,h1,h2,h3⟩|⟨y,q,n,g,er,hx,h1,h2,h3⟩
  ·have hn:v= .nilIface:=by
    rcases hv with⟨_,h⟩|⟨q,h,_⟩
    ·exact h
    ·rw[h1]at h;cases h
   subst hn;subst hx;refine ae (fun w2 he=> ?_);have hC:∃n g er,Rs E w2 n g er∧Came E w2 (.ok nd s) n g er:=⟨n,_,_,h2.ab (he.trans hf),rfl,rfl,h3.keep fun b _ _=>by rw[he,hf]⟩;replace h6:=AI (h6.out.ab he);replace hC:=AI hC;clear he hv h2 h3 h hd h1 h0;go_wp2;refine⟨?_,h6.out,hC.out⟩;exact⟨rfl,rfl,rfl,rfl,rfl,rfl⟩
  ·obtain⟨q',hj,rfl⟩:∃q',Exit.panic (thrown q)= .panic (thrown q')∧v= .iface 133 (.pointer q'):=by
    rcases hv with⟨h,_⟩|⟨q',h,hv⟩
    ·rw[h1]at h;cases h
    ·exact⟨q',h1.symm.trans h,hv⟩
   obtain rfl:q=q':=by
    simp only[thrown,Exit.panic.injEq,List.cons.injEq,PanicEntry.mk.injEq,Value.iface.injEq,Value.pointer.injEq,true_and,and_true]at hj;exact hj
   subst hx;refine ae (fun w2 he=> ?_);have hR2:=h3.ab (he.trans hf);have hk:ErrAt E.e E.B w2 s.t.bad y q:=h2.keep fun b _ _=>by rw[he,hf]
   replace h6:=AI (h6.out.ab he);have cn:w2.cell? ⟨E.nb,0,none⟩=some _:=hR2.n.cell 0;have fn:∀i,w2.frozen? ⟨E.nb,i,none⟩=false:=hR2.n.frozen;have cg:w2.cell? ⟨E.gb,0,none⟩=some _:=hR2.g.cell 0;have fg:∀i,w2.frozen? ⟨E.gb,i,none⟩=false:=hR2.g.frozen;have ce:w2.cell? ⟨E.eb,0,none⟩=some _:=hR2.e.cell 0;have fe:∀i,w2.frozen? ⟨E.eb,i,none⟩=false:=hR2.e.frozen;have n1:=hne.1;have n2:=hne.2.1;have n3:=hne.2.2;have n4:=PX n1;have n5:=PX n2;have n6:=PX n3;replace hR2:=AI hR2;replace hk:=AI hk;clear he hv h2 h3 h hd h1 hj h0;go_wp2;go_region
   go_wp2;clear cn fn cg fg ce fe;have ho:PI E pb p w0 s (((w2.setCell ⟨E.nb,0,none⟩ .nilIface).setCell ⟨E.gb,0,none⟩ (.int .i64 0)).setCell ⟨E.eb,0,none⟩ (.iface 133 (.pointer q))):=((h6.out.set (.inl rfl) hh hg).set (.inr (.inl rfl)) hh hg).set (.inr (.inr rfl)) hh hg;have hp:Rs E (((w2.setCell ⟨E.nb,0,none⟩ .nilIface).setCell ⟨E.gb,0,none⟩ (.int .i64 0)).setCell ⟨E.eb,0,none⟩ (.iface 133 (.pointer q))) .nilIface (.int .i64 0) (.iface 133 (.pointer q)):=
    ⟨((hR2.out.n.ci 0 _).far n1 _).far n2 _,((hR2.out.g.far n4 _).ci 0 _).far n3 _,((hR2.out.e.far n5 _).far n6 _).ci 0 _⟩
   have hE9:ErrAt E.e E.B (((w2.setCell ⟨E.nb,0,none⟩ .nilIface).setCell ⟨E.gb,0,none⟩ (.int .i64 0)).setCell ⟨E.eb,0,none⟩ (.iface 133 (.pointer q))) s.t.bad y q:=
    hk.out.keep fun b hb _=>(Below.heap_setCell _ _ _ b (by dsimp only;omega)).trans ((Below.heap_setCell _ _ _ b (by dsimp only;omega)).trans (Below.heap_setCell _ _ _ b (by dsimp only;omega)))
   refine⟨?_,ho.ab rfl,_,_,_,hp.ab rfl,rfl,rfl,q,rfl,hE9.keep fun _ _ _=>rfl⟩;exact⟨rfl,rfl,rfl,rfl,rfl,rfl⟩
 intro a2 w2 ⟨hq,hl,hC2⟩;obtain⟨u,rfl⟩:=hq.out;refine(aK T).one (fun u=>step_seq) trivial ?_;refine rD (M:=fun a w'=>QG (vp E.nb) (vp E.gb) (vp E.eb) (vp pb) (.chan (some E.r)) a∧PI E pb p w0 s w'∧∃n g er,Rs E w' n g er∧Came E w' x n g er) ?_ trivial (by simp[pf]) ?_
 ·refine ae (fun w3 he=> ?_);have hC:∃n g er,Rs E w3 n g er∧Came E w3 x n g er:=by
   obtain⟨n,g,er,k1,k2⟩:=hC2;exact⟨n,g,er,k1.ab he,k2.keep fun b _ _=>by rw[he]⟩
  have h7:=AI (hl.ab he);have c1:w3.cell? ⟨pb,0,none⟩=some (.pointer (some ⟨p,0,none⟩)):=h7.out.bx;have c2:w3.cell? ⟨p,0,none⟩=some (.chan (some E.r)):=h7.out.ps.blk.cell 0;replace hC:=AI hC;clear he hl hC2 h9 hd h h6;go_wp2;refine⟨?_,h7.out,hC.out⟩;exact⟨rfl,rfl,rfl,rfl,rfl,rfl,rfl⟩
 intro a3 w3 ⟨hs,h7,hC3⟩;refine(aK T).one (fun u=>step_block) trivial ((aK T).one (fun u=>step_loop) trivial ?_);obtain⟨sn,rc,hch⟩:=h7.ps.chan;exact ha.out s.ts a3 w3 sn rc hs hch ⟨h7.kp,hC3⟩
end
section
open Go.RowKit
attribute [local instance] dP
variable{T:bw PA}
def Hc(v5:BY)(a:Act):Prop:=a.defers=[]∧a.tmps.size=18∧a.tmps.getD 5 undef=v5
theorem Hc.out{v5:BY}{a:Act}(h:Hc v5 a):∃u:Nat→BY,a= {tmps:=(u 0::u 1::u 2::u 3::u 4::v5::u 6::u 7::u 8::u 9::u 10::u 11::u 12::u 13::u 14::u 15::u 16::u 17::[]).toArray,defers:=[]}:=by
 obtain⟨hd,hn,rfl⟩:=h;obtain⟨ts,ds⟩:=a;dsimp only at hd hn ⊢;subst hd;refine⟨fun i=>ts.getD i undef,?_⟩;exact congrArg (fun t=>({tmps:=t,defers:=[]}:Act)) (du 18 ts hn)
def oz:Q9:= {(default:Q9)with fn:=91,kind:=.normal}
theorem EV:PA.funcs[91]?=some (aw bA 91 Tryz.f91):=by
 have:= @fN Tryz.prog bA 91;rw[this,Tryz.func91];rfl
theorem wF(ts:Array BY):results (aw bA 91 Tryz.f91) ts=results Tryz.f91 ts:=by
 unfold results;rw[lI]
set_option maxRecDepth 100000 in
theorem CR{t0 t1 t2 t4 t5:Code}{iT:Nat}{opsT:Array Oper}(hT:(Tryz.f91).body=some (.seq t0 (.seq t1 (.seq t2 (.seq (.region iT opsT false) (.seq t4 t5)))))){ob r:Nat}{w:By}{aT:Act}(ho:w.cell? ⟨ob,0,none⟩=some (.chan (some r)))(h0:Hc (vp ob) aT):
 cV (aK T) (.seq t4 t5) (bodyPost PA Tryz.f91 fun e w'=>e= .returned (.chan (some r))∧w'.heap=w.heap) aT w:=by
 cases hT;obtain⟨u,rfl⟩:=h0.out;refine ae (fun w1 he=> ?_);have c5:w1.cell? ⟨ob,0,none⟩=some (.chan (some r)):=by unfold Qn at *;rw[he];exact ho
 replace he:=AI he;clear h0 ho;go_wp2;go_ret;exact⟨rfl,he.out⟩
theorem Gb{P:QA}{D:eQ P}{K:Goroutine→By→Prop}{fr b:Q9}{a:Act}{ops:Array Oper}{i:Nat}{rest:List Nat}{k:List Item}{cs:List Q9}{w:By}{v:BY}{o:Oper}(hl:fr.leaving P w (.returned v))(ho:ops[i]?=some o)(hok:D.okF b.fn)
 (h:D.H K (bY (b.at (a.put o.dst v) (.inRegion ops rest::k)) cs) w):D.H K (bY fr (b.at a (.inRegion ops (i::rest)::k)::cs)) w:=by
 refine D.go fun τ d=>dL (.one (step_leave_returned (tU hl τ d))) ⟨⟨rfl,?_⟩,?_⟩
 ·rw[Qu];exact hok
 ·have:(b.at a (.inRegion ops (i::rest)::k)).finish v=b.at (a.put o.dst v) (.inRegion ops rest::k):=by rw[Qu,ho];rfl
  rw[this];exact D.er h τ d
set_option maxHeartbeats 4000000 in
set_option maxRecDepth 100000 in
theorem DE{t0 t1 t2 t4 t5 p0 p1 p4 p5 p6 p7 p8 q0 q1 q2 q3 cQ:Code}{i iT iP iQ:Nat}{opsT opsP opsQ:Array Oper}
 (hT:(Tryz.f91).body=some (.seq t0 (.seq t1 (.seq t2 (.seq (.region iT opsT false) (.seq t4 t5))))))
 (hP:(Tryz.f53).body=some (.seq p0 (.seq p1 (.seq (.region iP opsP false) (.seq p4 (.seq p5 (.seq p6 (.seq p7 p8))))))))
 (hQ:(Tryz.f92).body=some (.seq (.seq q0 (.seq q1 q2)) (.seq q3 (.block i (.loop (.seq (.region iQ opsQ false) cQ))))))
 {E:eJ} {D0:Q9} {ob:Nat} {w:By} {x:cO Nd} {aT aP:Act} {ts:List Tok} {v7 n0 g0 e0:BY} {s rc:Nat} (hr:E.r<E.B) (h6:E.r≠E.nb∧E.r≠E.gb∧E.r≠E.eb) (hne:E.nb≠E.gb∧E.nb≠E.eb∧E.gb≠E.eb) (h7:E.nb<E.B∧E.gb<E.B∧E.eb<E.B)
 (hx:oa pu ts=some x) (hB:E.B=w.heap.size) (ho:w.cell? ⟨ob,0,none⟩=some (.chan (some E.r))) (hch:w.heap[E.r]?=some (.chan E.cap (ts.map (Tok.val E.e)).toArray false s rc E.tm)) (hR:Rs E w n0 g0 e0)
 (h8:Hc (vp ob) aT) (h9:ws E v7 [] aP):
 (aK T).H (pq E opsQ [.code cQ,.inLoop (.seq (.region iQ opsQ false) cQ),.inBlock i] D0 w x) (bY (oz.at aT (.inRegion opsT []::[.code (.seq t4 t5)])) [gi.at aP (.inRegion opsP [2,3,4,5,6]::[.code (.seq p4 (.seq p5 (.seq p6 (.seq p7 p8))))]),D0]) w:=by
 have h0:=fun pb p w2 a hI hR=> @DG T _ _ _ _ _ _ _ _ hP E pb p w w2 ts x n0 g0 e0 a hx hI hR
 have hend:=fun pb p w2 e a fr=> @FR T _ _ _ _ _ _ _ _ hQ E D0 pb p w w2 x e a fr hr h6 hne h7
 have hret:= @CR T _ _ _ _ _ _ _ hT ob E.r w aT ho h8;replace h0:=AI h0;replace hend:=AI hend;clear hQ;refine(aK T).one (fun u=>step_region_end) trivial ?_;have h4:∀w1:By,w1.heap=w.heap→(aK T).H (pq E opsQ [.code cQ,.inLoop (.seq (.region iQ opsQ false) cQ),.inBlock i] D0 w x) (bY (gi.at (aP.put (some 16) (.chan (some E.r))) (.inRegion opsP [3,4,5,6]::[.code (.seq p4 (.seq p5 (.seq p6 (.seq p7 p8))))])) [D0]) w1:=fun w1 he=>by
  clear hret hT;have hB1:E.B=w1.heap.size:=by rw[hB,he]
  have hR1:=AI (hR.ab he);have h5:=AI ((Kp.refl (B:=E.B) (X:=[E.nb,E.gb,E.eb,E.r]) w).ab he);have hch1:w1.heap[E.r]?=some (.chan E.cap (ts.map (Tok.val E.e)).toArray false s rc E.tm):=by rw[he];exact hch
  refine qJ (M:=fun a w'=>ws E (vp (w1.heap.size+1)) [] a∧PI E (w1.heap.size+1) w1.heap.size w ⟨ts,pu,0,0⟩ w'∧Rs E w' n0 g0 e0) ?_ trivial (by simp[gi]) ?_
  ·cases hP;obtain⟨u,rfl⟩:=h9.out;show bo _ _ _ (IN 3 (4+0)) _ _;refine b8 3 4 0 (fun N hN w2 he2=> ?_) (by decide);simp only[zq1];simp only[If,zq0];replace hR1:=AI (hR1.out.ab he2);replace h5:=AI (h5.out.ab he2);have hz:=congrArg PW he2;replace hch1:w2.heap[E.r]?=some (.chan E.cap (ts.map (Tok.val E.e)).toArray false s rc E.tm):=by rw[he2];exact hch1
   replace hch1:=AI hch1;replace hz:=AI hz;clear he2 he h9 h8 ho hch hR;go_wp2;refine hN.out _ _ (aZ ⟨rfl,?_⟩);have hz':=hz.out;have hlr:=(PN.1 hch1.out).1;have hA:∀b,b<w2.heap.size→((w2.alloc (.cells #[.chan (some E.r),.int .i64 0,.int .i64 0,.int .u64 0,.int .u64 0,.int .u64 0,.int .u64 0,.int .i64 0,.int .i64 0,.pointer none,.int .i64 0,.int .i64 0] 197)).alloc (.cells #[.pointer (some ⟨w2.heap.size,0,none⟩)] 191)).heap[b]?=w2.heap[b]?:=fun b hb=>
    (Below.heap_alloc _ _ b (by simp;omega)).trans (Below.heap_alloc _ _ b hb)
   refine⟨⟨rfl,rfl,rfl,rfl,rfl,?_⟩,⟨⟨?_,s,rc,?_⟩,?_,(h5.out.alloc (Nat.le_of_eq hB) _).alloc (Nat.le_of_eq hB) _,by omega,by omega,by omega⟩,hR1.out.keep fun b hb=>hA b ?_⟩
   ·show vp (w2.heap.size+1)=vp (w1.heap.size+1);rw[hz']
   ·rw[← hz'];exact ac.alloc (ac.new w2 197 #[.chan (some E.r),.int .i64 0,.int .i64 0,.int .u64 0,.int .u64 0,.int .u64 0,.int .u64 0,.int .i64 0,.int .i64 0,.pointer none,.int .i64 0,.int .i64 0]) _
   ·exact(hA _ hlr).trans hch1.out
   ·rw[← hz'];have:=(ac.new2 w2 (.cells #[.chan (some E.r),.int .i64 0,.int .i64 0,.int .u64 0,.int .u64 0,.int .u64 0,.int .u64 0,.int .i64 0,.int .i64 0,.pointer none,.int .i64 0,.int .i64 0] 197) 191 #[.pointer (some ⟨w2.heap.size,0,none⟩)]).cell 0;exact this
   ·have h1:=hR1.out.n.lt;have h2:=hR1.out.g.lt;have h3:=hR1.out.e.lt;rcases hb with rfl|rfl|rfl<;>assumption
  ·intro a w2 ⟨ha,hI2,hR2⟩;refine h0.out _ _ w2 a ha hI2 hR2 hne h7 hr h6 gi [] [D0] _ trivial (by simp[gi]) fun e a' w' hq=> ?_
   have he2:e= .ret∨∃ch,e= .panic ch:=by
    cases x with
    |ok nd s2=>exact .inl hq.1
    |err y s2=>obtain⟨_,_,q,h,_⟩:=hq;exact .inr ⟨_,h⟩
   rcases he2 with rfl|⟨ch,rfl⟩
   ·exact fun todo=>hend.out _ _ w' _ a' _ hq todo (.inl ⟨rfl,rfl⟩)
   ·exact fun todo=>hend.out _ _ w' _ a' _ hq todo (.inr ⟨ch,rfl,rfl⟩)
 have hleave:∀(a':Act)(w':By)(todo:List Item),bodyPost PA Tryz.f91 (fun e w'=>e= .returned (.chan (some E.r))∧w'.heap=w.heap) .ret a' w'→(aK T).H (pq E opsQ [.code cQ,.inLoop (.seq (.region iQ opsQ false) cQ),.inBlock i] D0 w x) (bY {oz.at a' todo with mode:=.returning} [gi.at aP (.inRegion opsP [2,3,4,5,6]::[.code (.seq p4 (.seq p5 (.seq p6 (.seq p7 p8))))]),D0]) w':=fun a' w' todo ⟨hd,v,hv,h1,h2⟩=>by
  cases h1;obtain⟨o,ho2,hd2⟩:∃o,opsP[2]?=some o∧o.dst=some 16:=by
   cases hP;exact⟨_,rfl,rfl⟩
  refine Gb (v:=.chan (some E.r)) (o:=o) ⟨rfl,hd,rfl,_,EV,?_⟩ ho2 trivial ?_
  ·rw[wF];exact hv
  ·rw[hd2];exact h4 w' h2
 refine hret oz [] _ _ trivial (by simp[oz]) fun e a' w' hq=> ?_
 cases e with
 |normal=>exact(aK T).one (fun u=>step_end) trivial (hleave a' w' [] hq)
 |ret=>exact fun todo=>hleave a' w' todo hq
 |panic ch=>obtain⟨_,h,_⟩:=hq;cases h
 |exit id=>exact hq.elim
 |goto l=>exact hq.elim
 |outgrown=>exact nomatch hq.1
end
end Go.Proofs.YtkgohmcmmcpigaaGreatDoor
