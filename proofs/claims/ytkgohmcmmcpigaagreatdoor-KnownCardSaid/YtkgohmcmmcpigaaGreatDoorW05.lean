/- A part of the proof that Within holds; no condition. -/
import Derived.Laws.Rows
import Derived.Laws.OwnMore
import Derived.IntWalk
import Derived.WalkLawsBesides
import Derived.Deep.Draws
import Derived.Maps.AppendAt
import Derived.Deep.RegionHeld3
import Derived.Laws.BitsLemmas
import Derived.Laws.Bits64
import Derived.Lib.CutLaws
import Derived.Lib.IndexLaws
import Derived.StillTailTactics
import Derived.Defers
import Derived.Recover
import Derived.Test.YtkgohmcmmcpigaaGreatDoorW04
set_option linter.unusedSectionVars false
set_option linter.unusedSimpArgs false
set_option linter.unusedVariables false
set_option maxHeartbeats 4000000
set_option maxRecDepth 100000
namespace Go.Proofs.YtkgohmcmmcpigaaGreatDoor
open Go
open Go.Lib renaming hid->up,indexByte->SG,hasPrefix->SV,cut->T9
open _root_.Nat renaming le_refl->x5,lt_succ_self->IN,le_trans->SI,reduceSub->SK,reduceAdd->SL,or_lt_two_pow->SM,testBit_two_pow_sub_one->SO,lt_of_lt_of_le->SR,zero_le->SU,mod_eq_of_lt->SW,lt_of_le_of_lt->T0,shiftRight_eq_div_pow->T2,testBit_xor->T3,testBit_and->T4,testBit_lt_two_pow->T7,le_succ->T8,pow_le_pow_right->Tb,and_lt_two_pow->Tc
open _root_.List renaming mem_singleton->AI,range'->AT,mem_cons->BY,length_cons->IS,append_toArray->OF,size_toArray->Sv,push_toArray->Sw,drop_succ_cons->Sy,cons_append->Sz,nil_append->SE,length_nil->SF,not_mem_nil->SJ,drop_zero->SN,setIfInBounds_toArray->T1,set_cons_zero->Td,set_cons_succ->Te,mem_cons_self->Tf
open Go.Act renaming put->AS
open Go renaming World->By,Value->Sx,callFunc->SS,Frame->SY
open Go.Region renaming ready->If,lexTailB->Tk
open _root_.Array renaming replicate_zero->IT,replicate_succ->No,size->SC,getElem?_eq_some_iff->SH,getElem?_setIfInBounds_ne->SX,replicate->T5
open Go.World renaming setCell->Su,cell?->SZ,cell?_alloc_lt->Ta
open _root_.Ne renaming symm->SD
open _root_.Int renaming le_refl->SP,natCast_nonneg->Tg
open _root_.Option renaming isSome_iff_exists->SQ,map_eq_some_iff->T6
open Go.Exit renaming inBlock->Th
open Go.Frame renaming enter->Ti,finish_at->Tl
open Go.Instr renaming typeAssert->Tj
section
open Go.RowKit
def a7(w:By)(g:Nat)(t:TypeId)(cs:Array Sx):Prop:=w.heap[g]?=some (.cells cs t (0,0))
def Kp(B:Nat)(X:List Nat)(w w':By):Prop:=w.heap.size<=w'.heap.size/\∀b,b<B->b∉X->w'.heap[b]?=w.heap[b]?
section
variable{w w' w2:By}{g B B':Nat}{t:TypeId}{cs:Array Sx}{X X':List Nat}
theorem a7.lt(h:a7 w g t cs):g<w.heap.size:=by
 rcases Nat.lt_or_ge g w.heap.size with hlt|hge
 .exact hlt
 simp_all[a7]
theorem a7.cell(h:a7 w g t cs)(i):w.cell? ⟨g,i,none⟩=cs[i]?:=cell_of_row w g i cs t (0,0) h
theorem a7.frozen(h:a7 w g t cs)(i):w.frozen? ⟨g,i,none⟩=false:=by
 simp_all[World.frozen?,a7]
theorem a7.new(w:By)(t cs):a7 (w.alloc (.cells cs t)) w.heap.size t cs:=heap_alloc_new w _
theorem a7.new2(w:By)(o t cs):a7 ((w.alloc o).alloc (.cells cs t)) (w.heap.size+1) t cs:=by
 have:=a7.new (w.alloc o) t cs;rwa [World.size_alloc]at this
theorem a7.drew(h:a7 w g t cs):a7 w.drew g t cs:=h
theorem a7.drewN(h:a7 w g t cs)(n):a7 (w.drewN n) g t cs:=h
theorem a7.alloc(h:a7 w g t cs)(o):a7 (w.alloc o) g t cs:=(Below.heap_alloc w o g h.lt).trans h
theorem a7.bI(h:a7 w g t cs)(i u):a7 (w.setCell ⟨g,i,none⟩ u) g t (cs.setIfInBounds i u):=by
 simp_all[Su,Array.getElem?_modify,a7]
theorem a7.far(h:a7 w g t cs){p}(hp:g≠p.block)(u):a7 (w.setCell p u) g t cs:=(Below.heap_setCell w p u g hp).trans h
theorem a7.kp(h:a7 w g t cs)(hk:Kp B X w w')(hg:g<B)(hx:g∉X):a7 w' g t cs:=(hk.2 g hg hx).trans h
theorem a7.af(h:a7 w g t cs)(he:w'.heap=w.heap):a7 w' g t cs:=by simp_all[a7]
theorem Kp.af{w0}(h:Kp B X w0 w)(he:w'.heap=w.heap):Kp B X w0 w':=by simp_all[Kp]
theorem Kp.refl(w):Kp B X w w:=⟨x5 _,λ_ _ _=>rfl⟩
theorem Kp.trans(h:Kp B X w w')(h':Kp B X w' w2):Kp B X w w2:=⟨SI h.1 h'.1,λb hb hx=>(h'.2 b hb hx).trans (h.2 b hb hx)⟩
theorem Kp.mono(h:Kp B X w w')(hB:B'<=B)(hX:∀x∈X,x<B'->x∈X'):Kp B' X' w w':=⟨h.1,λb hb hx=>h.2 b (SR hb hB) λhm=>hx (hX b hm hb)⟩
theorem Kp.alloc(h:Kp B X w w')(hB:B<=w.heap.size)(o):Kp B X w (w'.alloc o):=
 ⟨by have:=h.1;simp;omega,λb hb hx=>(Below.heap_alloc w' o b (by have:=h.1;omega)).trans (h.2 b hb hx)⟩
theorem Kp.setCell(h:Kp B X w w'){p}(hp:p.block<B->p.block∈X)(u):Kp B X w (w'.setCell p u):=
 ⟨by have:=h.1;simp_all,λb hb hx=>(Below.heap_setCell w' p u b λe=>hx (e▸hp (e▸hb))).trans (h.2 b hb hx)⟩
theorem Kp.drew(h:Kp B X w w'):Kp B X w w'.drew:=h
theorem Kp.drewN(h:Kp B X w w')(n):Kp B X w (w'.drewN n):=h
theorem Kp.grown(h:Kp B X w w'){row}(hg:w'.grownBy w2 row)(hB:B<=w.heap.size)(hr:∀x,row=some x->x<B->x∈X):Kp B X w w2:=
 ⟨SI h.1 hg.size,λb hb hx=>(hg.block b (by have:=h.1;omega) λe=>hx (hr b e.symm hb)).trans (h.2 b hb hx)⟩
end
@[reducible] noncomputable def dJ:aD:=Pu Tryz.prog.globals.size
def bA:Nat->Option Code:=only [93,94,117,118,141,142,162,174,92]
noncomputable abbrev PA:Program:=alt Tryz.prog bA
theorem PA.func{f fn}(hf:Tryz.prog.funcs[f]?=some fn)(h:[93,94,117,118,141,142,162,174,92].contains f=true):PA.funcs[f]?=some fn:=ry hf (bP h)
@[go_sem] theorem PA.RE(args w):(SS 93 args).run PA w= .ok (.enter 93 args) w:=a8 (PA.func Tryz.func93 (by decide)) (by kernel_rfl) rfl args w
@[go_sem] theorem PA.RD(args w):(SS 94 args).run PA w= .ok (.enter 94 args) w:=a8 (PA.func Tryz.func94 (by decide)) (by kernel_rfl) rfl args w
@[go_sem] theorem PA.Rk(args w):(SS 117 args).run PA w= .ok (.enter 117 args) w:=a8 (PA.func Tryz.func117 (by decide)) (by kernel_rfl) rfl args w
@[go_sem] theorem PA.Rj(args w):(SS 118 args).run PA w= .ok (.enter 118 args) w:=a8 (PA.func Tryz.func118 (by decide)) (by kernel_rfl) rfl args w
@[go_sem] theorem PA.QZ(args w):(SS 141 args).run PA w= .ok (.enter 141 args) w:=a8 (PA.func Tryz.func141 (by decide)) (by kernel_rfl) rfl args w
@[go_sem] theorem PA.QY(args w):(SS 142 args).run PA w= .ok (.enter 142 args) w:=a8 (PA.func Tryz.func142 (by decide)) (by kernel_rfl) rfl args w
@[go_sem] theorem PA.QL(args w):(SS 162 args).run PA w= .ok (.enter 162 args) w:=a8 (PA.func Tryz.func162 (by decide)) (by kernel_rfl) rfl args w
@[go_sem] theorem PA.QD(args w):(SS 174 args).run PA w= .ok (.enter 174 args) w:=a8 (PA.func Tryz.func174 (by decide)) (by kernel_rfl) rfl args w
@[go_sem] theorem PA.RF(args w):(SS 92 args).run PA w= .ok (.enter 92 args) w:=a8 (PA.func Tryz.func92 (by decide)) (by kernel_rfl) rfl args w
theorem jU(p w n c0 c1 c2 c3 c4 c5 c6 c7 c8 c9 gr)(hn:0<=n)(hn2:n<=1000000)(hB:a7 w p 197 #[c0,c1,c2,c3,c4,c5,c6,c7,c8,c9,.int .i64 n,gr]):
 Calls PA 117 #[.pointer (some ⟨p,0,none⟩)] w λe w'=>e= .returned (.agg #[.int .i64 (n+1)])/\a7 w' p 197 #[c0,c1,c2,c3,c4,c5,c6,c7,c8,c9,.int .i64 (n+1),gr]/\Kp w.heap.size [p] w w':=by
 have hc:w.cell? ⟨p,10,none⟩=some (.int .i64 n):=hB.cell 10;have hf:=hB.frozen 10;have hlt:=hB.lt;go_enter PA.func Tryz.func117 (by decide),Tryz.ntmps117
 go_wp2;refine bodyPost_ret (v:=.agg #[.int .i64 (n+1)]) (by simp[results,Tryz.results117,go_sem]) rfl ⟨rfl,(hB.bI 10 _).alloc _,?_⟩;exact((Kp.refl w).setCell (p:=⟨p,10,none⟩) (λ_=>AI.2 rfl) _).alloc (x5 _) _
def gH(e:Nat)(b:Bool):Option Addr:=if b then some ⟨e,0,none⟩else none
def Tok.val(e:Nat)(t:Tok):Sx:=.agg #[.int .i64 t.kind,.int .i64 t.at_,.int .u64 t.b0,.int .u64 t.b1,.int .u64 t.b2,.int .u64 t.b3,.int .i64 t.least,.int .i64 t.most,.pointer (gH e t.bad)]
structure PS(p r e cap:Nat)(tm:Bool)(w:By)(ts:List Tok)(t:Tok)(n g:Int):Prop where
 blk:a7 w p 197 #[.chan (some r),.int .i64 t.kind,.int .i64 t.at_,.int .u64 t.b0,.int .u64 t.b1,.int .u64 t.b2,.int .u64 t.b3,.int .i64 t.least,.int .i64 t.most,.pointer (gH e t.bad),.int .i64 n,.int .i64 g]
 chan:∃s rc,w.heap[r]?=some (.chan cap (ts.map (Tok.val e)).toArray false s rc tm)
theorem jX(p k at_ w):Calls PA 141 #[p,.int .i64 k,.int .i64 at_] w λe w'=>e= .panicked [{v:=.iface 133 (.pointer (some ⟨w.heap.size,0,none⟩)),recovered:=false}]/\w'=w.alloc (.cells #[.int .i64 at_,.int .i64 k] 137):=by
 go_enter PA.func Tryz.func141 (by decide),Tryz.ntmps141
 go_wp2;exact⟨rfl,rfl,rfl⟩
theorem PS.af{p r e cap tm w w' ts t n g}(h:PS p r e cap tm w ts t n g)(he:w'.heap=w.heap):PS p r e cap tm w' ts t n g:=
 ⟨h.blk.af he,by rw[he];exact h.chan⟩
theorem a7.ay{w g r t cs}(h:a7 w g t cs)(hr:g≠r)(o):a7 (ay w r o) g t cs:=by
 simp_all[SD,a7,Go.Proofs.YtkgohmcmmcpigaaGreatDoor.ay]
theorem Kp.ay{B X w w'}(h:Kp B X w w'){r}(hr:r<B->r∈X)(o):Kp B X w (ay w' r o):=
 ⟨by have:=h.1;simp_all[Go.Proofs.YtkgohmcmmcpigaaGreatDoor.ay],λb hb hx=>by
  have:r≠b:=λe=>hx (e▸hr (e▸hb))
  show(w'.heap.setIfInBounds r o)[b]?=_;rw[SX this];exact h.2 b hb hx⟩
theorem rq{w r o o'}(h:w.heap[r]?=some o'):(ay w r o).heap[r]?=some o:=by
 have:=(SH.1 h).1;simp_all[ay]
theorem a7.xT{w g r t cs cap s rc bf c tm}(h:a7 w g t cs)(hc:w.heap[r]?=some (.chan cap bf c s rc tm)):g≠r:=by
 rintro rfl;simp_all[a7]
theorem BP{w:By}{r o}(h:w.heap[r]?=some o){p}(hp:r≠p.block)(u):(w.setCell p u).heap[r]?=some o:=(Below.heap_setCell w p u r hp).trans h
theorem PA.recv{ok ρ o x}(r)(h:o.op= .recv 192 x ok)(hx:ρ x= .chan (some r))(u):
 (execOp ρ o).run PA u= .ok (.comm #[{chan:=.chan (some r),send:=none,zero:=.agg #[.int .i64 0,.int .i64 0,.int .u64 0,.int .u64 0,.int .u64 0,.int .u64 0,.int .i64 0,.int .i64 0,.pointer none]}] true (.recv ok)) u:=by
 simp[h,hx,go_sem]
abbrev sF(w:By)(p e:Nat)(t:Tok):By:=((((((((w.setCell ⟨p,1,none⟩ (.int .i64 t.kind)).setCell ⟨p,2,none⟩ (.int .i64 t.at_)).setCell ⟨p,3,none⟩ (.int .u64 t.b0)).setCell ⟨p,4,none⟩ (.int .u64 t.b1)).setCell ⟨p,5,none⟩ (.int .u64 t.b2)).setCell ⟨p,6,none⟩ (.int .u64 t.b3)).setCell ⟨p,7,none⟩ (.int .i64 t.least)).setCell ⟨p,8,none⟩ (.int .i64 t.most)).setCell ⟨p,9,none⟩ (.pointer (gH e t.bad))
theorem EQ{w p e ty c0 c1 c2 c3 c4 c5 c6 c7 c8 c9 c10 c11}(h:a7 w p ty #[c0,c1,c2,c3,c4,c5,c6,c7,c8,c9,c10,c11])(t):
 a7 (sF w p e t) p ty #[c0,.int .i64 t.kind,.int .i64 t.at_,.int .u64 t.b0,.int .u64 t.b1,.int .u64 t.b2,.int .u64 t.b3,.int .i64 t.least,.int .i64 t.most,.pointer (gH e t.bad),c10,c11]:=by
 have:=((((((((h.bI 1 (.int .i64 t.kind)).bI 2 (.int .i64 t.at_)).bI 3 (.int .u64 t.b0)).bI 4 (.int .u64 t.b1)).bI 5 (.int .u64 t.b2)).bI 6 (.int .u64 t.b3)).bI 7 (.int .i64 t.least)).bI 8 (.int .i64 t.most)).bI 9 (.pointer (gH e t.bad));simp_all
theorem EP{w p e r o}(h:w.heap[r]?=some o)(hr:r≠p)(t):(sF w p e t).heap[r]?=some o:=by
 repeat refine BP ?_ hr _
 omega
theorem GK{B X w w' p e}(h:Kp B X w w')(hp:p<B->p∈X)(t):Kp B X w (sF w' p e t):=by
 repeat refine Kp.setCell ?_ hp _
 omega
section
attribute [local instance] dJ
variable{T:bz PA}
theorem Ng{p r e cap tm w t t1 ts n g}(h:PS p r e cap tm w (t1::ts) t n g):
 cb (aH T) 93 #[.pointer (some ⟨p,0,none⟩)] w λe' w'=>PS p r e cap tm w' ts t1 n g/\Kp w.heap.size [p,r] w w'/\(t1.kind≠8/\e'= .returned (.tuple #[])\/t1.kind=8/\e'= .panicked [{v:=.iface 133 (.pointer (gH e t1.bad)),recovered:=false}]):=by
 obtain⟨hB,s,rc,hch⟩:=h;refine bu trivial (λw' h=>by rcases h.2.2 with⟨_,h⟩|⟨_,h⟩<;>cases h) (PA.func Tryz.func93 (by decide)) rfl ?_;simp only[Tryz.ntmps93,Sv,IS,SF,SL,SK,No,IT,Sw,OF,SE,Sz];refine ac λK hK=> ?_
 refine ao ?_;show aV _ _ _ (AT 0 (5+4)) _ _;refine aW 0 5 4 (λN hN w1 he=> ?_) (by decide);simp only[zq1];have hB1:=hB.af he;have hc0:w1.cell? ⟨p,0,none⟩=some (.chan (some r)):=hB1.cell 0;go_wp2;refine hN.out _ _ ?_;clear hN N;have hch1:w1.heap[r]?=some (.chan cap (Tok.val e t1::ts.map (Tok.val e)).toArray false s rc tm):=by rw[he];exact hch
 have hne:=hB1.xT hch1;refine yy (rest:=AT 6 (3+0)) rfl rfl (PA.recv r rfl rfl) hch1 ?_;refine aW 6 3 0 (λN hN w2 he2=> ?_) (by decide);have hB2:=(hB1.ay hne _).af he2;have hch2:=(congrArg (·[r]?) he2).trans (rq hch1);simp only[zq1];have f_w2:∀i,w2.frozen? ⟨p,i,none⟩=false:=hB2.frozen;have c0_w2:w2.cell? ⟨p,0,none⟩=some (.chan (some r)):=hB2.cell 0;have c1_w2:w2.cell? ⟨p,1,none⟩=some _:=hB2.cell 1;have c2_w2:w2.cell? ⟨p,2,none⟩=some _:=hB2.cell 2;have c3_w2:w2.cell? ⟨p,3,none⟩=some _:=hB2.cell 3;have c4_w2:w2.cell? ⟨p,4,none⟩=some _:=hB2.cell 4;have c5_w2:w2.cell? ⟨p,5,none⟩=some _:=hB2.cell 5;have c6_w2:w2.cell? ⟨p,6,none⟩=some _:=hB2.cell 6;have c7_w2:w2.cell? ⟨p,7,none⟩=some _:=hB2.cell 7;have c8_w2:w2.cell? ⟨p,8,none⟩=some _:=hB2.cell 8;have c9_w2:w2.cell? ⟨p,9,none⟩=some _:=hB2.cell 9;have c10_w2:w2.cell? ⟨p,10,none⟩=some _:=hB2.cell 10;have c11_w2:w2.cell? ⟨p,11,none⟩=some _:=hB2.cell 11;simp only[AS,Tok.val,Bool.false_eq_true,if_false];go_wp2;refine hN.out _ _ (az (hK.out _ _ ?_));clear hN N hK K;have hp:p<w.heap.size->p∈[p,r]:=λ_=>Tf
 have hK2:Kp w.heap.size [p,r] w w2:=(((Kp.refl w).af he:Kp w.heap.size [p,r] w w1).ay (λ_=>List.mem_cons_of_mem _ (AI.2 rfl)) _).af he2;have hB3:=EQ (e:=e) hB2 t1;have hch3:=EP (e:=e) hch2 (SD hne) t1;have hK3:=GK (e:=e) hK2 hp t1;clear f_w2 c0_w2 c1_w2 c2_w2 c3_w2 c4_w2 c5_w2 c6_w2 c7_w2 c8_w2 c9_w2 c10_w2 c11_w2;show cL _ _ _ _ (sF w2 p e t1);generalize sF w2 p e t1=w3 at hB3 hch3 hK3 ⊢;have hPS:PS p r e cap tm w3 ts t1 n g:=⟨hB3,_,_,hch3⟩;clear hB3 hch3 hB2 hch2 hB1 hch1 hB hch hc0 he he2 hK2;have hh:=up hPS;have hk:=up hK3;clear hPS hK3;refine ag λw4 he4=> ?_
 have h0:=hh.out.blk.af he4;have h1:=up (hh.out.af he4);have hK4:=up (hk.out.af he4);have f_w4:∀i,w4.frozen? ⟨p,i,none⟩=false:=h0.frozen;have c0_w4:w4.cell? ⟨p,0,none⟩=some (.chan (some r)):=h0.cell 0;have c1_w4:w4.cell? ⟨p,1,none⟩=some _:=h0.cell 1;have c2_w4:w4.cell? ⟨p,2,none⟩=some _:=h0.cell 2;have c3_w4:w4.cell? ⟨p,3,none⟩=some _:=h0.cell 3;have c4_w4:w4.cell? ⟨p,4,none⟩=some _:=h0.cell 4;have c5_w4:w4.cell? ⟨p,5,none⟩=some _:=h0.cell 5;have c6_w4:w4.cell? ⟨p,6,none⟩=some _:=h0.cell 6;have c7_w4:w4.cell? ⟨p,7,none⟩=some _:=h0.cell 7;have c8_w4:w4.cell? ⟨p,8,none⟩=some _:=h0.cell 8;have c9_w4:w4.cell? ⟨p,9,none⟩=some _:=h0.cell 9;have c10_w4:w4.cell? ⟨p,10,none⟩=some _:=h0.cell 10;have c11_w4:w4.cell? ⟨p,11,none⟩=some _:=h0.cell 11;by_cases h8:t1.kind=8
 .have h2:(t1.kind==8)=true:=by simpa using h8
  go_wp2;exact⟨rfl,h1.out,hK4.out,.inr ⟨h8,rfl⟩⟩
 .have h2:(t1.kind==8)=false:=by simpa using h8
  go_wp2;exact bodyPost_end (results_none rfl _ _ _) rfl ⟨h1.out,hK4.out,.inl ⟨h8,rfl⟩⟩
end
inductive Repr(w:By):(Nat->Prop)->Sx->Nd->Prop
 |set {S q id b0 b1 b2 b3}:S q->a7 w q 307 #[.int .i64 id,.int .u64 b0,.int .u64 b1,.int .u64 b2,.int .u64 b3]->Repr w S (.iface 305 (.pointer (some ⟨q,0,none⟩))) (.set id b0 b1 b2 b3)
 |edge {S q id fin}:S q->a7 w q 304 #[.int .i64 id,.bool fin]->Repr w S (.iface 302 (.pointer (some ⟨q,0,none⟩))) (.edge id fin)
 |seq {S q id sl ks vs}:S q->a7 w q 269 #[.int .i64 id,sl]->w.ownsRow 0 86 1 sl vs.length vs->(∀b,sl.ownBlock=some b->S b)->vs.length=ks.length->(∀(i:Nat) v k,vs[i]?=some v->ks[i]?=some k->Repr w S v k)->Repr w S (.iface 268 (.pointer (some ⟨q,0,none⟩))) (.seq id ks)
 |alt {S q id sl ks vs}:S q->a7 w q 250 #[.int .i64 id,sl]->w.ownsRow 0 86 1 sl vs.length vs->(∀b,sl.ownBlock=some b->S b)->vs.length=ks.length->(∀(i:Nat) v k,vs[i]?=some v->ks[i]?=some k->Repr w S v k)->Repr w S (.iface 244 (.pointer (some ⟨q,0,none⟩))) (.alt id ks)
 |grp {S q id num v k}:S q->a7 w q 315 #[.int .i64 id,v,.int .i64 num]->Repr w S v k->Repr w S (.iface 313 (.pointer (some ⟨q,0,none⟩))) (.grp id k num)
 |rep {S q id least most v k}:S q->a7 w q 288 #[.int .i64 id,v,.int .i64 least,.int .i64 most]->Repr w S v k->Repr w S (.iface 286 (.pointer (some ⟨q,0,none⟩))) (.rep id k least most)
theorem bt{w w':By}{base e size n v xs}(h:w.ownsRow base e size v n xs)(hk:∀b,v.ownBlock=some b->b<w.heap.size->w'.heap[b]?=w.heap[b]?):w'.ownsRow base e size v n xs:=by
 obtain⟨h1,h2⟩:=h;refine⟨h1,?_⟩;rcases h2 with h2|⟨g,cap,cur,rfl,hb,hh,h3⟩
 .exact .inl h2
 .refine .inr ⟨g,cap,cur,rfl,hb,?_,h3⟩;rw[hk g rfl (SH.1 hh).1];omega
theorem eU{w:By}{base e size n v xs}(h:w.ownsRow base e size v n xs){b}(hb:v.ownBlock=some b):b<w.heap.size/\base<=b:=by
 rcases h.2 with⟨rfl,_⟩|⟨g,cap,cur,rfl,hg,hh,h3⟩
 .cases hb
 .cases hb<;>grind
theorem Repr.keep{w w' S v nd}(h:Repr w S v nd)(hk:∀b,S b->b<w.heap.size->w'.heap[b]?=w.heap[b]?):Repr w' S v nd:=by
 have blk:∀{q t cs},S q->a7 w q t cs->a7 w' q t cs:=λhs hb=>(hk _ hs hb.lt).trans hb
 induction h with
 |set hs hb=>exact .set hs (blk hs hb)
 |edge hs hb=>exact .edge hs (blk hs hb)
 |seq hs hb ho hS hl _ ih=>exact .seq hs (blk hs hb) (bt ho λb e hlt=>hk b (hS b e) hlt) hS hl λi v k h1 h2=>ih i v k h1 h2
 |alt hs hb ho hS hl _ ih=>exact .alt hs (blk hs hb) (bt ho λb e hlt=>hk b (hS b e) hlt) hS hl λi v k h1 h2=>ih i v k h1 h2
 |grp hs hb _ ih=>exact .grp hs (blk hs hb) ih
 |rep hs hb _ ih=>exact .rep hs (blk hs hb) ih
theorem Repr.mono{w S S' v nd}(h:Repr w S v nd)(hs:∀b,S b->b<w.heap.size->S' b):Repr w S' v nd:=by
 induction h with
 |set h hb=>exact .set (hs _ h hb.lt) hb
 |edge h hb=>exact .edge (hs _ h hb.lt) hb
 |seq h hb ho hS hl _ ih=>exact .seq (hs _ h hb.lt) hb ho (λb e=>hs b (hS b e) (eU ho e).1) hl λi v k h1 h2=>ih i v k h1 h2
 |alt h hb ho hS hl _ ih=>exact .alt (hs _ h hb.lt) hb ho (λb e=>hs b (hS b e) (eU ho e).1) hl λi v k h1 h2=>ih i v k h1 h2
 |grp h hb _ ih=>exact .grp (hs _ h hb.lt) hb ih
 |rep h hb _ ih=>exact .rep (hs _ h hb.lt) hb ih
theorem Repr.form{w S v nd}(h:Repr w S v nd):∃t q,v= .iface t (.pointer (some ⟨q,0,none⟩)):=by cases h<;>exact⟨_,_,rfl⟩
theorem Repr.one{w S v nd}(h:Repr w S v nd):v.oneCell'=true:=by cases h<;>rfl
def ErrAt(e base:Nat)(w':By)(bad:Bool):FX->Option Addr->Prop
 | .tok,a=>a=gH e bad
 | .own k at_,a=>∃q,a=some ⟨q,0,none⟩/\base<=q/\a7 w' q 137 #[.int .i64 at_,.int .i64 k]
def thrown(a:Option Addr):List PanicEntry:=[{v:=.iface 133 (.pointer a),recovered:=false}]
abbrev jf(p r e cap:Nat)(tm:Bool)(w:By)(s:g7):Prop:=PS p r e cap tm w s.ts s.t s.n s.g
def Post(p r e cap:Nat)(tm:Bool)(B:Nat)(w:By):eJ Nd->Ending->By->Prop
 | .ok nd s,e',w'=>∃v,e'= .returned v/\jf p r e cap tm w' s/\Kp B [p,r] w w'/\Repr w' (λb=>B<=b) v nd
 | .err x s,e',w'=>∃a,e'= .panicked (thrown a)/\jf p r e cap tm w' s/\Kp B [p,r] w w'/\ErrAt e B w' s.t.bad x a
theorem Post.no{p r e cap tm B w w' x}:¬ Post p r e cap tm B w x .outgrown w':=by
 cases x<;>(rintro⟨_,h,_⟩;cases h)
def Kids(B:Nat)(w:By)(q:Nat)(sl:Sx)(ks:List Nd):Prop:=
 ∃vs,w.ownsRow B 86 1 sl vs.length vs/\sl.ownBlock≠some q/\vs.length=ks.length/\∀(i:Nat) v k,vs[i]?=some v->ks[i]?=some k->Repr w (λb=>B<=b/\b≠q/\sl.ownBlock≠some b) v k
theorem Kids.keep{B w w' q sl ks}(h:Kids B w q sl ks)(hk:∀b,B<=b->b≠q->b<w.heap.size->w'.heap[b]?=w.heap[b]?):Kids B w' q sl ks:=by
 obtain⟨vs,h1,h2,h3,h4⟩:=h;exact⟨vs,bt h1 λb e hlt=>hk b (eU h1 e).2 (λhq=>h2 (hq▸e)) hlt,h2,h3,λi v k hv hk'=>(h4 i v k hv hk').keep λb hb hlt=>hk b hb.1 hb.2.1 hlt⟩
theorem Kids.nil(B w q):Kids B w q (.slice none 0 0) []:=⟨[],⟨rfl,.inl ⟨rfl,rfl⟩⟩,nofun,rfl,λi v k h=>by simp at h⟩
theorem Kids.append{B C w w' q sl sl' v ks k}{n:Nat}{vs}(h1:w.ownsRow B 86 1 sl vs.length vs)(h2:sl.ownBlock≠some q)(h3:vs.length=ks.length)(h4:∀(i:Nat) v k,vs[i]?=some v->ks[i]?=some k->Repr w (λb=>B<=b/\b≠q/\sl.ownBlock≠some b) v k)
 (hr:Repr w (λb=>C<=b) v k) (hq:q<C) (hs:∀b,sl.ownBlock=some b->b<C) (hBC:B<=C) (hqs:q<w.heap.size)
 (ho:w'.ownsRow B 86 1 sl' (vs.length+1) (vs++[v])) (hg:w.grownBy w' sl.ownBlock) (ha:sl'.ownBlock=sl.ownBlock\/sl'.ownBlock=some w.heap.size):Kids B w' q sl' (ks++[k]):=by
 have key:∀{v k},Repr w (λb=>B<=b/\b≠q/\sl.ownBlock≠some b) v k->Repr w' (λb=>B<=b/\b≠q/\sl'.ownBlock≠some b) v k:=λhx=>by
  refine(hx.mono (S':=λb=>(B<=b/\b≠q/\sl'.ownBlock≠some b)/\sl.ownBlock≠some b) λb hb hlt=>⟨⟨hb.1,hb.2.1,?_⟩,hb.2.2⟩).keep (λb hb hlt=>hg.block b hlt λe=>hb.2 e.symm)|>.mono λb hb _=>hb.1
  grind
 refine⟨vs++[v],by simpa using ho,?_,by simp[h3],λi u x hu hx=> ?_⟩
 .grind
 .rcases Nat.lt_trichotomy i vs.length with hlt|rfl|hgt
  .grind
  .rw[h3,List.getElem?_append_right (x5 _)]at hx;simp at hu hx;subst hu;subst hx;refine key (hr.mono λb hb hlt=>⟨by omega,by omega,λe=> ?_⟩);have:=hs b e;omega
  grind
end
section
open Go.RowKit
attribute [local instance] dJ
variable{T:bz PA}
def Does(T:bz PA)(F p r e cap:Nat)(tm:Bool)(m:Int->g7->Option (eJ Nd)):Prop:=∀d s w x,m d s=some x->jf p r e cap tm w s->cb (aH T) F #[.pointer (some ⟨p,0,none⟩),.int .i64 d] w (Post p r e cap tm w.heap.size w x)
theorem kD{α β x}{f:α->g7->Option (eJ β)}{y}(h:bN x f=some y):(∃e s,x=some (.err e s)/\y= .err e s)\/∃a s,x=some (.ok a s)/\f a s=some y:=by
 cases x with
 |none=>cases h
 |some z=>cases z with
  |ok a s=>exact .inr ⟨a,s,rfl,h⟩
  |err e s=>exact .inl ⟨e,s,rfl,(Option.some.inj h).symm⟩
theorem fM{s y}(h:gn s=some y):y= .ok (s.n+1) ⟨s.ts,s.t,s.n+1,s.g⟩/\0<=s.n/\s.n<1000000:=by
 simp_all[gn]
theorem step_some{s y}(h:cy s=some y):∃t1 ts,s.ts=t1::ts/\y=if t1.kind=8 then .err .tok ⟨ts,t1,s.n,s.g⟩else .ok () ⟨ts,t1,s.n,s.g⟩:=by
 unfold cy at h;grind
def KQ(p r e cap:Nat)(tm:Bool)(e':Ending)(w':By):eJ Unit->Prop
 | .ok _ s'=>jf p r e cap tm w' s'/\e'= .returned (.tuple #[])
 | .err x s'=>x= .tok/\jf p r e cap tm w' s'/\e'= .panicked (thrown (gH e s'.t.bad))
theorem mf{p r e cap tm w s y}(hs:cy s=some y)(h:jf p r e cap tm w s):
 cb (aH T) 93 #[.pointer (some ⟨p,0,none⟩)] w λe' w'=>Kp w.heap.size [p,r] w w'/\KQ p r e cap tm e' w' y:=by
 obtain⟨t1,ts,h0,rfl⟩:=step_some hs;have h':PS p r e cap tm w (t1::ts) s.t s.n s.g:=h0▸h;refine(Ng h').mono λe' w' ⟨h1,h2,h3⟩=>⟨h2,?_⟩
 rcases h3 with⟨hk,rfl⟩|⟨hk,rfl⟩
 .rw[if_neg hk];exact⟨h1,rfl⟩
 .rw[if_pos hk];exact⟨rfl,h1,rfl⟩
theorem ErrAt.mono{e B B' w bad x a}(h:ErrAt e B w bad x a)(hB:B'<=B):ErrAt e B' w bad x a:=by
 cases x with
 |tok=>exact h
 |own k at_=>obtain⟨q,h1,h2,h3⟩:=h;exact⟨q,h1,SI hB h2,h3⟩
theorem Kids.alt{B w q sl ks id}(h:Kids B w q sl ks)(hq:B<=q)(hb:a7 w q 250 #[.int .i64 id,sl]):Repr w (λb=>B<=b) (.iface 244 (.pointer (some ⟨q,0,none⟩))) (.alt id ks):=by
 obtain⟨vs,h1,h2,h3,h4⟩:=h;exact .alt hq hb ⟨h1.1,h1.2.imp (λh=>h) λ⟨g,cap,cur,k1,k2,k3⟩=>⟨g,cap,cur,k1,SU _,k3⟩⟩ (λb e=>(eU h1 e).2) h3 λi v k hv hk=>(h4 i v k hv hk).mono λb hb _=>hb.1
theorem Kids.seq{B w q sl ks id}(h:Kids B w q sl ks)(hq:B<=q)(hb:a7 w q 269 #[.int .i64 id,sl]):Repr w (λb=>B<=b) (.iface 268 (.pointer (some ⟨q,0,none⟩))) (.seq id ks):=by
 obtain⟨vs,h1,h2,h3,h4⟩:=h;exact .seq hq hb ⟨h1.1,h1.2.imp (λh=>h) λ⟨g,cap,cur,k1,k2,k3⟩=>⟨g,cap,cur,k1,SU _,k3⟩⟩ (λb e=>(eU h1 e).2) h3 λi v k hv hk=>(h4 i v k hv hk).mono λb hb _=>hb.1
structure lQ(ty:TypeId)(p r e cap:Nat)(tm:Bool)(B:Nat)(w0:By)(id:Int)(q:Nat)(ks:List Nd)(s:g7)(sl:Sx)(w:By):Prop where
 ps:jf p r e cap tm w s
 kp:Kp B [p,r] w0 w
 lt:B<=q
 blk:a7 w q ty #[.int .i64 id,sl]
 kids:Kids B w q sl ks
theorem lQ.af{ty p r e cap tm B w0 w w' id q ks s sl}(h:lQ ty p r e cap tm B w0 id q ks s sl w)(he:w'.heap=w.heap):lQ ty p r e cap tm B w0 id q ks s sl w':=
 ⟨h.ps.af he,h.kp.af he,h.lt,h.blk.af he,h.kids.keep λb _ _ _=>by rw[he]⟩
theorem PS.lt{p r e cap tm w ts t n g}(h:PS p r e cap tm w ts t n g):p<w.heap.size/\r<w.heap.size/\p≠r:=by
 obtain⟨s,rc,hc⟩:=h.chan;exact⟨h.blk.lt,(SH.1 hc).1,h.blk.xT hc⟩
theorem PS.keep{p r e cap tm w w' ts t n g}(h:PS p r e cap tm w ts t n g)(hp:w'.heap[p]?=w.heap[p]?)(hr:w'.heap[r]?=w.heap[r]?):PS p r e cap tm w' ts t n g:=
 ⟨hp.trans h.blk,by rw[hr];exact h.chan⟩
theorem slice_form{w:By}{base e size n v xs}(h:w.ownsRow base e size v n xs):∃a n c,v= .slice a n c:=by
 rcases h.2 with⟨rfl,_⟩|⟨g,cap,cur,rfl,_⟩<;>exact⟨_,_,_,rfl⟩
theorem jc{w w':By}(he:w'.heap=w.heap)(a):w'.cell? a=w.cell? a:=by simp[SZ,he]
theorem lw(w:By)(t v):∀j u,[v][j]?=some u->(w.alloc (.cells #[v] t)).cell? ((⟨w.heap.size,0,none⟩:Addr).add j)=some u:=by
 intro j u hu;cases j with
 |zero=>simp at hu;subst hu;exact(a7.new w t #[v]).cell 0
 |succ j=>simp at hu
theorem one_one{v:Sx}(h:v.oneCell'=true):∀u∈[v],u.oneCell'=true:=λu hu=>by rw[AI.1 hu];omega
theorem AZ:(PA.info? 86).map (λi=>(i.zero,i.size,i.bytes))=some (some .nilIface,1,16):=by kernel_rfl
theorem AY:PA.underlying 248=some (.slice 86):=by kernel_rfl
theorem lQ.call{ty p r e cap tm B w0 w w' id q ks s s1 sl}(h:lQ ty p r e cap tm B w0 id q ks s sl w)(hp:p<B)(hr:r<B)(hB:B<=w0.heap.size)(h1:jf p r e cap tm w' s1)(h2:Kp w.heap.size [p,r] w w'):lQ ty p r e cap tm B w0 id q ks s1 sl w':=by
 have hm:∀b,B<=b->b<w.heap.size->w'.heap[b]?=w.heap[b]?:=λb hb hlt=>h2.2 b hlt λhx=>by
  grind
 have:=h.kp.1;exact⟨h1,h.kp.trans (h2.mono (by omega) λx hx _=>hx),h.lt,(hm q h.lt h.blk.lt).trans h.blk,h.kids.keep λb hb _ hlt=>hm b hb hlt⟩
theorem lQ.grow{ty p r e cap tm B C}{w0 w9 w10 w11 w12:By}{id q ks s1 sl v v' k o}(H:lQ ty p r e cap tm B w0 id q ks s1 sl w9)(hp:p<B)(hr:r<B)(hB:B<=w0.heap.size)
 (hk:Repr w9 (λb=>C<=b) v k) (hqC:q<C) (hsC:∀b,sl.ownBlock=some b->b<C) (h7:B<=C) (h11:w11.heap=(w9.alloc o).heap) {vs} (h1:w9.ownsRow B 86 1 sl vs.length vs) (h2:sl.ownBlock≠some q) (h3:vs.length=ks.length)
 (h4:∀(i:Nat) u x,vs[i]?=some u->ks[i]?=some x->Repr w9 (λb=>B<=b/\b≠q/\sl.ownBlock≠some b) u x)
 (ho:w10.ownsRow B 86 1 v' (vs.length+1) (vs++[v])) (hg:w11.grownBy w10 sl.ownBlock) (ha:v'.ownBlock=sl.ownBlock\/v'.ownBlock=some w11.heap.size) (h5:w12.heap=w10.heap):
 lQ ty p r e cap tm B w0 id q (ks++[k]) s1 v' (w12.setCell ⟨q,1,none⟩ v'):=by
 have hal:∀b,b<w9.heap.size->w11.heap[b]?=w9.heap[b]?:=λb hb=>by rw[h11];exact Below.heap_alloc _ _ _ hb
 have hsz:w11.heap.size=w9.heap.size+1:=by rw[h11];simp
 have hsame:∀b,b<w9.heap.size->sl.ownBlock≠some b->b≠q->(w12.setCell ⟨q,1,none⟩ v').heap[b]?=w9.heap[b]?:=λb hb hn hq=>by
  rw[Below.heap_setCell w12 ⟨q,1,none⟩ v' b hq,h5,hg.block b (by omega) λe=>hn e.symm,hal b hb]
 have hlt:=H.ps.lt;have h0:∀b,b<B->sl.ownBlock≠some b/\b≠q:=λb hb=>⟨λe=>by have:=(eU h1 e).2;omega,λe=>by have:=H.lt;omega⟩
 have hqs:=H.blk.lt;have h6:q<w11.heap.size:=by omega
 have hkid:Kids B w10 q v' (ks++[k]):=by
  refine Kids.append (C:=C) (w:=w11) (n:=0) (bt h1 λb _ hb=>hal b hb) h2 h3 (λi u x hu hx=>(h4 i u x hu hx).keep λb _ hb=>hal b hb) (hk.keep λb _ hb=>hal b hb) hqC hsC h7 h6 ho hg ha
 have hb12:a7 w12 q ty #[.int .i64 id,sl]:=by
  refine a7.af ?_ h5;exact(hg.block q h6 λe=>h2 e.symm).trans ((hal q hqs).trans H.blk)
 have hb13:a7 (w12.setCell ⟨q,1,none⟩ v') q ty #[.int .i64 id,v']:=by
  have:=hb12.bI 1 v';grind
 refine⟨H.ps.keep (hsame p hlt.1 (h0 p hp).1 (h0 p hp).2) (hsame r hlt.2.1 (h0 r hr).1 (h0 r hr).2),?_,H.lt,hb13,?_⟩
 .refine⟨?_,λb hb hx=> ?_⟩
  .have:=H.kp.1;have:=hg.size;simp;rw[h5];omega
  .rw[hsame b (by have:=H.kp.1;omega) (h0 b hb).1 (h0 b hb).2];exact H.kp.2 b hb hx
 .refine Kids.keep (w:=w10) hkid λb _ hq _=> ?_
  rw[Below.heap_setCell w12 ⟨q,1,none⟩ v' b hq,h5]
theorem Ns{p r e cap tm f}(hq:∀f'<f,Does T 118 p r e cap tm (kS f')):Does T 94 p r e cap tm (im f):=by
 intro d s w x hx hP;cases f with
 |zero=>simp[im]at hx
 |succ f=>
 unfold im at hx;rcases kD hx with⟨e1,s1,h1,_⟩|⟨id,s1,h1,hx⟩
 .exact absurd (fM h1).1 (by simp)
 obtain⟨h1,hn1,g2⟩:=fM h1;simp only[eJ.ok.injEq]at h1;obtain⟨rfl,rfl⟩:=h1;refine bu trivial (λ_=>Post.no) (PA.func Tryz.func94 (by decide)) rfl ?_;simp only[Tryz.ntmps94,Sv,IS,SF,SL,SK,No,IT,Sw,OF,SE,Sz];refine ac (λK hK=> ?_);refine ag (λw1 he=> ?_);have g0:=up (hP.af he);have hK1:=up ((Kp.refl w:Kp w.heap.size [p,r] w w).af he);go_wp2;refine hK.out _ _ ?_;clear hK K;refine ac (λK hK=> ?_);refine ag (λw2 he2=> ?_);have hg:=up (g0.out.af he2);have hK2:=up (hK1.out.af he2);go_wp2_with (go_at_call 117;refine(jU p w2 s.n _ _ _ _ _ _ _ _ _ _ _ hn1 (by omega) hg.out.blk).mono ?_;rintro e2 w3 ⟨rfl,hB3,hK3⟩)
 refine hK.out _ _ ?_;clear hK K;have hlt:=hg.out.lt;have e1:=congrArg SC he;have e2:=congrArg SC he2;have hj:Kp w.heap.size [p,r] w w3:=hK2.out.trans (hK3.mono (by omega) (λx hx _=>BY.2 (.inl (AI.1 hx))));have hsz:=hj.1;have hk:jf p r e cap tm w3 ⟨s.ts,s.t,s.n+1,s.g⟩:=⟨hB3,by
  obtain⟨sn,rc,hc⟩:=hg.out.chan;exact⟨sn,rc,(hK3.2 r hlt.2.1 (λh=>hlt.2.2 (AI.1 h).symm)).trans hc⟩⟩
 have g1:=hk.lt;have I0:lQ 250 p r e cap tm w.heap.size w (s.n+1) w3.heap.size [] ⟨s.ts,s.t,s.n+1,s.g⟩ (.slice none 0 0) (w3.alloc (.cells #[.int .i64 (s.n+1),.slice none 0 0] 250)):=
  ⟨hk.keep (Below.heap_alloc _ _ _ g1.1) (Below.heap_alloc _ _ _ g1.2.1),hj.alloc (x5 _) _,hsz,a7.new _ _ _,Kids.nil _ _ _⟩
 clear hP g0 hg hK1 hK2 hK3 hB3 hk hj;generalize w3.alloc (.cells #[.int .i64 (s.n+1),.slice none 0 0] 250)=w4 at I0 ⊢;generalize w3.heap.size=q at I0 ⊢;generalize s.n+1=id at hx I0;refine ec (m9 (λm a w'=>∃ks s' sl q u6 u7 u8 u9 u10 u11 u12 u13 u14 u15 u16 u17 u18 u19 u20 u21 u22 u23 u24 u25 u26 u27 u28 u29 u30 u31,a=⟨#[.pointer (some ⟨p,0,none⟩),.int .i64 d,undef,undef,.nilIface,.pointer (some ⟨q,0,none⟩),u6,u7,u8,u9,u10,u11,u12,u13,u14,u15,u16,u17,u18,u19,u20,u21,u22,u23,u24,u25,u26,u27,u28,u29,u30,u31],[]⟩/\il m d id ks s'=some x/\lQ 250 p r e cap tm w.heap.size w id q ks s' sl w'/\m<=f) f ⟨_,_,_,_,_,_,_,_,_,_,_,_,_,_,_,_,_,_,_,_,_,_,_,_,_,_,_,_,_,_,rfl,hx,I0,x5 _⟩ ?_);clear hx I0 hn1 g2;rintro m a w5 ⟨ks,s',sl,q,u6,u7,u8,u9,u10,u11,u12,u13,u14,u15,u16,u17,u18,u19,u20,u21,u22,u23,u24,u25,u26,u27,u28,u29,u30,u31,rfl,hx,I0,hm⟩;cases m with
 |zero=>simp[il]at hx
 |succ m=>
 unfold il at hx;split at hx;case isFalse=>cases hx
 rename_i hlen;obtain⟨y,hy,hxy⟩:∃y,kS m d s'=some y/\bN (some y) (λk s=>if s.t.kind=6 then bN (cy s) λ_ s=>il m d id (ks++[k]) s else some (.ok (.alt id (ks++[k])) s))=some x:=by
  cases hp:kS m d s' with
  |none=>rw[hp]at hx;cases hx
  |some y=>rw[hp]at hx;exact⟨y,rfl,hx⟩
 clear hx;obtain⟨i0,hl,hz0,hn,ho⟩:=info_parts AZ;have h9:=AY;refine ec ?_;refine vy (λK hK hKr=> ?_);refine qg rfl ?_;show iL _ _ _ _ 13 #[false,false,false,false,false,false,false,false,false,false,false,false,false] _ _;refine eI (i:=0) (v:=.pointer (some ⟨q,0,none⟩)) rfl (by decide+kernel) (by decide+kernel) (by decide+kernel) (λ_ _ _ h=>h) hKr.out (.inl ⟨rfl,λu=>by simp[go_sem]⟩) ?_;simp only[AS,zq0];refine eI (i:=1) (v:=.pointer (some ⟨q,0,none⟩)) rfl (by decide+kernel) (by decide+kernel) (by decide+kernel) (λ_ _ _ h=>h) hKr.out (.inl ⟨rfl,λu=>by simp[go_sem]⟩) ?_;simp only[AS,zq0];refine eI (i:=2) (v:=.pointer (some ⟨q,0,none⟩)) rfl (by decide+kernel) (by decide+kernel) (by decide+kernel) (λ_ _ _ h=>h) hKr.out (.inl ⟨rfl,λu=>by simp[go_sem]⟩) ?_;simp only[AS,zq0];refine eI (i:=3) (v:=.pointer (some ⟨q,1,none⟩)) rfl (by decide+kernel) (by decide+kernel) (by decide+kernel) (λ_ _ _ h=>h) hKr.out (.inl ⟨rfl,λu=>by simp[go_sem]⟩) ?_;simp only[AS,zq0];refine eI (i:=5) (v:=.pointer (some ⟨p,0,none⟩)) rfl (by decide+kernel) (by decide+kernel) (by decide+kernel) (λ_ _ _ h=>h) hKr.out (.inl ⟨rfl,λu=>by simp[go_sem]⟩) ?_;simp only[AS,zq0];refine eI (i:=6) (v:=.int .i64 d) rfl (by decide+kernel) (by decide+kernel) (by decide+kernel) (λ_ _ _ h=>h) hKr.out (.inl ⟨rfl,λu=>by simp[go_sem]⟩) ?_;simp only[AS,zq0];try simp only[AS,zq0]
 refine dr (rs:=[4,7]) (by decide+kernel) (by simp) ?_;intro i hi;simp only[BY,SJ,or_false]at hi;rcases hi with rfl|rfl
 .refine jg.walk rfl (λN hN w6 g3=> ?_);have I6:=up (I0.af g3);have c1:w6.cell? ⟨q,1,none⟩=some sl:=I6.out.blk.cell 1;go_wp2;refine hN.out _ _ ?_;clear hN N c1;try simp only[AS,zq0]
  refine dr (rs:=[7]) (by decide+kernel) (by simp) ?_;intro i hi;simp only[BY,SJ,or_false]at hi;subst hi;refine jg.call (f:=118) (R:=Post p r e cap tm w6.heap.size w6 y) rfl rfl (λu=>by simp[go_sem]) trivial (hq m (by omega) d s' w6 y hy I6.out.ps) (λv w8 hr=> ?_) (λch w8 hr=> ?_)
  .cases y with
   |err e1 s1=>obtain⟨_,h,_⟩:=hr;cases h
   |ok k s1=>
    obtain⟨v',hs,hP7,hf,hrep7⟩:=hr;cases hs;have I7:=I6.out.call (by omega) (by omega) (x5 _) hP7 hf;have hC:=I6.out.kp.1;have hqC:=I6.out.blk.lt;have hsC:∀b,sl.ownBlock=some b->b<w6.heap.size:=by
     obtain⟨vs,hv1,_⟩:=I6.out.kids;exactλb e=>(eU hv1 e).1
    generalize w6.heap.size=C at hC hqC hsC hrep7;clear hf hP7 I6 hy hq;have I8:=I7;have hrep:=hrep7;clear I7 hrep7;obtain⟨vs,hv1,hv2,hv3,hv4⟩:=I8.kids;obtain⟨vt,vq,rfl⟩:=hrep.form;try simp only[AS,zq0]
    refine dr (rs:=[8]) (by decide+kernel) (by simp) ?_;intro i hi;obtain rfl:=AI.1 hi;refine jg.walk rfl (λN hN w9 he9=> ?_);have I9:=I8.af he9;have hrep9:=hrep.keep (w':=w9) (λb _ _=>by rw[he9]);have hown9:=bt (w':=w9) hv1 (λb _ _=>by rw[he9]);have hv49:∀(i:Nat) u x,vs[i]?=some u->ks[i]?=some x->Repr w9 _ u x:=λi u x h1 h2=>(hv4 i u x h1 h2).keep (w':=w9) (λb _ _=>by rw[he9])
    have hsz9:w9.heap.size=w8.heap.size:=congrArg SC he9;have H1:=up I9;have H2:=up hrep9;have H3:=up hown9;have H4:=up hv49;have H5:=up hsz9;have H6:=up hv3;clear hv1 hv4 hrep I8 he9 I9 hrep9 hown9 hv49 hsz9 hv3;go_wp2;refine hN.out _ _ ?_;clear hN N;have hn3:=H6.out;have hsz:=H1.out.kp.1;simp only[AS,zq0];refine dr (rs:=[9]) (by decide+kernel) (by simp) ?_;intro i hi;obtain rfl:=AI.1 hi;have hown10:=bt (w':=w9.alloc (.cells #[.iface vt (.pointer (some ⟨vq,0,none⟩))] 86)) H3.out (λb _ hlt=>Below.heap_alloc _ _ b hlt);have hv410:∀(i:Nat) u x,vs[i]?=some u->ks[i]?=some x->Repr (w9.alloc (.cells #[.iface vt (.pointer (some ⟨vq,0,none⟩))] 86)) _ u x:=λi u x h1 h2=>(H4.out i u x h1 h2).keep (w':=w9.alloc (.cells #[.iface vt (.pointer (some ⟨vq,0,none⟩))] 86)) (λb _ hlt=>Below.heap_alloc _ _ b hlt)
    have hrep10:=H2.out.keep (w':=w9.alloc (.cells #[.iface vt (.pointer (some ⟨vq,0,none⟩))] 86)) (λb _ hlt=>Below.heap_alloc _ _ b hlt);refine jg.walk rfl (λN hN w11 he11=> ?_);have hn11:=λj u hu=>(jc he11 _).trans (lw w9 86 (.iface vt (.pointer (some ⟨vq,0,none⟩))) j u hu)
    refine wpList_append_own_at _ rfl (.tmp 14) (.tmp 18) _ rfl w.heap.size 86 i0 .nilIface 1 16 h9 hl hz0 hn ho rfl (by decide) sl vs.length vs rfl (bt (w':=w11) hown10 (λb _ _=>by rw[he11])) ⟨w9.heap.size,0,none⟩ 1 1 [.iface vt (.pointer (some ⟨vq,0,none⟩))] rfl rfl hn11 (one_one H2.out.one) (by simp only[maxLen];omega) (by omega) (by rw[he11];simp;omega) ?_;intro v' w10 hown' hgrow _ hat;refine wpList_nil (hN.out _ _ ?_);clear hN N;obtain⟨va,vn,vc,rfl⟩:=slice_form hown';simp only[AS,zq0];refine lI (k:=10) (by decide+kernel) rfl (λw12 he12=> ?_);simp only[Sy,SN];have I13:=H1.out.grow (by omega) (by omega) (x5 _) H2.out hqC hsC hC he11 H3.out hv2 hn3 H4.out hown' hgrow hat he12;have hb12:a7 w12 q 250 #[.int .i64 id,sl]:=by
     refine a7.af ?_ he12;exact(hgrow.block q (by rw[he11];have:=H1.out.blk.lt;simp;omega) λe=>hv2 e.symm).trans ((congrArg (·[q]?) he11).trans ((Below.heap_alloc _ _ _ H1.out.blk.lt).trans H1.out.blk))
    have hc12:w12.cell? ⟨q,1,none⟩=some sl:=hb12.cell 1;have hf12:w12.frozen? ⟨q,1,none⟩=false:=hb12.frozen 1;clear hgrow hown' hat hb12 hn11 hown10 hv410 hrep10 he12 he11 H2 H3 H4 H5 H6 hv2 hn3 hsz H1 hqC hsC hC;have I13:=up I13;go_wp2;refine hK.out _ _ ?_;clear hc12 hf12;generalize Su _ _ _=w13 at I13 ⊢;clear hK K hKr;dsimp only[bN]at hxy;refine ac (λK hK=> ?_);by_cases h6:s1.t.kind=6
    .rw[if_pos h6]at hxy;refine ag (λw14 h0=> ?_);have I14:=up (I13.out.af h0);have h3:=I14.out.ps.blk;have c1_:w14.cell? ⟨p,1,none⟩=some (.int .i64 s1.t.kind):=h3.cell 1;have h7:(s1.t.kind==6)=true:=by simpa using h6
     clear h3 h0 I13;go_wp2;refine hK.out _ _ ?_;clear hK K c1_ h7;refine ao ?_;show aV _ _ _ (AT 0 (1+1)) _ _;refine aW 0 1 1 (λN hN w15 h5=> ?_) (by decide);simp only[zq1];have I15:=up (I14.out.af h5);clear h5 I14;go_wp2;refine hN.out _ _ ?_;clear hN N;obtain⟨z,hz,h8⟩:∃z,cy s1=some z/\bN (some z) (λ_ s=>il m d id (ks++[k]) s)=some x:=by
      cases hp:cy s1 with
      |none=>rw[hp]at hxy;cases hxy
      |some z=>rw[hp]at hxy;exact⟨z,rfl,hxy⟩
     refine bF (f:=93) (i:=1) (rest:=[]) rfl rfl (λu=>by simp[go_sem]) trivial (mf hz I15.out.ps) (λu w16 hr=> ?_) (λch w16 hr=> ?_)
     .obtain⟨h4,hr⟩:=hr;cases z with
      |err e2 s2=>obtain⟨_,_,h⟩:=hr;cases h
      |ok _ s2=>
       refine az ?_;simp only[AS,zq0];exact⟨m,IN m,ks++[k],s2,_,q,_,_,_,_,_,_,_,_,_,_,_,_,_,_,_,_,_,_,_,_,_,_,_,_,_,_,rfl,h8,I15.out.call (by omega) (by omega) (x5 _) hr.1 h4,by omega⟩
     .obtain⟨h4,hr⟩:=hr;cases z with
      |ok _ s2=>obtain⟨_,h⟩:=hr;cases h
      |err e2 s2=>
       obtain⟨rfl,hd,hch⟩:=hr;cases hch;cases Option.some.inj h8;exact⟨rfl,_,rfl,hd,I15.out.kp.trans (h4.mono I15.out.kp.1 λx hx _=>hx),rfl⟩
    .rw[if_neg h6]at hxy;cases Option.some.inj hxy;refine ag (λw14 h0=> ?_);have I14:=up (I13.out.af h0);have h3:=I14.out.ps.blk;have c1_:w14.cell? ⟨p,1,none⟩=some (.int .i64 s1.t.kind):=h3.cell 1;have h7:(s1.t.kind==6)=false:=by simpa using h6
     clear h3 h0 I13;go_wp2;go_ret;exact⟨_,rfl,I14.out.ps,I14.out.kp,I14.out.kids.alt I14.out.lt I14.out.blk⟩
  .cases y with
   |ok k s1=>obtain⟨_,h,_⟩:=hr;cases h
   |err e1 s1=>
    obtain⟨a,ha,ht,hv,hw⟩:=hr;cases ha;cases Option.some.inj hxy;exact⟨rfl,_,rfl,ht,I6.out.kp.trans (hv.mono I6.out.kp.1 λx hx _=>hx),hw.mono I6.out.kp.1⟩
 .refine jg.call (f:=118) (R:=Post p r e cap tm w5.heap.size w5 y) rfl rfl λu=>by simp[go_sem] trivial (hq m (by omega) d s' w5 y hy I0.ps) (λv w7 hr=> ?_) λch w7 hr=> ?_
  .cases y with
   |err e1 s1=>obtain⟨_,h,_⟩:=hr;cases h
   |ok k s1=>
    obtain⟨v',hs,hP7,hf,hrep7⟩:=hr;cases hs;have I7:=I0.call (by omega) (by omega) (x5 _) hP7 hf;have hC:=I0.kp.1;have hqC:=I0.blk.lt;have hsC:∀b,sl.ownBlock=some b->b<w5.heap.size:=by
     obtain⟨vs,hv1,_⟩:=I0.kids;exactλb e=>(eU hv1 e).1
    generalize w5.heap.size=C at hC hqC hsC hrep7;clear hf hP7 I0 hy hq;try simp only[AS,zq0]
    refine dr (rs:=[4,8]) (by decide+kernel) (by simp) ?_;intro i hi;simp only[BY,SJ,or_false]at hi;rcases hi with rfl|rfl
    .refine jg.walk rfl λN hN w8 he8=> ?_
     have I8:=I7.af he8;have hrep:=hrep7.keep (w':=w8) λb _ _=>by rw[he8]
     have c1:w8.cell? ⟨q,1,none⟩=some sl:=I8.blk.cell 1;clear I7 hrep7 he8;have I8':=up I8;have hrep':=up hrep;clear I8 hrep;go_wp2;refine hN.out _ _ ?_;clear hN N c1;have I8:=I8'.out;have hrep:=hrep'.out;clear I8' hrep';obtain⟨vs,hv1,hv2,hv3,hv4⟩:=I8.kids;obtain⟨vt,vq,rfl⟩:=hrep.form;try simp only[AS,zq0]
     refine dr (rs:=[8]) (by decide+kernel) (by simp) ?_;intro i hi;obtain rfl:=AI.1 hi;refine jg.walk rfl λN hN w9 he9=> ?_
     have I9:=I8.af he9;have hrep9:=hrep.keep (w':=w9) λb _ _=>by rw[he9]
     have hown9:=bt (w':=w9) hv1 λb _ _=>by rw[he9]
     have hv49:∀(i:Nat) u x,vs[i]?=some u->ks[i]?=some x->Repr w9 _ u x:=λi u x h1 h2=>(hv4 i u x h1 h2).keep (w':=w9) λb _ _=>by rw[he9]
     have hsz9:w9.heap.size=w8.heap.size:=congrArg SC he9;have H1:=up I9;have H2:=up hrep9;have H3:=up hown9;have H4:=up hv49;have H5:=up hsz9;have H6:=up hv3;clear hv1 hv4 hrep I8 he9 I9 hrep9 hown9 hv49 hsz9 hv3;go_wp2;refine hN.out _ _ ?_;clear hN N;have hn3:=H6.out;have hsz:=H1.out.kp.1;simp only[AS,zq0];refine dr (rs:=[9]) (by decide+kernel) (by simp) ?_;intro i hi;obtain rfl:=AI.1 hi;have hown10:=bt (w':=w9.alloc (.cells #[.iface vt (.pointer (some ⟨vq,0,none⟩))] 86)) H3.out λb _ hlt=>Below.heap_alloc _ _ b hlt
     have hv410:∀(i:Nat) u x,vs[i]?=some u->ks[i]?=some x->Repr (w9.alloc (.cells #[.iface vt (.pointer (some ⟨vq,0,none⟩))] 86)) _ u x:=λi u x h1 h2=>(H4.out i u x h1 h2).keep (w':=w9.alloc (.cells #[.iface vt (.pointer (some ⟨vq,0,none⟩))] 86)) λb _ hlt=>Below.heap_alloc _ _ b hlt
     have hrep10:=H2.out.keep (w':=w9.alloc (.cells #[.iface vt (.pointer (some ⟨vq,0,none⟩))] 86)) λb _ hlt=>Below.heap_alloc _ _ b hlt
     refine jg.walk rfl λN hN w11 he11=> ?_
     have hn11:=λj u hu=>(jc he11 _).trans (lw w9 86 (.iface vt (.pointer (some ⟨vq,0,none⟩))) j u hu)
     refine wpList_append_own_at _ rfl (.tmp 14) (.tmp 18) _ rfl w.heap.size 86 i0 .nilIface 1 16 h9 hl hz0 hn ho rfl (by decide) sl vs.length vs rfl (bt (w':=w11) hown10 λb _ _=>by rw[he11]) ⟨w9.heap.size,0,none⟩ 1 1 [.iface vt (.pointer (some ⟨vq,0,none⟩))] rfl rfl hn11 (one_one H2.out.one) (by simp only[maxLen];omega) (by omega) (by rw[he11];simp;omega) ?_;intro v' w10 hown' hgrow _ hat;refine wpList_nil (hN.out _ _ ?_);clear hN N;obtain⟨va,vn,vc,rfl⟩:=slice_form hown';simp only[AS,zq0];refine lI (k:=10) (by decide+kernel) rfl λw12 he12=> ?_
     simp only[Sy,SN];have I13:=H1.out.grow (by omega) (by omega) (x5 _) H2.out hqC hsC hC he11 H3.out hv2 hn3 H4.out hown' hgrow hat he12;have hb12:a7 w12 q 250 #[.int .i64 id,sl]:=by
      refine a7.af ?_ he12;exact(hgrow.block q (by rw[he11];have:=H1.out.blk.lt;simp;omega) λe=>hv2 e.symm).trans ((congrArg (·[q]?) he11).trans ((Below.heap_alloc _ _ _ H1.out.blk.lt).trans H1.out.blk))
     have hc12:w12.cell? ⟨q,1,none⟩=some sl:=hb12.cell 1;have hf12:w12.frozen? ⟨q,1,none⟩=false:=hb12.frozen 1;clear hgrow hown' hat hb12 hn11 hown10 hv410 hrep10 he12 he11 H2 H3 H4 H5 H6 hv2 hn3 hsz H1 hqC hsC hC;have I13:=up I13;go_wp2;refine hK.out _ _ ?_;clear hc12 hf12;generalize Su _ _ _=w13 at I13 ⊢;clear hK K hKr;dsimp only[bN]at hxy;refine ac λK hK=> ?_
     by_cases h6:s1.t.kind=6
     .rw[if_pos h6]at hxy;refine ag λw14 h0=> ?_
      have I14:=up (I13.out.af h0);have h3:=I14.out.ps.blk;have c1_:w14.cell? ⟨p,1,none⟩=some (.int .i64 s1.t.kind):=h3.cell 1;have h7:(s1.t.kind==6)=true:=by simpa using h6
      clear h3 h0 I13;go_wp2;refine hK.out _ _ ?_;clear hK K c1_ h7;refine ao ?_;show aV _ _ _ (AT 0 (1+1)) _ _;refine aW 0 1 1 (λN hN w15 h5=> ?_) (by decide);simp only[zq1];have I15:=up (I14.out.af h5);clear h5 I14;go_wp2;refine hN.out _ _ ?_;clear hN N;obtain⟨z,hz,h8⟩:∃z,cy s1=some z/\bN (some z) (λ_ s=>il m d id (ks++[k]) s)=some x:=by
       cases hp:cy s1 with
       |none=>rw[hp]at hxy;cases hxy
       |some z=>rw[hp]at hxy;exact⟨z,rfl,hxy⟩
      refine bF (f:=93) (i:=1) (rest:=[]) rfl rfl λu=>by simp[go_sem] trivial (mf hz I15.out.ps) (λu w16 hr=> ?_) λch w16 hr=> ?_
      .obtain⟨h4,hr⟩:=hr;cases z with
       |err e2 s2=>obtain⟨_,_,h⟩:=hr;cases h
       |ok _ s2=>
        refine az ?_;simp only[AS,zq0];exact⟨m,IN m,ks++[k],s2,_,q,_,_,_,_,_,_,_,_,_,_,_,_,_,_,_,_,_,_,_,_,_,_,_,_,_,_,rfl,h8,I15.out.call (by omega) (by omega) (x5 _) hr.1 h4,by omega⟩
      .obtain⟨h4,hr⟩:=hr;cases z with
       |ok _ s2=>obtain⟨_,h⟩:=hr;cases h
       |err e2 s2=>
        obtain⟨rfl,hd,hch⟩:=hr;cases hch;cases Option.some.inj h8;exact⟨rfl,_,rfl,hd,I15.out.kp.trans (h4.mono I15.out.kp.1 λx hx _=>hx),rfl⟩
     .rw[if_neg h6]at hxy;cases Option.some.inj hxy;refine ag λw14 h0=> ?_
      have I14:=up (I13.out.af h0);have h3:=I14.out.ps.blk;have c1_:w14.cell? ⟨p,1,none⟩=some (.int .i64 s1.t.kind):=h3.cell 1;have h7:(s1.t.kind==6)=false:=by simpa using h6
      clear h3 h0 I13;go_wp2;go_ret;exact⟨_,rfl,I14.out.ps,I14.out.kp,I14.out.kids.alt I14.out.lt I14.out.blk⟩
    .have I8:=I7;have hrep:=hrep7;clear I7 hrep7;obtain⟨vs,hv1,hv2,hv3,hv4⟩:=I8.kids;obtain⟨vt,vq,rfl⟩:=hrep.form;refine jg.walk rfl λN hN w9 he9=> ?_
     have I9:=I8.af he9;have hrep9:=hrep.keep (w':=w9) λb _ _=>by rw[he9]
     have hown9:=bt (w':=w9) hv1 λb _ _=>by rw[he9]
     have hv49:∀(i:Nat) u x,vs[i]?=some u->ks[i]?=some x->Repr w9 _ u x:=λi u x h1 h2=>(hv4 i u x h1 h2).keep (w':=w9) λb _ _=>by rw[he9]
     have hsz9:w9.heap.size=w7.heap.size:=congrArg SC he9;have H1:=up I9;have H2:=up hrep9;have H3:=up hown9;have H4:=up hv49;have H5:=up hsz9;have H6:=up hv3;clear hv1 hv4 hrep I8 he9 I9 hrep9 hown9 hv49 hsz9 hv3;go_wp2;refine hN.out _ _ ?_;clear hN N;have hn3:=H6.out;have hsz:=H1.out.kp.1;simp only[AS,zq0];refine dr (rs:=[4]) (by decide+kernel) (by simp) ?_;intro i hi;obtain rfl:=AI.1 hi;refine jg.walk rfl λN hN wm hem=> ?_
     have c1m:wm.cell? ⟨q,1,none⟩=some sl:=(jc hem _).trans ((Ta _ _ ⟨q,1,none⟩ H1.out.blk.lt).trans (H1.out.blk.cell 1));have hem':=up hem;clear hem;go_wp2;refine hN.out _ _ ?_;clear hN N c1m;simp only[AS,zq0];refine dr (rs:=[9]) (by decide+kernel) (by simp) ?_;intro i hi;obtain rfl:=AI.1 hi;have hown10:=bt (w':=w9.alloc (.cells #[.iface vt (.pointer (some ⟨vq,0,none⟩))] 86)) H3.out λb _ hlt=>Below.heap_alloc _ _ b hlt
     have hv410:∀(i:Nat) u x,vs[i]?=some u->ks[i]?=some x->Repr (w9.alloc (.cells #[.iface vt (.pointer (some ⟨vq,0,none⟩))] 86)) _ u x:=λi u x h1 h2=>(H4.out i u x h1 h2).keep (w':=w9.alloc (.cells #[.iface vt (.pointer (some ⟨vq,0,none⟩))] 86)) λb _ hlt=>Below.heap_alloc _ _ b hlt
     have hrep10:=H2.out.keep (w':=w9.alloc (.cells #[.iface vt (.pointer (some ⟨vq,0,none⟩))] 86)) λb _ hlt=>Below.heap_alloc _ _ b hlt
     refine jg.walk rfl λN hN w11 hh=> ?_
     have he11:=hh.trans hem'.out;clear hh hem';have hn11:=λj u hu=>(jc he11 _).trans (lw w9 86 (.iface vt (.pointer (some ⟨vq,0,none⟩))) j u hu)
     refine wpList_append_own_at _ rfl (.tmp 14) (.tmp 18) _ rfl w.heap.size 86 i0 .nilIface 1 16 h9 hl hz0 hn ho rfl (by decide) sl vs.length vs rfl (bt (w':=w11) hown10 λb _ _=>by rw[he11]) ⟨w9.heap.size,0,none⟩ 1 1 [.iface vt (.pointer (some ⟨vq,0,none⟩))] rfl rfl hn11 (one_one H2.out.one) (by simp only[maxLen];omega) (by omega) (by rw[he11];simp;omega) ?_;intro v' w10 hown' hgrow _ hat;refine wpList_nil (hN.out _ _ ?_);clear hN N;obtain⟨va,vn,vc,rfl⟩:=slice_form hown';simp only[AS,zq0];refine lI (k:=10) (by decide+kernel) rfl λw12 he12=> ?_
     simp only[Sy,SN];have I13:=H1.out.grow (by omega) (by omega) (x5 _) H2.out hqC hsC hC he11 H3.out hv2 hn3 H4.out hown' hgrow hat he12;have hb12:a7 w12 q 250 #[.int .i64 id,sl]:=by
      refine a7.af ?_ he12;exact(hgrow.block q (by rw[he11];have:=H1.out.blk.lt;simp;omega) λe=>hv2 e.symm).trans ((congrArg (·[q]?) he11).trans ((Below.heap_alloc _ _ _ H1.out.blk.lt).trans H1.out.blk))
     have hc12:w12.cell? ⟨q,1,none⟩=some sl:=hb12.cell 1;have hf12:w12.frozen? ⟨q,1,none⟩=false:=hb12.frozen 1;clear hgrow hown' hat hb12 hn11 hown10 hv410 hrep10 he12 he11 H2 H3 H4 H5 H6 hv2 hn3 hsz H1 hqC hsC hC;have I13:=up I13;go_wp2;refine hK.out _ _ ?_;clear hc12 hf12;generalize Su _ _ _=w13 at I13 ⊢;clear hK K hKr;dsimp only[bN]at hxy;refine ac λK hK=> ?_
     by_cases h6:s1.t.kind=6
     .rw[if_pos h6]at hxy;refine ag λw14 h0=> ?_
      have I14:=up (I13.out.af h0);have h3:=I14.out.ps.blk;have c1_:w14.cell? ⟨p,1,none⟩=some (.int .i64 s1.t.kind):=h3.cell 1;have h7:(s1.t.kind==6)=true:=by simpa using h6
      clear h3 h0 I13;go_wp2;refine hK.out _ _ ?_;clear hK K c1_ h7;refine ao ?_;show aV _ _ _ (AT 0 (1+1)) _ _;refine aW 0 1 1 (λN hN w15 h5=> ?_) (by decide);simp only[zq1];have I15:=up (I14.out.af h5);clear h5 I14;go_wp2;refine hN.out _ _ ?_;clear hN N;obtain⟨z,hz,h8⟩:∃z,cy s1=some z/\bN (some z) (λ_ s=>il m d id (ks++[k]) s)=some x:=by
       cases hp:cy s1 with
       |none=>rw[hp]at hxy;cases hxy
       |some z=>rw[hp]at hxy;exact⟨z,rfl,hxy⟩
      refine bF (f:=93) (i:=1) (rest:=[]) rfl rfl λu=>by simp[go_sem] trivial (mf hz I15.out.ps) (λu w16 hr=> ?_) λch w16 hr=> ?_
      .obtain⟨h4,hr⟩:=hr;cases z with
       |err e2 s2=>obtain⟨_,_,h⟩:=hr;cases h
       |ok _ s2=>
        refine az ?_;simp only[AS,zq0];exact⟨m,IN m,ks++[k],s2,_,q,_,_,_,_,_,_,_,_,_,_,_,_,_,_,_,_,_,_,_,_,_,_,_,_,_,_,rfl,h8,I15.out.call (by omega) (by omega) (x5 _) hr.1 h4,by omega⟩
      .obtain⟨h4,hr⟩:=hr;cases z with
       |ok _ s2=>obtain⟨_,h⟩:=hr;cases h
       |err e2 s2=>
        obtain⟨rfl,hd,hch⟩:=hr;cases hch;cases Option.some.inj h8;exact⟨rfl,_,rfl,hd,I15.out.kp.trans (h4.mono I15.out.kp.1 λx hx _=>hx),rfl⟩
     .rw[if_neg h6]at hxy;cases Option.some.inj hxy;refine ag λw14 h0=> ?_
      have I14:=up (I13.out.af h0);have h3:=I14.out.ps.blk;have c1_:w14.cell? ⟨p,1,none⟩=some (.int .i64 s1.t.kind):=h3.cell 1;have h7:(s1.t.kind==6)=false:=by simpa using h6
      clear h3 h0 I13;go_wp2;go_ret;exact⟨_,rfl,I14.out.ps,I14.out.kp,I14.out.kids.alt I14.out.lt I14.out.blk⟩
  .cases y with
   |ok k s1=>obtain⟨_,h,_⟩:=hr;cases h
   |err e1 s1=>
    obtain⟨a,ha,ht,hv,hw⟩:=hr;cases ha;cases Option.some.inj hxy;exact⟨rfl,_,rfl,ht,I0.kp.trans (hv.mono I0.kp.1 λx hx _=>hx),hw.mono I0.kp.1⟩
structure vu(p r e cap:Nat)(tm:Bool)(B:Nat)(w0:By)(k:Nd)(s:g7)(v:Sx)(w:By):Prop where
 ps:jf p r e cap tm w s
 kp:Kp B [p,r] w0 w
 rep:Repr w (λb=>B<=b) v k
theorem vu.af{p r e cap tm B w0 w w' k s v}(h:vu p r e cap tm B w0 k s v w)(he:w'.heap=w.heap):vu p r e cap tm B w0 k s v w':=
 ⟨h.ps.af he,h.kp.af he,h.rep.keep λb _ _=>by rw[he]⟩
theorem eD{B p r w0 w w'}(h:Kp B [p,r] w0 w)(h':Kp w.heap.size [p,r] w w')(hB:B<=w0.heap.size):Kp B [p,r] w0 w':=h.trans (h'.mono (SI hB h.1) λx hx _=>hx)
theorem Az{B p r w w' k v}(h:Repr w (λb=>B<=b) v k)(h':Kp w.heap.size [p,r] w w')(hp:p<B)(hr:r<B):Repr w' (λb=>B<=b) v k:=
 h.keep λb hb hlt=>h'.2 b hlt λhx=>by
  grind
theorem PS.part{p r e cap tm w w' s}(h:jf p r e cap tm w s)(hB:a7 w' p 197 #[.chan (some r),.int .i64 s.t.kind,.int .i64 s.t.at_,.int .u64 s.t.b0,.int .u64 s.t.b1,.int .u64 s.t.b2,.int .u64 s.t.b3,.int .i64 s.t.least,.int .i64 s.t.most,.pointer (gH e s.t.bad),.int .i64 (s.n+1),.int .i64 s.g])(hK:Kp w.heap.size [p] w w'):jf p r e cap tm w' ⟨s.ts,s.t,s.n+1,s.g⟩:=⟨hB,by
 obtain⟨sn,rc,hc⟩:=h.chan;exact⟨sn,rc,(hK.2 r h.lt.2.1 λhx=>h.lt.2.2 (AI.1 hx).symm).trans hc⟩⟩
theorem M8{p r e cap tm f}(hq:∀f'<f,Does T 162 p r e cap tm (ik f')):Does T 142 p r e cap tm (gm f):=by
 intro d s w x hx hP;cases f with
 |zero=>simp[gm]at hx
 |succ f=>
 unfold gm at hx;obtain⟨y,hy,hxy⟩:∃y,ik f d s=some y/\bN (some y) (λk s=>fP f k s)=some x:=by
  cases hp:ik f d s with
  |none=>rw[hp]at hx;cases hx
  |some y=>rw[hp]at hx;exact⟨y,rfl,hx⟩
 clear hx;have hlt:=hP.lt;refine bu trivial (λ_=>Post.no) (PA.func Tryz.func142 (by decide)) rfl ?_;simp only[Tryz.ntmps142,Sv,IS,SF,SL,SK,No,IT,Sw,OF,SE,Sz];refine ac λK hK=> ?_
 refine ag λw1 he=> ?_
 have hd:=up (hP.af he);have hK1:=up ((Kp.refl w:Kp w.heap.size [p,r] w w).af he);go_wp2;refine hK.out _ _ ?_;clear hK K;refine ac λK hK=> ?_
 refine ao ?_;show aV _ _ _ (AT 0 (2+2)) _ _;refine aW 0 2 2 (λN hN w2 he2=> ?_) (by decide);simp only[zq1];have hf:=up (hd.out.af he2);have hK2:=up (hK1.out.af he2);clear he2 he hd hK1 hP;go_wp2;refine hN.out _ _ ?_;clear hN N;refine bF (f:=162) (R:=Post p r e cap tm w2.heap.size w2 y) (i:=2) (rest:=AT 3 (1+0)) rfl rfl λu=>by simp[go_sem] trivial (hq f (by omega) d s w2 y hy hf.out) (λv w3 hr=> ?_) λch w3 hr=> ?_
 rotate_left
 .cases y with
  |ok k s1=>obtain⟨_,h,_⟩:=hr;cases h
  |err e1 s1=>
   obtain⟨a,ha,hk,hl,hn⟩:=hr;cases ha;cases Option.some.inj hxy;exact⟨rfl,_,rfl,hk,eD hK2.out hl (x5 _),hn.mono hK2.out.1⟩
 cases y with
 |err e1 s1=>obtain⟨_,h,_⟩:=hr;cases h
 |ok k s1=>
 obtain⟨v',ho,hg,hK3,h6⟩:=hr;cases ho;have I3:vu p r e cap tm w.heap.size w k s1 v w3:=⟨hg,eD hK2.out hK3 (x5 _),h6.mono λb hb _=>SI hK2.out.1 hb⟩;clear hg hK3 h6 hf hK2;simp only[AS,zq0];refine aW 3 1 0 (λN hN w4 he4=> ?_) (by decide);simp only[zq1];have I4:=up (I3.af he4);clear he4 I3;go_wp2;refine hN.out _ _ (az (hK.out _ _ ?_));clear hN N hK K;dsimp only[bN]at hxy;refine ac λK hK=> ?_
 refine ec (m9 (λm a w'=>∃k s' v,(∃u6 u7 u8 u9 u10 u11 u12 u13 u14 u15 u16 u17 u18 u19 u20 u21 u22 u23 u24 u25 u26 u27 u28 u29 u30 u31 u32 u33 u34 u35 u36 u37 u38 u39 u40 u41 u42 u43 u44 u45,a=⟨#[.pointer (some ⟨p,0,none⟩),.int .i64 d,undef,undef,.nilIface,v,u6,u7,u8,u9,u10,u11,u12,u13,u14,u15,u16,u17,u18,u19,u20,u21,u22,u23,u24,u25,u26,u27,u28,u29,u30,u31,u32,u33,u34,u35,u36,u37,u38,u39,u40,u41,u42,u43,u44,u45],[]⟩)/\fP m k s'=some x/\vu p r e cap tm w.heap.size w k s' v w'/\m<=f) f ⟨_,_,_,⟨_,_,_,_,_,_,_,_,_,_,_,_,_,_,_,_,_,_,_,_,_,_,_,_,_,_,_,_,_,_,_,_,_,_,_,_,_,_,_,_,rfl⟩,hxy,I4.out,x5 _⟩ ?_);clear hxy I4 hy;rintro m a w5 ⟨k,s',v,⟨u6,u7,u8,u9,u10,u11,u12,u13,u14,u15,u16,u17,u18,u19,u20,u21,u22,u23,u24,u25,u26,u27,u28,u29,u30,u31,u32,u33,u34,u35,u36,u37,u38,u39,u40,u41,u42,u43,u44,u45,rfl⟩,hx,I5,hm⟩;cases m with
 |zero=>simp[fP]at hx
 |succ m=>
 unfold fP at hx;refine ac λL hL=> ?_
 by_cases h7:s'.t.kind=7
 .rw[if_pos h7]at hx;have b7:(s'.t.kind==7)=true:=by simp[h7]
  refine ag λw6 h3=> ?_
  have I6:=up (I5.af h3);have h4:=I6.out.ps.blk;have c1_:w6.cell? ⟨p,1,none⟩=some (.int .i64 s'.t.kind):=h4.cell 1;clear h4 h3 I5;go_wp2;refine hL.out _ _ ?_;clear hL L c1_ b7;refine ec ?_;refine ac λL hL=> ?_
  by_cases hb:s'.t.bad=true
  .rw[if_pos hb]at hx;cases Option.some.inj hx;refine ag λw7 h0=> ?_
   have I7:=up (I6.out.af h0);have h5:=I7.out.ps.blk;have c9_:w7.cell? ⟨p,9,none⟩=some (.pointer (some ⟨e,0,none⟩)):=by have:=h5.cell 9;rw[hb]at this;exact this
   clear h5 h0 I6;go_wp2;exact⟨rfl,_,rfl,I7.out.ps,I7.out.kp,by rw[hb];rfl⟩
  .rw[if_neg hb]at hx;have hb':s'.t.bad=false:=by simpa using hb
   refine ag λw7 h0=> ?_
   have I7:=up (I6.out.af h0);have h5:=I7.out.ps.blk;have c9_:w7.cell? ⟨p,9,none⟩=some (.pointer none):=by have:=h5.cell 9;rw[hb']at this;exact this
   clear h5 h0 I6;go_wp2;refine hL.out _ _ ?_;clear hL L c9_;rcases kD hx with⟨e1,s1,h1,_⟩|⟨id,s1,h1,hx⟩
   .exact absurd (fM h1).1 (by simp)
   obtain⟨h1,hn1,hn2⟩:=fM h1;simp only[eJ.ok.injEq]at h1;obtain⟨rfl,rfl⟩:=h1;refine ac λL hL=> ?_
   refine ag λw8 he8=> ?_
   have I8:=up (I7.out.af he8);have h8:=I8.out.ps.blk;have c7_:w8.cell? ⟨p,7,none⟩=some (.int .i64 s'.t.least):=h8.cell 7;have c8_:w8.cell? ⟨p,8,none⟩=some (.int .i64 s'.t.most):=h8.cell 8;have h9:=up h8;clear h8 he8 I7;obtain⟨vt,vq,rfl⟩:=I8.out.rep.form;go_region_held3 (λw'=>w'.cell? ⟨p,7,none⟩=some (.int .i64 s'.t.least)/\w'.cell? ⟨p,8,none⟩=some (.int .i64 s'.t.most)) (first |go_keep|exact⟨hB9.cell 7,hB9.cell 8⟩) (first |(go_at_call 117;refine(jU p _ s'.n _ _ _ _ _ _ _ _ _ _ _ hn1 (by omega) (a7.drew h9.out)).mono ?_;rintro e9 w9 ⟨rfl,hB9,hK9⟩))
   refine hL.out _ _ ?_;have hP9:jf p r e cap tm w9 ⟨s'.ts,s'.t,s'.n+1,s'.g⟩:=PS.part (hB:=hB9) (h:=I8.out.ps) (hK9.mono (x5 _) λx hx _=>hx);have hK9':Kp w8.heap.size [p,r] w8 w9:=hK9.mono (x5 _) λx hx _=>BY.2 (.inl (AI.1 hx))
   have hc:=hP9.lt;have hh:=(eD I8.out.kp hK9' (x5 _)).1;have I9:vu p r e cap tm w.heap.size w (.rep (s'.n+1) k s'.t.least s'.t.most) ⟨s'.ts,s'.t,s'.n+1,s'.g⟩ (.iface 286 (.pointer (some ⟨w9.heap.size,0,none⟩))) (w9.alloc (.cells #[.int .i64 (s'.n+1),.iface vt (.pointer (some ⟨vq,0,none⟩)),.int .i64 s'.t.least,.int .i64 s'.t.most] 288)):=
    ⟨hP9.keep (Below.heap_alloc _ _ _ hc.1) (Below.heap_alloc _ _ _ hc.2.1),(eD I8.out.kp hK9' (x5 _)).alloc (x5 _) _,
     .rep hh (a7.new _ _ _) ((Az I8.out.rep hK9' (by omega) (by omega)).keep λb _ hlt=>Below.heap_alloc _ _ _ hlt)⟩
   clear hB9 hK9 hP9 hK9' hc hh h9 I8 hL L;generalize w9.alloc _=w10 at I9 ⊢;refine ao ?_;show aV _ _ _ (AT 0 (1+1)) _ _;refine aW 0 1 1 (λN hN w11 he11=> ?_) (by decide);simp only[zq1];have I11:=up (I9.af he11);clear he11 I9;go_wp2;refine hN.out _ _ ?_;clear hN N;obtain⟨z,hz,hi⟩:∃z,cy ⟨s'.ts,s'.t,s'.n+1,s'.g⟩=some z/\bN (some z) (λ_ s2=>fP m (.rep (s'.n+1) k s'.t.least s'.t.most) s2)=some x:=by
    cases hp:cy ⟨s'.ts,s'.t,s'.n+1,s'.g⟩with
    |none=>rw[hp]at hx;cases hx
    |some z=>rw[hp]at hx;exact⟨z,rfl,hx⟩
   refine bF (f:=93) (i:=1) (rest:=[]) rfl rfl λu=>by simp[go_sem] trivial (mf hz I11.out.ps) (λu w12 hr=> ?_) λch w12 hr=> ?_
   .obtain⟨h2,hr⟩:=hr;cases z with
    |err e2 s2=>obtain⟨_,_,h⟩:=hr;cases h
    |ok _ s2=>
     refine az ?_;simp only[AS,zq0];exact⟨m,IN m,_,_,_,⟨_,_,_,_,_,_,_,_,_,_,_,_,_,_,_,_,_,_,_,_,_,_,_,_,_,_,_,_,_,_,_,_,_,_,_,_,_,_,_,_,rfl⟩,hi,⟨hr.1,eD I11.out.kp h2 (x5 _),Az I11.out.rep h2 (by omega) (by omega)⟩,by omega⟩
   .obtain⟨h2,hr⟩:=hr;cases z with
    |ok _ s2=>obtain⟨_,h⟩:=hr;cases h
    |err e2 s2=>
     obtain⟨rfl,hj,hch⟩:=hr;cases hch;cases Option.some.inj hi;exact⟨rfl,_,rfl,hj,eD I11.out.kp h2 (x5 _),rfl⟩
 .rw[if_neg h7]at hx;cases Option.some.inj hx;have b7:(s'.t.kind==7)=false:=by simpa using h7
  refine ag λw6 h3=> ?_
  have I6:=up (I5.af h3);have h4:=I6.out.ps.blk;have c1_:w6.cell? ⟨p,1,none⟩=some (.int .i64 s'.t.kind):=h4.cell 1;clear h4 h3 I5;go_wp2;refine hK.out _ _ ?_;clear hK K hL L c1_ b7;refine ag λw7 h0=> ?_
  have I7:=up (I6.out.af h0);clear h0 I6;go_wp2;go_ret;exact⟨_,rfl,I7.out.ps,I7.out.kp,I7.out.rep⟩
theorem NX{p r e cap tm f}(hq:∀f'<f,Does T 174 p r e cap tm (iy f')):Does T 162 p r e cap tm (ik f):=by
 intro d s w x hx hP;cases f with
 |zero=>simp[ik]at hx
 |succ f=>
 unfold ik at hx;have hlt:=hP.lt;refine bu trivial (λ_=>Post.no) (PA.func Tryz.func162 (by decide)) rfl ?_;simp only[Tryz.ntmps162,Sv,IS,SF,SL,SK,No,IT,Sw,OF,SE,Sz];refine ac λK hK=> ?_
 refine ag λw1 he=> ?_
 have g3:=up (hP.af he);have hK1:=up ((Kp.refl w:Kp w.heap.size [p,r] w w).af he);go_wp2;refine hK.out _ _ ?_;clear hK K;refine ac λK hK=> ?_
 refine ag λw2 he2=> ?_
 have hs:=up (g3.out.af he2);have hK2:=up (hK1.out.af he2);have hB2:=hs.out.blk;have f_w2:∀i,w2.frozen? ⟨p,i,none⟩=false:=hB2.frozen;have c0_w2:w2.cell? ⟨p,0,none⟩=some (.chan (some r)):=hB2.cell 0;have c1_w2:w2.cell? ⟨p,1,none⟩=some _:=hB2.cell 1;have c2_w2:w2.cell? ⟨p,2,none⟩=some _:=hB2.cell 2;have c3_w2:w2.cell? ⟨p,3,none⟩=some _:=hB2.cell 3;have c4_w2:w2.cell? ⟨p,4,none⟩=some _:=hB2.cell 4;have c5_w2:w2.cell? ⟨p,5,none⟩=some _:=hB2.cell 5;have c6_w2:w2.cell? ⟨p,6,none⟩=some _:=hB2.cell 6;have c7_w2:w2.cell? ⟨p,7,none⟩=some _:=hB2.cell 7;have c8_w2:w2.cell? ⟨p,8,none⟩=some _:=hB2.cell 8;have c9_w2:w2.cell? ⟨p,9,none⟩=some _:=hB2.cell 9;have c10_w2:w2.cell? ⟨p,10,none⟩=some _:=hB2.cell 10;have c11_w2:w2.cell? ⟨p,11,none⟩=some _:=hB2.cell 11;clear he2 he g3 hK1 hP hB2;go_wp2;refine hK.out _ _ ?_;clear f_w2 c0_w2 c1_w2 c2_w2 c3_w2 c4_w2 c5_w2 c6_w2 c7_w2 c8_w2 c9_w2 c10_w2 c11_w2;clear hK K;have hl2:=hs.out.lt;have g4:=hK2.out.1;have hk:jf p r e cap tm (w2.alloc (.cells #[.int .i64 s.t.kind,.int .i64 s.t.at_,.int .u64 s.t.b0,.int .u64 s.t.b1,.int .u64 s.t.b2,.int .u64 s.t.b3,.int .i64 s.t.least,.int .i64 s.t.most,.pointer (gH e s.t.bad)] 195)) s:=hs.out.keep (Below.heap_alloc _ _ _ hl2.1) (Below.heap_alloc _ _ _ hl2.2.1);have hK3:=hK2.out.alloc (x5 _) (.cells #[.int .i64 s.t.kind,.int .i64 s.t.at_,.int .u64 s.t.b0,.int .u64 s.t.b1,.int .u64 s.t.b2,.int .u64 s.t.b3,.int .i64 s.t.least,.int .i64 s.t.most,.pointer (gH e s.t.bad)] 195);have hB3:=a7.new w2 195 #[.int .i64 s.t.kind,.int .i64 s.t.at_,.int .u64 s.t.b0,.int .u64 s.t.b1,.int .u64 s.t.b2,.int .u64 s.t.b3,.int .i64 s.t.least,.int .i64 s.t.most,.pointer (gH e s.t.bad)];have ht:w.heap.size<=w2.heap.size:=g4;clear hs hK2 hl2 g4;generalize w2.alloc _=w3 at hk hK3 hB3 ⊢;generalize w2.heap.size=q at hB3 ht ⊢;refine ac λK hK=> ?_
 by_cases h4:s.t.kind=4
 .rw[if_pos h4]at hx;have b4:(s.t.kind==4)=true:=by simp[h4]
  refine ac λL hL=> ?_
  refine ag λw4 he4=> ?_
  have hl:=up (hk.af he4);have hK4:=up (hK3.af he4);have c0_:w4.cell? ⟨q,0,none⟩=some (.int .i64 s.t.kind):=(hB3.af he4).cell 0;clear he4 hk hK3 hB3;go_wp2;refine hL.out _ _ ?_;clear hL L c0_;refine bG rfl ?_;refine ac λL hL=> ?_
  refine ao ?_;show aV _ _ _ (AT 0 (2+2)) _ _;refine aW 0 2 2 (λN hN w5 hf=> ?_) (by decide);simp only[zq1];have hm:=up (hl.out.af hf);have h9:=up (hK4.out.af hf);clear hf hl hK4;go_wp2;refine hN.out _ _ ?_;clear hN N;refine bF (f:=174) (R:=Post p r e cap tm w5.heap.size w5 x) (i:=2) (rest:=AT 3 (1+0)) rfl rfl λu=>by simp[go_sem] trivial (hq f (by omega) d s w5 x hx hm.out) (λv w6 hr=> ?_) λch w6 hr=> ?_
  .cases x with
   |err e1 s1=>obtain⟨_,h,_⟩:=hr;cases h
   |ok k s1=>
    obtain⟨v',gf,hn,hi,hv⟩:=hr;cases gf;have I6:vu p r e cap tm w.heap.size w k s1 v w6:=⟨hn,eD h9.out hi (x5 _),hv.mono λb hb _=>SI h9.out.1 hb⟩;clear hn hi hv hm h9;simp only[AS,zq0];refine aW 3 1 0 (λN hN w7 hg=> ?_) (by decide);simp only[zq1];have I7:=up (I6.af hg);clear hg I6;go_wp2;refine hN.out _ _ (az (hL.out _ _ ?_));clear hN N hL L;refine ag λw8 he8=> ?_
    have I8:=up (I7.out.af he8);clear he8 I7;go_wp2;go_ret;exact⟨_,rfl,I8.out.ps,I8.out.kp,I8.out.rep⟩
  .cases x with
   |ok k s1=>obtain⟨_,h,_⟩:=hr;cases h
   |err e1 s1=>
    obtain⟨a,ha,gh,gr,gv⟩:=hr;cases ha;exact⟨rfl,_,rfl,gh,eD h9.out gr (x5 _),gv.mono h9.out.1⟩
 .rw[if_neg h4]at hx;have b4:(s.t.kind==4)=false:=by simpa using h4
  refine ag λw4 he4=> ?_
  have hl:=up (hk.af he4);have hK4:=up (hK3.af he4);have hy:=up (hB3.af he4);have c0_:w4.cell? ⟨q,0,none⟩=some (.int .i64 s.t.kind):=hy.out.cell 0;clear he4 hk hK3 hB3;go_wp2;refine hK.out _ _ ?_;clear hK K c0_;refine ac λK hK=> ?_
  refine ao ?_;show aV _ _ _ (AT 0 (1+1)) _ _;refine aW 0 1 1 (λN hN w5 hf=> ?_) (by decide);simp only[zq1];have hm:=up (hl.out.af hf);have h9:=up (hK4.out.af hf);have g0:=up (hy.out.af hf);clear hf hl hK4 hy;go_wp2;refine hN.out _ _ ?_;clear hN N;obtain⟨z,hz,hw⟩:∃z,cy s=some z/\bN (some z) (λ_ s'=>bN (gn s') λid s'=>if s.t.kind=2 then some (.ok (.edge id false) s')else if s.t.kind=3 then some (.ok (.edge id true) s')else some (.ok (.set id s.t.b0 s.t.b1 s.t.b2 s.t.b3) s'))=some x:=by
   cases hp:cy s with
   |none=>rw[hp]at hx;cases hx
   |some z=>rw[hp]at hx;exact⟨z,rfl,hx⟩
  refine bF (f:=93) (i:=1) (rest:=[]) rfl rfl λu=>by simp[go_sem] trivial (mf hz hm.out) (λu w6 hr=> ?_) λch w6 hr=> ?_
  rotate_left
  .obtain⟨g9,hr⟩:=hr;cases z with
   |ok _ s2=>obtain⟨_,h⟩:=hr;cases h
   |err e2 s2=>
    obtain⟨rfl,gb,hch⟩:=hr;cases hch;cases Option.some.inj hw;exact⟨rfl,_,rfl,gb,eD h9.out g9 (x5 _),rfl⟩
  obtain⟨hi,hr⟩:=hr;cases z with
  |err e2 s2=>obtain⟨_,_,h⟩:=hr;cases h
  |ok _ s2=>
  refine az ?_;simp only[AS,zq0];refine hK.out _ _ ?_;clear hK K;have hn:=hr.1;have g5:a7 w6 q 195 _:=g0.out.kp hi g0.out.lt (by
   intro hx;rcases BY.1 hx with rfl|hx
   .omega
   .have:=AI.1 hx;omega)
  have g1:=eD h9.out hi (x5 _);clear hr hi hm h9 g0 hz hx;dsimp only[bN]at hw;rcases kD hw with⟨e1,s1,h1,_⟩|⟨id,s1,h1,hx⟩
  .exact absurd (fM h1).1 (by simp)
  clear hw;obtain⟨h1,hn1,hn2⟩:=fM h1;simp only[eJ.ok.injEq]at h1;obtain⟨rfl,rfl⟩:=h1;refine ag λw7 hg=> ?_
  have hP7:=up (hn.af hg);have hj:=up (g1.af hg);have h0:=up (g5.af hg);have g2:=up hP7.out.blk;have d0_:w7.cell? ⟨q,0,none⟩=some (.int .i64 s.t.kind):=h0.out.cell 0;have d2_:w7.cell? ⟨q,2,none⟩=some (.int .u64 s.t.b0):=h0.out.cell 2;have d3_:w7.cell? ⟨q,3,none⟩=some (.int .u64 s.t.b1):=h0.out.cell 3;have d4_:w7.cell? ⟨q,4,none⟩=some (.int .u64 s.t.b2):=h0.out.cell 4;have d5_:w7.cell? ⟨q,5,none⟩=some (.int .u64 s.t.b3):=h0.out.cell 5;clear hg hn g1 g5;have h5:p≠q:=by omega
  by_cases h2:s.t.kind=2
  .rw[if_pos h2]at hx;cases Option.some.inj hx;have b2:(s.t.kind==2)=true:=by simp[h2]
   have b3:(s.t.kind==3)=false:=by simp[h2]
   clear h2;go_wp2;go_region_held3 (λw'=>w'.cell? ⟨q,0,none⟩=some (.int .i64 s.t.kind)/\w'.cell? ⟨q,2,none⟩=some (.int .u64 s.t.b0)) (first |go_keep|exact⟨(h0.out.drew.kp hK9 h0.out.lt λhx=>h5 (AI.1 hx).symm).cell 0,(h0.out.drew.kp hK9 h0.out.lt λhx=>h5 (AI.1 hx).symm).cell 2⟩) (first |(go_at_call 117;refine(jU p _ s2.n _ _ _ _ _ _ _ _ _ _ _ hn1 (by omega) (a7.drew g2.out)).mono ?_;rintro e9 w9 ⟨rfl,hB9,hK9⟩))
   have hP9:jf p r e cap tm w9 ⟨s2.ts,s2.t,s2.n+1,s2.g⟩:=PS.part (hB:=hB9) (h:=hP7.out) (hK9.mono (x5 _) λx hx _=>hx);have hK9':Kp w7.heap.size [p,r] w7 w9:=hK9.mono (x5 _) λx hx _=>BY.2 (.inl (AI.1 hx))
   have h6:=hP9.lt;have ho:=(eD hj.out hK9' (x5 _)).1;have h7:=λo=>hP9.keep (Below.heap_alloc w9 o _ h6.1) (Below.heap_alloc w9 o _ h6.2.1)
   have h8:=λo=>(eD hj.out hK9' (x5 _)).alloc (x5 _) o
   have hc:=up h7;have hd:=up h8;have hh:=up ho;clear hP9 hK9' h6 h7 h8 hB9 hK9 h5 hlt ht
   (try simp only[Exit.then,Th])
   go_wp2;go_ret;exact⟨_,rfl,hc.out _,hd.out _,.edge hh.out (a7.new _ _ _)⟩
  .rw[if_neg h2]at hx;by_cases h3:s.t.kind=3
   .rw[if_pos h3]at hx;cases Option.some.inj hx;have b2:(s.t.kind==2)=false:=by simp[h3]
    have b3:(s.t.kind==3)=true:=by simp[h3]
    clear h3 h2;go_wp2;go_region_held3 (λw'=>w'.cell? ⟨q,0,none⟩=some (.int .i64 s.t.kind)/\w'.cell? ⟨q,2,none⟩=some (.int .u64 s.t.b0)) (first |go_keep|exact⟨(h0.out.drew.kp hK9 h0.out.lt λhx=>h5 (AI.1 hx).symm).cell 0,(h0.out.drew.kp hK9 h0.out.lt λhx=>h5 (AI.1 hx).symm).cell 2⟩) (first |(go_at_call 117;refine(jU p _ s2.n _ _ _ _ _ _ _ _ _ _ _ hn1 (by omega) (a7.drew g2.out)).mono ?_;rintro e9 w9 ⟨rfl,hB9,hK9⟩))
    have hP9:jf p r e cap tm w9 ⟨s2.ts,s2.t,s2.n+1,s2.g⟩:=PS.part (hB:=hB9) (h:=hP7.out) (hK9.mono (x5 _) λx hx _=>hx);have hK9':Kp w7.heap.size [p,r] w7 w9:=hK9.mono (x5 _) λx hx _=>BY.2 (.inl (AI.1 hx))
    have h6:=hP9.lt;have ho:=(eD hj.out hK9' (x5 _)).1;have h7:=λo=>hP9.keep (Below.heap_alloc w9 o _ h6.1) (Below.heap_alloc w9 o _ h6.2.1)
    have h8:=λo=>(eD hj.out hK9' (x5 _)).alloc (x5 _) o
    have hc:=up h7;have hd:=up h8;have hh:=up ho;clear hP9 hK9' h6 h7 h8 hB9 hK9 h5 hlt ht
    (try simp only[Exit.then,Th])
    go_wp2;go_ret;exact⟨_,rfl,hc.out _,hd.out _,.edge hh.out (a7.new _ _ _)⟩
   .rw[if_neg h3]at hx;cases Option.some.inj hx;have b2:(s.t.kind==2)=false:=by simpa using h2
    have b3:(s.t.kind==3)=false:=by simpa using h3
    go_wp2;go_region_held3 (λw'=>w'.cell? ⟨q,2,none⟩=some (.int .u64 s.t.b0)/\w'.cell? ⟨q,3,none⟩=some (.int .u64 s.t.b1)/\w'.cell? ⟨q,4,none⟩=some (.int .u64 s.t.b2)/\w'.cell? ⟨q,5,none⟩=some (.int .u64 s.t.b3)) (first |go_keep|exact⟨(h0.out.drew.kp hK9 h0.out.lt λhx=>h5 (AI.1 hx).symm).cell 2,(h0.out.drew.kp hK9 h0.out.lt λhx=>h5 (AI.1 hx).symm).cell 3,(h0.out.drew.kp hK9 h0.out.lt λhx=>h5 (AI.1 hx).symm).cell 4,(h0.out.drew.kp hK9 h0.out.lt λhx=>h5 (AI.1 hx).symm).cell 5⟩) (first |(go_at_call 117;refine(jU p _ s2.n _ _ _ _ _ _ _ _ _ _ _ hn1 (by omega) (a7.drew g2.out)).mono ?_;rintro e9 w9 ⟨rfl,hB9,hK9⟩))
    have hP9:jf p r e cap tm w9 ⟨s2.ts,s2.t,s2.n+1,s2.g⟩:=PS.part (hB:=hB9) (h:=hP7.out) (hK9.mono (x5 _) λx hx _=>hx);have hK9':Kp w7.heap.size [p,r] w7 w9:=hK9.mono (x5 _) λx hx _=>BY.2 (.inl (AI.1 hx))
    have h6:=hP9.lt;have ho:=(eD hj.out hK9' (x5 _)).1;have h7:=λo=>hP9.keep (Below.heap_alloc w9 o _ h6.1) (Below.heap_alloc w9 o _ h6.2.1)
    have h8:=λo=>(eD hj.out hK9' (x5 _)).alloc (x5 _) o
    have hc:=up h7;have hd:=up h8;have hh:=up ho;clear hP9 hK9' h6 h7 h8 hB9 hK9 h5 hlt ht
    (try simp only[Exit.then,Th])
    go_wp2;go_ret;exact⟨_,rfl,hc.out _,hd.out _,.set hh.out (a7.new _ _ _)⟩
theorem Gt{w:By}{base e size n v xs}(h:w.ownsRow base e size v n xs):∃a c,v= .slice a n c:=by
 rcases h.2 with⟨rfl,rfl⟩|⟨g,cap,cur,rfl,_⟩<;>exact⟨_,_,rfl⟩
theorem Nq{p r e cap tm f}(hq:∀f'<f,Does T 142 p r e cap tm (gm f')):Does T 118 p r e cap tm (kS f):=by
 intro d s w x hx hP;cases f with
 |zero=>simp[kS]at hx
 |succ f=>
 unfold kS at hx;rcases kD hx with⟨e1,s1,h1,_⟩|⟨id,s1,h1,hx⟩
 .exact absurd (fM h1).1 (by simp)
 obtain⟨h1,hn1,g1⟩:=fM h1;simp only[eJ.ok.injEq]at h1;obtain⟨rfl,rfl⟩:=h1;refine bu trivial (λ_=>Post.no) (PA.func Tryz.func118 (by decide)) rfl ?_;simp only[Tryz.ntmps118,Sv,IS,SF,SL,SK,No,IT,Sw,OF,SE,Sz];refine ac (λK hK=> ?_);refine ag (λw1 he=> ?_);have hw:=up (hP.af he);have hK1:=up ((Kp.refl w:Kp w.heap.size [p,r] w w).af he);go_wp2;refine hK.out _ _ ?_;clear hK K;refine ac (λK hK=> ?_);refine ag (λw2 he2=> ?_);have hd:=up (hw.out.af he2);have hK2:=up (hK1.out.af he2);go_wp2_with (go_at_call 117;refine(jU p w2 s.n _ _ _ _ _ _ _ _ _ _ _ hn1 (by omega) hd.out.blk).mono ?_;rintro e2 w3 ⟨rfl,hB3,hK3⟩)
 refine hK.out _ _ ?_;clear hK K;have hlt:=hd.out.lt;have e1:=congrArg SC he;have e2:=congrArg SC he2;have hg:Kp w.heap.size [p,r] w w3:=hK2.out.trans (hK3.mono (by omega) (λx hx _=>BY.2 (.inl (AI.1 hx))));have hsz:=hg.1;have hh:jf p r e cap tm w3 ⟨s.ts,s.t,s.n+1,s.g⟩:=⟨hB3,by
  obtain⟨sn,rc,hc⟩:=hd.out.chan;exact⟨sn,rc,(hK3.2 r hlt.2.1 (λh=>hlt.2.2 (AI.1 h).symm)).trans hc⟩⟩
 have hz:=hh.lt;have I0:lQ 269 p r e cap tm w.heap.size w (s.n+1) w3.heap.size [] ⟨s.ts,s.t,s.n+1,s.g⟩ (.slice none 0 0) (w3.alloc (.cells #[.int .i64 (s.n+1),.slice none 0 0] 269)):=
  ⟨hh.keep (Below.heap_alloc _ _ _ hz.1) (Below.heap_alloc _ _ _ hz.2.1),hg.alloc (x5 _) _,hsz,a7.new _ _ _,Kids.nil _ _ _⟩
 clear hP hw hd hK1 hK2 hK3 hB3 hh hg;generalize w3.alloc (.cells #[.int .i64 (s.n+1),.slice none 0 0] 269)=w4 at I0 ⊢;generalize w3.heap.size=q at I0 ⊢;generalize s.n+1=id at hx I0;refine ec (m9 (λm a w'=>∃ks s' sl q,(∃u6 u7 u8 u9 u10 u11 u12 u13 u14 u15 u16 u17 u18 u19 u20 u21 u22 u23 u24 u25 u26 u27 u28 u29 u30 u31 u32 u33 u34 u35 u36 u37 u38 u39 u40 u41 u42 u43 u44 u45 u46 u47 u48 u49 u50 u51 u52 u53 u54 u55 u56 u57 u58 u59 u60 u61 u62 u63 u64 u65 u66 u67 u68 u69 u70 u71,a=⟨#[.pointer (some ⟨p,0,none⟩),.int .i64 d,undef,undef,.nilIface,.pointer (some ⟨q,0,none⟩),u6,u7,u8,u9,u10,u11,u12,u13,u14,u15,u16,u17,u18,u19,u20,u21,u22,u23,u24,u25,u26,u27,u28,u29,u30,u31,u32,u33,u34,u35,u36,u37,u38,u39,u40,u41,u42,u43,u44,u45,u46,u47,u48,u49,u50,u51,u52,u53,u54,u55,u56,u57,u58,u59,u60,u61,u62,u63,u64,u65,u66,u67,u68,u69,u70,u71],[]⟩)/\jP m d id ks s'=some x/\lQ 269 p r e cap tm w.heap.size w id q ks s' sl w'/\m<=f) f ⟨_,_,_,_,⟨_,_,_,_,_,_,_,_,_,_,_,_,_,_,_,_,_,_,_,_,_,_,_,_,_,_,_,_,_,_,_,_,_,_,_,_,_,_,_,_,_,_,_,_,_,_,_,_,_,_,_,_,_,_,_,_,_,_,_,_,_,_,_,_,_,_,rfl⟩,hx,I0,x5 _⟩ ?_);clear hx I0 hn1 g1;rintro m a w5 ⟨ks,s',sl,q,⟨u6,u7,u8,u9,u10,u11,u12,u13,u14,u15,u16,u17,u18,u19,u20,u21,u22,u23,u24,u25,u26,u27,u28,u29,u30,u31,u32,u33,u34,u35,u36,u37,u38,u39,u40,u41,u42,u43,u44,u45,u46,u47,u48,u49,u50,u51,u52,u53,u54,u55,u56,u57,u58,u59,u60,u61,u62,u63,u64,u65,u66,u67,u68,u69,u70,u71,rfl⟩,hx,I0,hm⟩;cases m with
 |zero=>simp[jP]at hx
 |succ m=>
 unfold jP at hx;obtain⟨i0,hj,hz0,hk,hl⟩:=info_parts AZ;have h8:=AY;refine ec ?_;refine vy (λK hK hKr=> ?_);obtain⟨vs,hv1,hv2,hv3,hv4⟩:=I0.kids;obtain⟨sa,sc,g2⟩:=Gt hv1;subst g2;by_cases hend:s'.t.kind=0\/s'.t.kind=6\/s'.t.kind=5
 .rw[if_pos hend]at hx;have hn:(s'.t.kind==0)=true\/((s'.t.kind==0)=false/\(s'.t.kind==6)=true)\/((s'.t.kind==0)=false/\(s'.t.kind==6)=false/\(s'.t.kind==5)=true):=by
   rcases hend with h|h|h<;>simp[h]
  by_cases h5:s'.t.kind=5/\d=0
  .rw[if_pos h5]at hx;cases Option.some.inj hx;have b0:(s'.t.kind==0)=false:=by simp[h5.1]
   have b6:(s'.t.kind==6)=false:=by simp[h5.1]
   have b5:(s'.t.kind==5)=true:=by simp[h5.1]
   have bd:(d==0)=true:=by simp[h5.2]
   clear hn hend hv4 hx hv1 hv3;refine ag (λw6 h6=> ?_);have I6:=up (I0.af h6);have h0:=I6.out.ps.blk;have c1_:w6.cell? ⟨p,1,none⟩=some (.int .i64 s'.t.kind):=h0.cell 1;have c2_:w6.cell? ⟨p,2,none⟩=some (.int .i64 s'.t.at_):=h0.cell 2;have cq_:w6.cell? ⟨q,1,none⟩=some _:=I6.out.blk.cell 1;clear h0 h6 I0;go_wp2_with (go_at_call 141;refine(jX _ _ _ _).mono ?_;rintro e7 w7 ⟨rfl,rfl⟩)
   exact⟨rfl,_,rfl,I6.out.ps.keep (Below.heap_alloc _ _ _ I6.out.ps.lt.1) (Below.heap_alloc _ _ _ I6.out.ps.lt.2.1),I6.out.kp.alloc (x5 _) _,_,rfl,I6.out.kp.1,a7.new _ _ _⟩
  .rw[if_neg h5]at hx;have bd:(s'.t.kind==5)=false\/(d==0)=false:=by
    rcases Classical.not_and_iff_not_or_not.1 h5 with h|h
    .exact .inl (by simpa using h)
    .exact .inr (by simpa using h)
   by_cases hks:ks.length=0
   .rw[if_pos hks]at hx;cases Option.some.inj hx;have g0:vs.length=0:=by omega
    rw[g0]at I0;clear hend hv4 hx hv1 hv3 h5;rcases hn with b0|⟨b0,b6⟩|⟨b0,b6,b5⟩
    .have b5:(s'.t.kind==5)=false:=by simp[show s'.t.kind=0 by simpa using b0]
     clear bd;refine ag (λw6 h6=> ?_);have I6:=up (I0.af h6);have h0:=I6.out.ps.blk;have c1_:w6.cell? ⟨p,1,none⟩=some (.int .i64 s'.t.kind):=h0.cell 1;have c2_:w6.cell? ⟨p,2,none⟩=some (.int .i64 s'.t.at_):=h0.cell 2;have cq_:w6.cell? ⟨q,1,none⟩=some _:=I6.out.blk.cell 1;clear h0 h6 I0;go_wp2_with (go_at_call 141;refine(jX _ _ _ _).mono ?_;rintro e7 w7 ⟨rfl,rfl⟩)
     exact⟨rfl,_,rfl,I6.out.ps.keep (Below.heap_alloc _ _ _ I6.out.ps.lt.1) (Below.heap_alloc _ _ _ I6.out.ps.lt.2.1),I6.out.kp.alloc (x5 _) _,_,rfl,I6.out.kp.1,a7.new _ _ _⟩
    .have b5:(s'.t.kind==5)=false:=by simp[show s'.t.kind=6 by simpa using b6]
     clear bd;refine ag (λw6 h6=> ?_);have I6:=up (I0.af h6);have h0:=I6.out.ps.blk;have c1_:w6.cell? ⟨p,1,none⟩=some (.int .i64 s'.t.kind):=h0.cell 1;have c2_:w6.cell? ⟨p,2,none⟩=some (.int .i64 s'.t.at_):=h0.cell 2;have cq_:w6.cell? ⟨q,1,none⟩=some _:=I6.out.blk.cell 1;clear h0 h6 I0;go_wp2_with (go_at_call 141;refine(jX _ _ _ _).mono ?_;rintro e7 w7 ⟨rfl,rfl⟩)
     exact⟨rfl,_,rfl,I6.out.ps.keep (Below.heap_alloc _ _ _ I6.out.ps.lt.1) (Below.heap_alloc _ _ _ I6.out.ps.lt.2.1),I6.out.kp.alloc (x5 _) _,_,rfl,I6.out.kp.1,a7.new _ _ _⟩
    .have bd':(d==0)=false:=bd.resolve_left (by simp[b5]);clear bd;refine ag (λw6 h6=> ?_);have I6:=up (I0.af h6);have h0:=I6.out.ps.blk;have c1_:w6.cell? ⟨p,1,none⟩=some (.int .i64 s'.t.kind):=h0.cell 1;have c2_:w6.cell? ⟨p,2,none⟩=some (.int .i64 s'.t.at_):=h0.cell 2;have cq_:w6.cell? ⟨q,1,none⟩=some _:=I6.out.blk.cell 1;clear h0 h6 I0;go_wp2_with (go_at_call 141;refine(jX _ _ _ _).mono ?_;rintro e7 w7 ⟨rfl,rfl⟩)
     exact⟨rfl,_,rfl,I6.out.ps.keep (Below.heap_alloc _ _ _ I6.out.ps.lt.1) (Below.heap_alloc _ _ _ I6.out.ps.lt.2.1),I6.out.kp.alloc (x5 _) _,_,rfl,I6.out.kp.1,a7.new _ _ _⟩
   .rw[if_neg hks]at hx;cases Option.some.inj hx;have g0:((vs.length:Int)==0)=false:=by
     have:(vs.length:Int)≠0:=by omega
     simpa using this
    have hvl2:(vs.length==0)=false:=by
     have:vs.length≠0:=by omega
     simpa using this
    clear hend hv4 hx hv1 hv3 h5;rcases hn with b0|⟨b0,b6⟩|⟨b0,b6,b5⟩
    .have b5:(s'.t.kind==5)=false:=by simp[show s'.t.kind=0 by simpa using b0]
     clear bd;refine ag (λw6 h6=> ?_);have I6:=up (I0.af h6);have h0:=I6.out.ps.blk;have c1_:w6.cell? ⟨p,1,none⟩=some (.int .i64 s'.t.kind):=h0.cell 1;have c2_:w6.cell? ⟨p,2,none⟩=some (.int .i64 s'.t.at_):=h0.cell 2;have cq_:w6.cell? ⟨q,1,none⟩=some _:=I6.out.blk.cell 1;clear h0 h6 I0;go_wp2;go_ret;exact⟨_,rfl,I6.out.ps,I6.out.kp,I6.out.kids.seq I6.out.lt I6.out.blk⟩
    .have b5:(s'.t.kind==5)=false:=by simp[show s'.t.kind=6 by simpa using b6]
     clear bd;refine ag (λw6 h6=> ?_);have I6:=up (I0.af h6);have h0:=I6.out.ps.blk;have c1_:w6.cell? ⟨p,1,none⟩=some (.int .i64 s'.t.kind):=h0.cell 1;have c2_:w6.cell? ⟨p,2,none⟩=some (.int .i64 s'.t.at_):=h0.cell 2;have cq_:w6.cell? ⟨q,1,none⟩=some _:=I6.out.blk.cell 1;clear h0 h6 I0;go_wp2;go_ret;exact⟨_,rfl,I6.out.ps,I6.out.kp,I6.out.kids.seq I6.out.lt I6.out.blk⟩
    .have bd':(d==0)=false:=bd.resolve_left (by simp[b5]);clear bd;refine ag (λw6 h6=> ?_);have I6:=up (I0.af h6);have h0:=I6.out.ps.blk;have c1_:w6.cell? ⟨p,1,none⟩=some (.int .i64 s'.t.kind):=h0.cell 1;have c2_:w6.cell? ⟨p,2,none⟩=some (.int .i64 s'.t.at_):=h0.cell 2;have cq_:w6.cell? ⟨q,1,none⟩=some _:=I6.out.blk.cell 1;clear h0 h6 I0;go_wp2;go_ret;exact⟨_,rfl,I6.out.ps,I6.out.kp,I6.out.kids.seq I6.out.lt I6.out.blk⟩
 .rw[if_neg hend]at hx;have b0:(s'.t.kind==0)=false:=by simpa usingλh=>hend (.inl h)
  have b6:(s'.t.kind==6)=false:=by simpa usingλh=>hend (.inr (.inl h))
  have b5:(s'.t.kind==5)=false:=by simpa usingλh=>hend (.inr (.inr h))
  clear hend hv4 hv1;by_cases h7:s'.t.kind=7
  .rw[if_pos h7]at hx;cases Option.some.inj hx;have b7:(s'.t.kind==7)=true:=by simp[h7]
   clear hx hv3;refine ag (λw6 h6=> ?_);have I6:=up (I0.af h6);have h0:=I6.out.ps.blk;have c1_:w6.cell? ⟨p,1,none⟩=some (.int .i64 s'.t.kind):=h0.cell 1;have c2_:w6.cell? ⟨p,2,none⟩=some (.int .i64 s'.t.at_):=h0.cell 2;have cq_:w6.cell? ⟨q,1,none⟩=some _:=I6.out.blk.cell 1;clear h0 h6 I0;go_wp2_with (go_at_call 141;refine(jX _ _ _ _).mono ?_;rintro e7 w7 ⟨rfl,rfl⟩)
   exact⟨rfl,_,rfl,I6.out.ps.keep (Below.heap_alloc _ _ _ I6.out.ps.lt.1) (Below.heap_alloc _ _ _ I6.out.ps.lt.2.1),I6.out.kp.alloc (x5 _) _,_,rfl,I6.out.kp.1,a7.new _ _ _⟩
  .rw[if_neg h7]at hx;have b7:(s'.t.kind==7)=false:=by simpa using h7
   refine ag (λw6 h6=> ?_);have I6:=up (I0.af h6);have h0:=I6.out.ps.blk;have c1_:w6.cell? ⟨p,1,none⟩=some (.int .i64 s'.t.kind):=h0.cell 1;clear h0 h6 I0 hv3;go_wp2;refine hK.out _ _ ?_;clear hK K hKr c1_ b0 b6 b5 b7 hv2;split at hx;case isFalse=>cases hx
   rename_i hlen;obtain⟨y,hy,hxy⟩:∃y,gm m d s'=some y/\bN (some y) (λk s=>jP m d id (ks++[k]) s)=some x:=by
    cases hp:gm m d s' with
    |none=>rw[hp]at hx;cases hx
    |some y=>rw[hp]at hx;exact⟨y,rfl,hx⟩
   clear hx;have I0:=I6.out;clear I6;generalize w6=w5 at I0 ⊢;generalize Value.slice sa vs.length sc=sl at I0 ⊢;clear vs;refine IZ (λa w τ d ⟨m',h1,ks,s',sl,q,h2,h3,h4,h5⟩=>⟨m',h1,ks,s',sl,q,h2,h3,h4.af rfl,h5⟩) (λK hK hKr=> ?_);refine qg rfl ?_;show iL _ _ _ _ 13 #[false,false,false,false,false,false,false,false,false,false,false,false,false] _ _;refine eI (i:=0) (v:=.pointer (some ⟨q,0,none⟩)) rfl (by decide+kernel) (by decide+kernel) (by decide+kernel) (λ_ _ _ h=>h) hKr.out (.inl ⟨rfl,λu=>by simp[go_sem]⟩) ?_;simp only[AS,zq0];refine eI (i:=1) (v:=.pointer (some ⟨q,0,none⟩)) rfl (by decide+kernel) (by decide+kernel) (by decide+kernel) (λ_ _ _ h=>h) hKr.out (.inl ⟨rfl,λu=>by simp[go_sem]⟩) ?_;simp only[AS,zq0];refine eI (i:=2) (v:=.pointer (some ⟨q,0,none⟩)) rfl (by decide+kernel) (by decide+kernel) (by decide+kernel) (λ_ _ _ h=>h) hKr.out (.inl ⟨rfl,λu=>by simp[go_sem]⟩) ?_;simp only[AS,zq0];refine eI (i:=3) (v:=.pointer (some ⟨q,1,none⟩)) rfl (by decide+kernel) (by decide+kernel) (by decide+kernel) (λ_ _ _ h=>h) hKr.out (.inl ⟨rfl,λu=>by simp[go_sem]⟩) ?_;simp only[AS,zq0];refine eI (i:=5) (v:=.pointer (some ⟨p,0,none⟩)) rfl (by decide+kernel) (by decide+kernel) (by decide+kernel) (λ_ _ _ h=>h) hKr.out (.inl ⟨rfl,λu=>by simp[go_sem]⟩) ?_;simp only[AS,zq0];refine eI (i:=6) (v:=.int .i64 d) rfl (by decide+kernel) (by decide+kernel) (by decide+kernel) (λ_ _ _ h=>h) hKr.out (.inl ⟨rfl,λu=>by simp[go_sem]⟩) ?_;simp only[AS,zq0];try simp only[AS,zq0]
   refine dr (rs:=[4,7]) (by decide+kernel) (by simp) ?_;intro i hi;simp only[BY,SJ,or_false]at hi;rcases hi with rfl|rfl
   .refine jg.walk rfl (λN hN w6 h6=> ?_);have I6:=up (I0.af h6);have c1:w6.cell? ⟨q,1,none⟩=some sl:=I6.out.blk.cell 1;go_wp2;refine hN.out _ _ ?_;clear hN N c1;try simp only[AS,zq0]
    refine dr (rs:=[7]) (by decide+kernel) (by simp) ?_;intro i hi;simp only[BY,SJ,or_false]at hi;subst hi;refine jg.call (f:=142) (R:=Post p r e cap tm w6.heap.size w6 y) rfl rfl (λu=>by simp[go_sem]) trivial (hq m (by omega) d s' w6 y hy I6.out.ps) (λv w8 hr=> ?_) (λch w8 hr=> ?_)
    .cases y with
     |err e1 s1=>obtain⟨_,h,_⟩:=hr;cases h
     |ok k s1=>
      obtain⟨v',ho,hP7,h9,hrep7⟩:=hr;cases ho;have I7:=I6.out.call (by omega) (by omega) (x5 _) hP7 h9;have hC:=I6.out.kp.1;have hqC:=I6.out.blk.lt;have hsC:∀b,sl.ownBlock=some b->b<w6.heap.size:=by
       obtain⟨vs,hv1,_⟩:=I6.out.kids;exactλb e=>(eU hv1 e).1
      generalize w6.heap.size=C at hC hqC hsC hrep7;clear h9 hP7 I6 hy hq;have I8:=I7;have hrep:=hrep7;clear I7 hrep7;obtain⟨vs,hv1,hv2,hv3,hv4⟩:=I8.kids;obtain⟨vt,vq,rfl⟩:=hrep.form;try simp only[AS,zq0]
      refine dr (rs:=[8]) (by decide+kernel) (by simp) ?_;intro i hi;obtain rfl:=AI.1 hi;refine jg.walk rfl (λN hN w9 he9=> ?_);have I9:=I8.af he9;have hrep9:=hrep.keep (w':=w9) (λb _ _=>by rw[he9]);have hown9:=bt (w':=w9) hv1 (λb _ _=>by rw[he9]);have hv49:∀(i:Nat) u x,vs[i]?=some u->ks[i]?=some x->Repr w9 _ u x:=λi u x h1 h2=>(hv4 i u x h1 h2).keep (w':=w9) (λb _ _=>by rw[he9])
      have hsz9:w9.heap.size=w8.heap.size:=congrArg SC he9;have H1:=up I9;have H2:=up hrep9;have H3:=up hown9;have H4:=up hv49;have H5:=up hsz9;have H6:=up hv3;clear hv1 hv4 hrep I8 he9 I9 hrep9 hown9 hv49 hsz9 hv3;go_wp2;refine hN.out _ _ ?_;clear hN N;have hn3:=H6.out;have hsz:=H1.out.kp.1;simp only[AS,zq0];refine dr (rs:=[9]) (by decide+kernel) (by simp) ?_;intro i hi;obtain rfl:=AI.1 hi;have hown10:=bt (w':=w9.alloc (.cells #[.iface vt (.pointer (some ⟨vq,0,none⟩))] 86)) H3.out (λb _ hlt=>Below.heap_alloc _ _ b hlt);have hv410:∀(i:Nat) u x,vs[i]?=some u->ks[i]?=some x->Repr (w9.alloc (.cells #[.iface vt (.pointer (some ⟨vq,0,none⟩))] 86)) _ u x:=λi u x h1 h2=>(H4.out i u x h1 h2).keep (w':=w9.alloc (.cells #[.iface vt (.pointer (some ⟨vq,0,none⟩))] 86)) (λb _ hlt=>Below.heap_alloc _ _ b hlt)
      have hrep10:=H2.out.keep (w':=w9.alloc (.cells #[.iface vt (.pointer (some ⟨vq,0,none⟩))] 86)) (λb _ hlt=>Below.heap_alloc _ _ b hlt);refine jg.walk rfl λN hN w11 he11=> ?_
      have hn11:=λj u hu=>(jc he11 _).trans (lw w9 86 (.iface vt (.pointer (some ⟨vq,0,none⟩))) j u hu)
      refine wpList_append_own_at _ rfl (.tmp 64) (.tmp 68) _ rfl w.heap.size 86 i0 .nilIface 1 16 h8 hj hz0 hk hl rfl (by decide) sl vs.length vs rfl (bt (w':=w11) hown10 λb _ _=>by rw[he11]) ⟨w9.heap.size,0,none⟩ 1 1 [.iface vt (.pointer (some ⟨vq,0,none⟩))] rfl rfl hn11 (one_one H2.out.one) (by simp only[maxLen];omega) (by omega) (by rw[he11];simp;omega) ?_;intro v' w10 hown' hgrow _ hat;refine wpList_nil (hN.out _ _ ?_);clear hN N;obtain⟨va,vn,vc,rfl⟩:=slice_form hown';simp only[AS,zq0];refine lI (k:=10) (by decide+kernel) rfl λw12 he12=> ?_
      simp only[Sy,SN];have I13:=H1.out.grow (by omega) (by omega) (x5 _) H2.out hqC hsC hC he11 H3.out hv2 hn3 H4.out hown' hgrow hat he12;have hb12:a7 w12 q 269 #[.int .i64 id,sl]:=by
       refine a7.af ?_ he12;exact(hgrow.block q (by rw[he11];have:=H1.out.blk.lt;simp;omega) λe=>hv2 e.symm).trans ((congrArg (·[q]?) he11).trans ((Below.heap_alloc _ _ _ H1.out.blk.lt).trans H1.out.blk))
      have hc12:w12.cell? ⟨q,1,none⟩=some sl:=hb12.cell 1;have hf12:w12.frozen? ⟨q,1,none⟩=false:=hb12.frozen 1;clear hgrow hown' hat hb12 hn11 hown10 hv410 hrep10 he12 he11 H2 H3 H4 H5 H6 hv2 hn3 hsz H1 hqC hsC hC;have I13:=up I13;go_wp2;refine hK.out _ _ ?_;clear hc12 hf12;generalize Su _ _ _=w13 at I13 ⊢;exact⟨m,IN m,_,_,_,_,⟨_,_,_,_,_,_,_,_,_,_,_,_,_,_,_,_,_,_,_,_,_,_,_,_,_,_,_,_,_,_,_,_,_,_,_,_,_,_,_,_,_,_,_,_,_,_,_,_,_,_,_,_,_,_,_,_,_,_,_,_,_,_,_,_,_,_,rfl⟩,hxy,I13.out,by omega⟩
    .cases y with
     |ok k s1=>obtain⟨_,h,_⟩:=hr;cases h
     |err e1 s1=>
      obtain⟨a,ha,hs,ht,hv⟩:=hr;cases ha;cases Option.some.inj hxy;exact⟨rfl,_,rfl,hs,I6.out.kp.trans (ht.mono I6.out.kp.1 λx hx _=>hx),hv.mono I6.out.kp.1⟩
   .refine jg.call (f:=142) (R:=Post p r e cap tm w5.heap.size w5 y) rfl rfl λu=>by simp[go_sem] trivial (hq m (by omega) d s' w5 y hy I0.ps) (λv w7 hr=> ?_) λch w7 hr=> ?_
    .cases y with
     |err e1 s1=>obtain⟨_,h,_⟩:=hr;cases h
     |ok k s1=>
      obtain⟨v',ho,hP7,h9,hrep7⟩:=hr;cases ho;have I7:=I0.call (by omega) (by omega) (x5 _) hP7 h9;have hC:=I0.kp.1;have hqC:=I0.blk.lt;have hsC:∀b,sl.ownBlock=some b->b<w5.heap.size:=by
       obtain⟨vs,hv1,_⟩:=I0.kids;exactλb e=>(eU hv1 e).1
      generalize w5.heap.size=C at hC hqC hsC hrep7;clear h9 hP7 I0 hy hq;try simp only[AS,zq0]
      refine dr (rs:=[4,8]) (by decide+kernel) (by simp) ?_;intro i hi;simp only[BY,SJ,or_false]at hi;rcases hi with rfl|rfl
      .refine jg.walk rfl λN hN w8 he8=> ?_
       have I8:=I7.af he8;have hrep:=hrep7.keep (w':=w8) λb _ _=>by rw[he8]
       have c1:w8.cell? ⟨q,1,none⟩=some sl:=I8.blk.cell 1;clear I7 hrep7 he8;have I8':=up I8;have hrep':=up hrep;clear I8 hrep;go_wp2;refine hN.out _ _ ?_;clear hN N c1;have I8:=I8'.out;have hrep:=hrep'.out;clear I8' hrep';obtain⟨vs,hv1,hv2,hv3,hv4⟩:=I8.kids;obtain⟨vt,vq,rfl⟩:=hrep.form;try simp only[AS,zq0]
       refine dr (rs:=[8]) (by decide+kernel) (by simp) ?_;intro i hi;obtain rfl:=AI.1 hi;refine jg.walk rfl λN hN w9 he9=> ?_
       have I9:=I8.af he9;have hrep9:=hrep.keep (w':=w9) λb _ _=>by rw[he9]
       have hown9:=bt (w':=w9) hv1 λb _ _=>by rw[he9]
       have hv49:∀(i:Nat) u x,vs[i]?=some u->ks[i]?=some x->Repr w9 _ u x:=λi u x h1 h2=>(hv4 i u x h1 h2).keep (w':=w9) λb _ _=>by rw[he9]
       have hsz9:w9.heap.size=w8.heap.size:=congrArg SC he9;have H1:=up I9;have H2:=up hrep9;have H3:=up hown9;have H4:=up hv49;have H5:=up hsz9;have H6:=up hv3;clear hv1 hv4 hrep I8 he9 I9 hrep9 hown9 hv49 hsz9 hv3;go_wp2;refine hN.out _ _ ?_;clear hN N;have hn3:=H6.out;have hsz:=H1.out.kp.1;simp only[AS,zq0];refine dr (rs:=[9]) (by decide+kernel) (by simp) ?_;intro i hi;obtain rfl:=AI.1 hi;have hown10:=bt (w':=w9.alloc (.cells #[.iface vt (.pointer (some ⟨vq,0,none⟩))] 86)) H3.out λb _ hlt=>Below.heap_alloc _ _ b hlt
       have hv410:∀(i:Nat) u x,vs[i]?=some u->ks[i]?=some x->Repr (w9.alloc (.cells #[.iface vt (.pointer (some ⟨vq,0,none⟩))] 86)) _ u x:=λi u x h1 h2=>(H4.out i u x h1 h2).keep (w':=w9.alloc (.cells #[.iface vt (.pointer (some ⟨vq,0,none⟩))] 86)) λb _ hlt=>Below.heap_alloc _ _ b hlt
       have hrep10:=H2.out.keep (w':=w9.alloc (.cells #[.iface vt (.pointer (some ⟨vq,0,none⟩))] 86)) λb _ hlt=>Below.heap_alloc _ _ b hlt
       refine jg.walk rfl λN hN w11 he11=> ?_
       have hn11:=λj u hu=>(jc he11 _).trans (lw w9 86 (.iface vt (.pointer (some ⟨vq,0,none⟩))) j u hu)
       refine wpList_append_own_at _ rfl (.tmp 64) (.tmp 68) _ rfl w.heap.size 86 i0 .nilIface 1 16 h8 hj hz0 hk hl rfl (by decide) sl vs.length vs rfl (bt (w':=w11) hown10 λb _ _=>by rw[he11]) ⟨w9.heap.size,0,none⟩ 1 1 [.iface vt (.pointer (some ⟨vq,0,none⟩))] rfl rfl hn11 (one_one H2.out.one) (by simp only[maxLen];omega) (by omega) (by rw[he11];simp;omega) ?_;intro v' w10 hown' hgrow _ hat;refine wpList_nil (hN.out _ _ ?_);clear hN N;obtain⟨va,vn,vc,rfl⟩:=slice_form hown';simp only[AS,zq0];refine lI (k:=10) (by decide+kernel) rfl λw12 he12=> ?_
       simp only[Sy,SN];have I13:=H1.out.grow (by omega) (by omega) (x5 _) H2.out hqC hsC hC he11 H3.out hv2 hn3 H4.out hown' hgrow hat he12;have hb12:a7 w12 q 269 #[.int .i64 id,sl]:=by
        refine a7.af ?_ he12;exact(hgrow.block q (by rw[he11];have:=H1.out.blk.lt;simp;omega) λe=>hv2 e.symm).trans ((congrArg (·[q]?) he11).trans ((Below.heap_alloc _ _ _ H1.out.blk.lt).trans H1.out.blk))
       have hc12:w12.cell? ⟨q,1,none⟩=some sl:=hb12.cell 1;have hf12:w12.frozen? ⟨q,1,none⟩=false:=hb12.frozen 1;clear hgrow hown' hat hb12 hn11 hown10 hv410 hrep10 he12 he11 H2 H3 H4 H5 H6 hv2 hn3 hsz H1 hqC hsC hC;have I13:=up I13;go_wp2;refine hK.out _ _ ?_;clear hc12 hf12;generalize Su _ _ _=w13 at I13 ⊢;exact⟨m,IN m,_,_,_,_,⟨_,_,_,_,_,_,_,_,_,_,_,_,_,_,_,_,_,_,_,_,_,_,_,_,_,_,_,_,_,_,_,_,_,_,_,_,_,_,_,_,_,_,_,_,_,_,_,_,_,_,_,_,_,_,_,_,_,_,_,_,_,_,_,_,_,_,rfl⟩,hxy,I13.out,by omega⟩
      .have I8:=I7;have hrep:=hrep7;clear I7 hrep7;obtain⟨vs,hv1,hv2,hv3,hv4⟩:=I8.kids;obtain⟨vt,vq,rfl⟩:=hrep.form;refine jg.walk rfl λN hN w9 he9=> ?_
       have I9:=I8.af he9;have hrep9:=hrep.keep (w':=w9) λb _ _=>by rw[he9]
       have hown9:=bt (w':=w9) hv1 λb _ _=>by rw[he9]
       have hv49:∀(i:Nat) u x,vs[i]?=some u->ks[i]?=some x->Repr w9 _ u x:=λi u x h1 h2=>(hv4 i u x h1 h2).keep (w':=w9) λb _ _=>by rw[he9]
       have hsz9:w9.heap.size=w7.heap.size:=congrArg SC he9;have H1:=up I9;have H2:=up hrep9;have H3:=up hown9;have H4:=up hv49;have H5:=up hsz9;have H6:=up hv3;clear hv1 hv4 hrep I8 he9 I9 hrep9 hown9 hv49 hsz9 hv3;go_wp2;refine hN.out _ _ ?_;clear hN N;have hn3:=H6.out;have hsz:=H1.out.kp.1;simp only[AS,zq0];refine dr (rs:=[4]) (by decide+kernel) (by simp) ?_;intro i hi;obtain rfl:=AI.1 hi;refine jg.walk rfl λN hN wm hem=> ?_
       have c1m:wm.cell? ⟨q,1,none⟩=some sl:=(jc hem _).trans ((Ta _ _ ⟨q,1,none⟩ H1.out.blk.lt).trans (H1.out.blk.cell 1));have hem':=up hem;clear hem;go_wp2;refine hN.out _ _ ?_;clear hN N c1m;simp only[AS,zq0];refine dr (rs:=[9]) (by decide+kernel) (by simp) ?_;intro i hi;obtain rfl:=AI.1 hi;have hown10:=bt (w':=w9.alloc (.cells #[.iface vt (.pointer (some ⟨vq,0,none⟩))] 86)) H3.out λb _ hlt=>Below.heap_alloc _ _ b hlt
       have hv410:∀(i:Nat) u x,vs[i]?=some u->ks[i]?=some x->Repr (w9.alloc (.cells #[.iface vt (.pointer (some ⟨vq,0,none⟩))] 86)) _ u x:=λi u x h1 h2=>(H4.out i u x h1 h2).keep (w':=w9.alloc (.cells #[.iface vt (.pointer (some ⟨vq,0,none⟩))] 86)) λb _ hlt=>Below.heap_alloc _ _ b hlt
       have hrep10:=H2.out.keep (w':=w9.alloc (.cells #[.iface vt (.pointer (some ⟨vq,0,none⟩))] 86)) λb _ hlt=>Below.heap_alloc _ _ b hlt
       refine jg.walk rfl λN hN w11 hf=> ?_
       have he11:=hf.trans hem'.out;clear hf hem';have hn11:=λj u hu=>(jc he11 _).trans (lw w9 86 (.iface vt (.pointer (some ⟨vq,0,none⟩))) j u hu)
       refine wpList_append_own_at _ rfl (.tmp 64) (.tmp 68) _ rfl w.heap.size 86 i0 .nilIface 1 16 h8 hj hz0 hk hl rfl (by decide) sl vs.length vs rfl (bt (w':=w11) hown10 λb _ _=>by rw[he11]) ⟨w9.heap.size,0,none⟩ 1 1 [.iface vt (.pointer (some ⟨vq,0,none⟩))] rfl rfl hn11 (one_one H2.out.one) (by simp only[maxLen];omega) (by omega) (by rw[he11];simp;omega) ?_;intro v' w10 hown' hgrow _ hat;refine wpList_nil (hN.out _ _ ?_);clear hN N;obtain⟨va,vn,vc,rfl⟩:=slice_form hown';simp only[AS,zq0];refine lI (k:=10) (by decide+kernel) rfl λw12 he12=> ?_
       simp only[Sy,SN];have I13:=H1.out.grow (by omega) (by omega) (x5 _) H2.out hqC hsC hC he11 H3.out hv2 hn3 H4.out hown' hgrow hat he12;have hb12:a7 w12 q 269 #[.int .i64 id,sl]:=by
        refine a7.af ?_ he12;exact(hgrow.block q (by rw[he11];have:=H1.out.blk.lt;simp;omega) λe=>hv2 e.symm).trans ((congrArg (·[q]?) he11).trans ((Below.heap_alloc _ _ _ H1.out.blk.lt).trans H1.out.blk))
       have hc12:w12.cell? ⟨q,1,none⟩=some sl:=hb12.cell 1;have hf12:w12.frozen? ⟨q,1,none⟩=false:=hb12.frozen 1;clear hgrow hown' hat hb12 hn11 hown10 hv410 hrep10 he12 he11 H2 H3 H4 H5 H6 hv2 hn3 hsz H1 hqC hsC hC;have I13:=up I13;go_wp2;refine hK.out _ _ ?_;clear hc12 hf12;generalize Su _ _ _=w13 at I13 ⊢;exact⟨m,IN m,_,_,_,_,⟨_,_,_,_,_,_,_,_,_,_,_,_,_,_,_,_,_,_,_,_,_,_,_,_,_,_,_,_,_,_,_,_,_,_,_,_,_,_,_,_,_,_,_,_,_,_,_,_,_,_,_,_,_,_,_,_,_,_,_,_,_,_,_,_,_,_,rfl⟩,hxy,I13.out,by omega⟩
    .cases y with
     |ok k s1=>obtain⟨_,h,_⟩:=hr;cases h
     |err e1 s1=>
      obtain⟨a,ha,hs,ht,hv⟩:=hr;cases ha;cases Option.some.inj hxy;exact⟨rfl,_,rfl,hs,I0.kp.trans (ht.mono I0.kp.1 λx hx _=>hx),hv.mono I0.kp.1⟩
theorem PS.groups{p r e cap tm w s}(h:jf p r e cap tm w s)(n):jf p r e cap tm (w.setCell ⟨p,11,none⟩ (.int .i64 n)) ⟨s.ts,s.t,s.n,n⟩:=⟨by
 have:=h.blk.bI 11 (.int .i64 n);simp_all,by
 obtain⟨sn,rc,hc⟩:=h.chan;exact⟨sn,rc,BP hc (p:=⟨p,11,none⟩) (SD h.lt.2.2) _⟩⟩
theorem JC{p r e cap tm f}(hq:∀f'<f,Does T 94 p r e cap tm (im f')):Does T 174 p r e cap tm (iy f):=by
 intro d s w x hx hP;cases f with
 |zero=>simp[iy]at hx
 |succ f=>
 unfold iy at hx;have hlt:=hP.lt;refine bu trivial (λ_=>Post.no) (PA.func Tryz.func174 (by decide)) rfl ?_;simp only[Tryz.ntmps174,Sv,IS,SF,SL,SK,No,IT,Sw,OF,SE,Sz];refine ac λK hK=> ?_
 refine ag λw1 he=> ?_
 have f5:=up (hP.af he);have hK1:=up ((Kp.refl w:Kp w.heap.size [p,r] w w).af he);go_wp2;refine hK.out _ _ ?_;clear hK K;refine ac λK hK=> ?_
 refine ag λw2 he2=> ?_
 have hw:=up (f5.out.af he2);have hK2:=up (hK1.out.af he2);have c2_:w2.cell? ⟨p,2,none⟩=some (.int .i64 s.t.at_):=hw.out.blk.cell 2;clear he2 he f5 hK1 hP;go_wp2;refine hK.out _ _ ?_;clear hK K c2_;refine ac λK hK=> ?_
 by_cases h9:s.g=9
 .rw[if_pos h9]at hx;cases Option.some.inj hx;have b9:(s.g==9)=true:=by simp[h9]
  refine ag λw3 h8=> ?_
  have h7:=up (hw.out.af h8);have hK3:=up (hK2.out.af h8);have c11_:w3.cell? ⟨p,11,none⟩=some (.int .i64 s.g):=h7.out.blk.cell 11;clear h8 hw hK2 h9;go_wp2_with (go_at_call 141;refine(jX _ _ _ _).mono ?_;rintro e7 w7 ⟨rfl,rfl⟩)
  exact⟨rfl,_,rfl,h7.out.keep (Below.heap_alloc _ _ _ h7.out.lt.1) (Below.heap_alloc _ _ _ h7.out.lt.2.1),hK3.out.alloc (x5 _) _,_,rfl,hK3.out.1,a7.new _ _ _⟩
 rw[if_neg h9]at hx;split at hx;case isFalse=>cases hx
 rename_i hd;obtain⟨hd1,hd2,hg1,hg2⟩:=hd;have b9:(s.g==9)=false:=by simpa using h9
 refine ag λw3 h8=> ?_
 have h7:=up (hw.out.af h8);have hK3:=up (hK2.out.af h8);have c11_:w3.cell? ⟨p,11,none⟩=some (.int .i64 s.g):=h7.out.blk.cell 11;clear h8 hw hK2 h9;go_wp2;refine hK.out _ _ ?_;clear hK K c11_ b9;refine ac λK hK=> ?_
 refine ag λw4 he4=> ?_
 have gf:=up (h7.out.af he4);have hK4:=up (hK3.out.af he4);have c11_:w4.cell? ⟨p,11,none⟩=some (.int .i64 s.g):=gf.out.blk.cell 11;have f11_:w4.frozen? ⟨p,11,none⟩=false:=gf.out.blk.frozen 11;clear he4 h7 hK3;go_wp2;refine hK.out _ _ ?_;clear hK K c11_ f11_;have gx:=gf.out.groups (s.g+1);have e0:=hK4.out.setCell (p:=⟨p,11,none⟩) (λ_=>Tf) (.int .i64 (s.g+1));clear gf hK4;generalize w4.setCell _ _=w5 at gx e0 ⊢;rcases kD hx with⟨e1,s1,h1,_⟩|⟨id,s1,h1,hx⟩
 .exact absurd (fM h1).1 (by simp)
 obtain⟨h1,hn1,fl⟩:=fM h1;simp only[eJ.ok.injEq]at h1;obtain⟨rfl,rfl⟩:=h1;dsimp only at hn1 fl hx;refine ac λK hK=> ?_
 refine ag λw6 e3=> ?_
 have g0:=up (gx.af e3);have f6:=up (e0.af e3);have f7:=up g0.out.blk;have c11_:w6.cell? ⟨p,11,none⟩=some (.int .i64 (s.g+1)):=g0.out.blk.cell 11;have c0_:w6.cell? ⟨p,0,none⟩=some (.chan (some r)):=g0.out.blk.cell 0;clear e3 gx e0;go_region_held3 (λw'=>w'.cell? ⟨p,11,none⟩=some (.int .i64 (s.g+1))/\w'.cell? ⟨p,0,none⟩=some (.chan (some r))) (first |go_keep|exact⟨hB9.cell 11,hB9.cell 0⟩) (first |(go_at_call 117;refine(jU p _ s.n _ _ _ _ _ _ _ _ _ _ _ hn1 (by omega) (a7.drew f7.out)).mono ?_;rintro e9 w9 ⟨rfl,hB9,hK9⟩))
 refine hK.out _ _ ?_;have hP9:jf p r e cap tm w9 ⟨s.ts,s.t,s.n+1,s.g+1⟩:=PS.part (s:=⟨s.ts,s.t,s.n,s.g+1⟩) (hB:=hB9) (h:=g0.out) (hK9.mono (x5 _) λx hx _=>hx);have hK9':Kp w6.heap.size [p,r] w6 w9:=hK9.mono (x5 _) λx hx _=>BY.2 (.inl (AI.1 hx))
 have e4:=hP9.lt;have h6:=eD f6.out hK9' (x5 _);have fb:=h6.1;have g1:=hP9.keep (Below.heap_alloc w9 (.cells #[.int .i64 (s.n+1),.nilIface,.int .i64 (s.g+1)] 315) _ e4.1) (Below.heap_alloc w9 (.cells #[.int .i64 (s.n+1),.nilIface,.int .i64 (s.g+1)] 315) _ e4.2.1);have h6:=h6.alloc (x5 _) (.cells #[.int .i64 (s.n+1),.nilIface,.int .i64 (s.g+1)] 315);have hm:=a7.new w9 315 #[.int .i64 (s.n+1),.nilIface,.int .i64 (s.g+1)];clear hB9 hK9 hP9 hK9' e4 g0 f6 f7 hK K;generalize w9.alloc _=w10 at g1 h6 hm ⊢;generalize w9.heap.size=q at hm fb ⊢;obtain⟨z,hz,h3⟩:∃z,cy ⟨s.ts,s.t,s.n+1,s.g+1⟩=some z/\bN (some z) (λ_ s2=>bN (im f (d+1) s2) λk s3=>if s3.t.kind=5 then bN (cy s3) λ_ s4=>some (.ok (.grp (s.n+1) k (s.g+1)) s4)else some (.err (.own 10 s.t.at_) s3))=some x:=by
  cases hp:cy ⟨s.ts,s.t,s.n+1,s.g+1⟩with
  |none=>rw[hp]at hx;cases hx
  |some z=>rw[hp]at hx;exact⟨z,rfl,hx⟩
 clear hx;refine ac λK hK=> ?_
 refine ao ?_;show aV _ _ _ (AT 0 (1+1)) _ _;refine aW 0 1 1 (λN hN w11 he11=> ?_) (by decide);simp only[zq1];have e5:=up (g1.af he11);have g2:=up (h6.af he11);have g3:=up (hm.af he11);clear he11 g1 h6 hm;go_wp2;refine hN.out _ _ ?_;clear hN N;refine bF (f:=93) (i:=1) (rest:=[]) rfl rfl λu=>by simp[go_sem] trivial (mf hz e5.out) (λu w12 hr=> ?_) λch w12 hr=> ?_
 rotate_left
 .obtain⟨h4,hr⟩:=hr;cases z with
  |ok _ s2=>obtain⟨_,h⟩:=hr;cases h
  |err e2 s2=>
   obtain⟨rfl,g4,hch⟩:=hr;cases hch;cases Option.some.inj h3;exact⟨rfl,_,rfl,g4,eD g2.out h4 (x5 _),rfl⟩
 obtain⟨h4,hr⟩:=hr;cases z with
 |err e2 s2=>obtain⟨_,_,h⟩:=hr;cases h
 |ok _ s2=>
 refine az ?_;simp only[AS,zq0];refine hK.out _ _ ?_;clear hK K;have e6:q∉[p,r]:=λhx=>by
  rcases BY.1 hx with rfl|hx
  .omega
  .have:=AI.1 hx;omega
 have e8:=hr.1;have eb:a7 w12 q 315 _:=g3.out.kp h4 g3.out.lt e6;have ee:=eD g2.out h4 (x5 _);clear hr h4 e5 g2 g3 hz;dsimp only[bN]at h3;obtain⟨y,hy,hxy⟩:∃y,im f (d+1) s2=some y/\bN (some y) (λk s3=>if s3.t.kind=5 then bN (cy s3) λ_ s4=>some (.ok (.grp (s.n+1) k (s.g+1)) s4)else some (.err (.own 10 s.t.at_) s3))=some x:=by
  cases hp:im f (d+1) s2 with
  |none=>rw[hp]at h3;cases h3
  |some z=>rw[hp]at h3;exact⟨z,rfl,h3⟩
 clear h3;refine ac λK hK=> ?_
 refine ao ?_;show aV _ _ _ (AT 0 (4+4)) _ _;refine aW 0 4 4 (λN hN w14 hn=> ?_) (by decide);simp only[zq1];have ef:=up (e8.af hn);have hc:=up (ee.af hn);have ho:=up (eb.af hn);clear hn e8 ee eb;go_wp2;refine hN.out _ _ ?_;clear hN N;refine bF (f:=94) (R:=Post p r e cap tm w14.heap.size w14 y) (i:=4) (rest:=AT 5 (3+0)) rfl rfl λu=>by simp[go_sem] trivial (hq f (by omega) (d+1) s2 w14 y hy ef.out) (λv w15 hr=> ?_) λch w15 hr=> ?_
 rotate_left
 .cases y with
  |ok k s1=>obtain⟨_,h,_⟩:=hr;cases h
  |err e1 s1=>
   obtain⟨a,ha,fp,fr,fs⟩:=hr;cases ha;cases Option.some.inj hxy;exact⟨rfl,_,rfl,fp,eD hc.out fr (x5 _),fs.mono hc.out.1⟩
 cases y with
 |err e1 s1=>obtain⟨_,h,_⟩:=hr;cases h
 |ok k s3=>
 obtain⟨v',fv,eg,g5,hf⟩:=hr;cases fv;dsimp only[bN]at hxy;have el:a7 w15 q 315 _:=ho.out.kp g5 ho.out.lt e6;have hq14:=ho.out.lt;have gh:=eD hc.out g5 (x5 _);have hz15:=hc.out.1;obtain⟨vt,vq,rfl⟩:=hf.form;clear ef hc ho g5;simp only[AS,zq0];refine aW 5 3 0 (λN hN w16 hg=> ?_) (by decide);simp only[zq1];have hs:=el.af hg;have c1_:w16.cell? ⟨q,1,none⟩=some .nilIface:=hs.cell 1;have f1_:w16.frozen? ⟨q,1,none⟩=false:=hs.frozen 1;have gr:=up hs;have em:=up (eg.af hg);have en:=up (gh.af hg);have hR16:=up (hf.keep (w':=w16) λb _ _=>by rw[hg]);clear hg eg gh hf el hs;go_wp2;refine hN.out _ _ (az (hK.out _ _ ?_));clear hN N hK K c1_ f1_;have ht:a7 (w16.setCell ⟨q,1,none⟩ (.iface vt (.pointer (some ⟨vq,0,none⟩)))) q 315 #[.int .i64 (s.n+1),.iface vt (.pointer (some ⟨vq,0,none⟩)),.int .i64 (s.g+1)]:=by
  have:=gr.out.bI 1 (.iface vt (.pointer (some ⟨vq,0,none⟩)));simpa only[T1,Te,Td]using this
 have hh:=PS.keep (w':=w16.setCell ⟨q,1,none⟩ (.iface vt (.pointer (some ⟨vq,0,none⟩)))) em.out (Below.heap_setCell _ ⟨q,1,none⟩ _ p (by show p≠q;omega)) (Below.heap_setCell _ ⟨q,1,none⟩ _ r (by show r≠q;omega));have hi:=en.out.setCell (p:=⟨q,1,none⟩) λh=>by have:q<w.heap.size:=h;omega (.iface vt (.pointer (some ⟨vq,0,none⟩)))
 have hR17:Repr (w16.setCell ⟨q,1,none⟩ (.iface vt (.pointer (some ⟨vq,0,none⟩)))) (λb=>w.heap.size<=b) (.iface vt (.pointer (some ⟨vq,0,none⟩))) k:=(hR16.out.keep (w':=w16.setCell ⟨q,1,none⟩ (.iface vt (.pointer (some ⟨vq,0,none⟩)))) λb hb _=>Below.heap_setCell _ ⟨q,1,none⟩ _ b (by show b≠q;omega)).mono λb hb _=>SI hz15 hb
 clear em en hR16 gr;generalize w16.setCell _ _=w17 at ht hh hi hR17 ⊢;refine ac λK hK=> ?_
 by_cases h5:s3.t.kind=5
 .rw[if_pos h5]at hxy;have b5:(s3.t.kind==5)=true:=by simp[h5]
  clear h5;refine ag λw18 h0=> ?_
  have h2:=up (hh.af h0);have hj:=up (hi.af h0);have ev:=up (ht.af h0);have ey:=up (hR17.keep (w':=w18) λb _ _=>by rw[h0]);have c1_:w18.cell? ⟨p,1,none⟩=some (.int .i64 s3.t.kind):=h2.out.blk.cell 1;clear h0 hh hi ht hR17;go_wp2;refine hK.out _ _ ?_;clear hK K c1_ b5;obtain⟨z,hz,h3⟩:∃z,cy s3=some z/\bN (some z) (λ_ s4=>some (.ok (.grp (s.n+1) k (s.g+1)) s4))=some x:=by
   cases hp:cy s3 with
   |none=>rw[hp]at hxy;cases hxy
   |some z=>rw[hp]at hxy;exact⟨z,rfl,hxy⟩
  clear hxy;refine ac λK hK=> ?_
  refine ao ?_;show aV _ _ _ (AT 0 (1+1)) _ _;refine aW 0 1 1 (λN hN w19 hk=> ?_) (by decide);simp only[zq1];have f0:=up (h2.out.af hk);have g9:=up (hj.out.af hk);have gb:=up (ev.out.af hk);have f1:=up (ey.out.keep (w':=w19) λb _ _=>by rw[hk]);clear hk h2 hj ev ey;go_wp2;refine hN.out _ _ ?_;clear hN N;refine bF (f:=93) (i:=1) (rest:=[]) rfl rfl λu=>by simp[go_sem] trivial (mf hz f0.out) (λu w20 hr=> ?_) λch w20 hr=> ?_
  rotate_left
  .obtain⟨h4,hr⟩:=hr;cases z with
   |ok _ s4=>obtain⟨_,h⟩:=hr;cases h
   |err e2 s4=>
    obtain⟨rfl,g4,hch⟩:=hr;cases hch;cases Option.some.inj h3;exact⟨rfl,_,rfl,g4,eD g9.out h4 (x5 _),rfl⟩
  obtain⟨hv,hr⟩:=hr;cases z with
  |err e2 s4=>obtain⟨_,_,h⟩:=hr;cases h
  |ok _ s4=>
  cases Option.some.inj h3;refine az ?_;simp only[AS,zq0];refine hK.out _ _ ?_;clear hK K;have f2:=hr.1;have f3:a7 w20 q 315 _:=gb.out.kp hv gb.out.lt e6;have f4:=Az f1.out hv (by omega) (by omega);have gv:=eD g9.out hv (x5 _);clear hr hv f0 g9 gb f1;refine ag λw21 hl=> ?_
  have fc:=up (f2.af hl);have fe:=up (gv.af hl);have ff:=up (f3.af hl);have fg:=up (f4.keep (w':=w21) λb _ _=>by rw[hl]);clear hl f2 gv f3 f4;go_wp2;go_ret;exact⟨_,rfl,fc.out,fe.out,.grp fb ff.out fg.out⟩
 .rw[if_neg h5]at hxy;cases Option.some.inj hxy;have b5:(s3.t.kind==5)=false:=by simpa using h5
  clear h5;refine ag λw18 h0=> ?_
  have h2:=up (hh.af h0);have hj:=up (hi.af h0);have c1_:w18.cell? ⟨p,1,none⟩=some (.int .i64 s3.t.kind):=h2.out.blk.cell 1;clear h0 hh hi ht hR17;go_wp2_with (go_at_call 141;refine(jX _ _ _ _).mono ?_;rintro e7 w7 ⟨rfl,rfl⟩)
  exact⟨rfl,_,rfl,h2.out.keep (Below.heap_alloc _ _ _ h2.out.lt.1) (Below.heap_alloc _ _ _ h2.out.lt.2.1),hj.out.alloc (x5 _) _,_,rfl,hj.out.1,a7.new _ _ _⟩
theorem JF{p r e cap tm}:∀f,Does T 94 p r e cap tm (im f):=by
 have key:∀f,Does T 94 p r e cap tm (im f)/\Does T 118 p r e cap tm (kS f)/\Does T 142 p r e cap tm (gm f)/\Does T 162 p r e cap tm (ik f)/\Does T 174 p r e cap tm (iy f):=by
  intro f;induction f using Nat.strongRecOn with
  |_ f ih=>exact⟨Ns λf' h=>(ih f' h).2.1,Nq λf' h=>(ih f' h).2.2.1,M8 λf' h=>(ih f' h).2.2.2.1,NX λf' h=>(ih f' h).2.2.2.2,JC λf' h=>(ih f' h).1⟩
 grind
end
abbrev cS:=Nat->Bool
def yf(S:cS)(i:Nat):Nat->Nat
 |0=>0
 |n+1=>2^n*(S (64*i+n)).toNat+yf S i n
def wd(S:cS)(i:Nat):Nat:=yf S i 64
theorem G7(S i n):yf S i n<2^n:=by
 induction n with
 |zero=>simp[yf]
 |succ n ih=>
  have:(S (64*i+n)).toNat<=1:=Bool.toNat_le _;have h2:2^n*(S (64*i+n)).toNat<=2^n*1:=Nat.mul_le_mul_left _ this;grind [yf]
theorem LF(S i n j):(yf S i n).testBit j=(decide (j<n)&&S (64*i+j)):=by
 induction n with
 |zero=>simp[yf]
 |succ n ih=>
  grind [yf,Nat.testBit_two_pow_mul_add,G7]
theorem gi(S i):wd S i<2^64:=G7 S i 64
theorem jC(S i j):(wd S i).testBit j=(decide (j<64)&&S (64*i+j)):=LF S i 64 j
attribute [irreducible] wd
theorem oN(S i n)(hn:n<2^64)(h:∀j,j<64->n.testBit j=S (64*i+j)):n=wd S i:=by
 apply Nat.eq_of_testBit_eq;intro j;rw[jC];by_cases hj:j<64
 .simp[hj,h j hj]
 .simp[hj];exact T7 (SR hn (Tb (by decide) (by omega)))
def wz(S:cS)(i:Nat):Int:=(wd S i:Int)
theorem lh(S i):0<=wz S i/\wz S i<18446744073709551616:=by
 have:=gi S i;unfold wz;omega
theorem wraps_u64(n)(h₀:0<=n)(h₁:n<2^64):IntKind.u64.wrap n=n:=by rw[IntKind.wrap_u64];omega
theorem u64_and(a b:Nat)(ha:a<2^64)(hb:b<2^64):bits .and .u64 (a:Int) (b:Int)=((a&&&b:Nat):Int):=(bits_nat .u64 64 (by decide) wraps_u64 a b ha hb).1
theorem u64_or(a b:Nat)(ha:a<2^64)(hb:b<2^64):bits .or .u64 (a:Int) (b:Int)=((a|||b:Nat):Int):=(bits_nat .u64 64 (by decide) wraps_u64 a b ha hb).2
theorem u64_xor(a b:Nat)(ha:a<2^64)(hb:b<2^64):bits .xor .u64 (a:Int) (b:Int)=((a^^^b:Nat):Int):=by
 have ha':a%2^IntKind.u64.bits=a:=SW ha;have hb':b%2^IntKind.u64.bits=b:=SW hb;simp[bits,ha',hb'];exact wraps_u64 _ (Tg _) (by have:=Nat.xor_lt_two_pow ha hb;omega)
theorem u64_andNot(a b:Nat)(ha:a<2^64)(hb:b<2^64):bits .andNot .u64 (a:Int) (b:Int)=((a&&& (b^^^2^64-1):Nat):Int):=by
 have ha':a%2^IntKind.u64.bits=a:=SW ha;have hb':b%2^IntKind.u64.bits=b:=SW hb;have hn:(~~~ BitVec.ofNat IntKind.u64.bits b).toNat=b^^^2^64-1:=by
  apply Nat.eq_of_testBit_eq;intro j;rw[BitVec.testBit_toNat];rw[T3,SO];by_cases hj:j<64
  .have:j<IntKind.u64.bits:=hj;rw[BitVec.getLsbD_not,BitVec.getLsbD_ofNat];grind
  .have h2:¬ j<IntKind.u64.bits:=hj;grind
 simp only[bits,BitVec.ofInt_natCast,BitVec.toNat_and,BitVec.toNat_ofNat,ha',hn];exact wraps_u64 _ (Tg _) (by have h5:a&&& (b^^^2^64-1)<=a:=Nat.and_le_left;omega)
def ins(S:cS)(k:Nat):cS:=λx=>S x||x==k
def del(S:cS)(k:Nat):cS:=λx=>S x&&x !=k
def comp(S:cS):cS:=λx=> !S x
def jd(S:cS)(lo hi:Nat):cS:=λx=>S x||(decide (lo<=x)&&decide (x<=hi))
def co:cS:=λ_=>false
def pm(S:cS):cS:=λx=>S x||(decide (65<=x/\x<=90)&&S (x+32))||(decide (97<=x/\x<=122)&&S (x-32))
theorem qd(i):wz co i=0:=by
 have:0=wd co i:=oN _ _ 0 (by decide) (by intro j hj;simp[co]);unfold wz;omega
theorem nL{S T i}(h:∀j,j<64->S (64*i+j)=T (64*i+j)):wz S i=wz T i:=by
 have:wd S i=wd T i:=oN _ _ _ (gi _ _) (by simp_all[jC]);simp[wz,this]
theorem G4(S i j)(hj:j<64):bits .or .u64 (wz S i) ((2^j:Nat):Int)=wz (ins S (64*i+j)) i:=by
 have h2:2^j<2^64:=Nat.pow_lt_pow_right (by decide) hj;rw[wz,u64_or _ _ (gi _ _) h2];congr 1
 refine oN _ _ _ (SM (gi _ _) h2) ?_;intro k hk;simp[jC,ins];grind
theorem s8(S i i' j)(hj:j<64)(h:i'≠i):wz (ins S (64*i+j)) i'=wz S i':=nL (by
 grind [ins])
theorem N5(S):bits .andNot .u64 (wz S 0) 1024=wz (del S 10) 0:=by
 rw[wz,show(1024:Int)=(1024:Nat)from rfl,u64_andNot _ _ (gi _ _) (by decide)];congr 1
 refine oN _ _ _ (T0 Nat.and_le_left (gi _ _)) ?_;intro k hk;simp only[T4,jC,T3,SO,show 1024=2^10 from rfl,Nat.testBit_two_pow,del];grind
theorem nM(S i)(h:i≠0):wz (del S 10) i=wz S i:=nL (by
 grind [del])
theorem LA(S i):bits .xor .u64 18446744073709551615 (wz S i)=wz (comp S) i:=by
 rw[wz,show(18446744073709551615:Int)=(18446744073709551615:Nat)from rfl,u64_xor _ _ (by decide) (gi _ _)];congr 1
 refine oN _ _ _ (Nat.xor_lt_two_pow (by decide) (gi _ _)) ?_;intro k hk;rw[T3,jC,show 18446744073709551615=2^64-1 from rfl,SO];simp[hk,comp]
theorem Dp(S T i):bits .or .u64 (wz S i) (wz T i)=wz (λx=>S x||T x) i:=by
 rw[wz,wz,u64_or _ _ (gi _ _) (gi _ _)];congr 1
 refine oN _ _ _ (SM (gi _ _) (gi _ _)) ?_;simp_all[jC]
theorem G5(S i j)(hj:j<64):bits .and .u64 (wz S i/ ((2^j:Nat):Int)) 1=if S (64*i+j)then 1 else 0:=by
 have h1:wz S i/ (2^j:Nat)=(wd S i/2^j:Nat):=by norm_cast
 rw[h1,show(1:Int)=(1:Nat)from rfl,u64_and _ _ (T0 (Nat.div_le_self _ _) (gi _ _)) (by decide)];have h2:=jC S i j;grind
theorem Lz(S):bits .or .u64 (wz S 1) (bits .or .u64 (IntKind.u64.wrap (bits .and .u64 (wz S 1) 134217726*4294967296)) (bits .and .u64 (wz S 1/4294967296) 134217726))=wz (pm S) 1:=by
 have g:(134217726:Int)=((134217726:Nat):Int):=rfl;have gb:∀j,(134217726:Nat).testBit j=decide (1<=j/\j<=26):=by
  intro j;by_cases hj:j<27
  .have:∀j,j<27->(134217726:Nat).testBit j=decide (1<=j/\j<=26):=by decide
   grind
  .rw[T7 (SR (by decide:134217726<2^27) (Tb (by decide) (by omega)))];grind
 have h1:bits .and .u64 (wz S 1) 134217726=((wd S 1&&&134217726:Nat):Int):=by rw[wz,g,u64_and _ _ (gi _ _) (by decide)]
 have l1:wd S 1&&&134217726<2^27:=Tc _ (by decide);have h2:IntKind.u64.wrap (((wd S 1&&&134217726:Nat):Int)*4294967296)=(((wd S 1&&&134217726)<<<32:Nat):Int):=by
  rw[Nat.shiftLeft_eq,wraps_u64]
  .exact(Int.natCast_mul _ 4294967296).symm
  .omega
  omega
 have l2:(wd S 1&&&134217726)<<<32<2^64:=by omega
 have h3:bits .and .u64 (wz S 1/4294967296) 134217726=((wd S 1>>>32&&&134217726:Nat):Int):=by
  have:wz S 1/ (4294967296:Int)=((wd S 1>>>32:Nat):Int):=by simp[wz,T2]
  rw[this,g,u64_and _ _ _ (by decide)];rw[T2];exact T0 (Nat.div_le_self _ _) (gi _ _)
 have l3:wd S 1>>>32&&&134217726<2^64:=SR (Tc _ (by decide:134217726<2^27)) (by decide);rw[h1,h2,h3,u64_or _ _ l2 l3,wz,u64_or _ _ (gi _ _) (SM l2 l3),wz];congr 1
 refine oN _ _ _ (SM (gi _ _) (SM l2 l3)) ?_;intro k hk;simp[Nat.testBit_or,Nat.testBit_or,Nat.testBit_shiftLeft,T4,T4,Nat.testBit_shiftRight,jC,jC,jC,gb,pm];by_cases c1:1<=k/\k<=26
 .grind
 grind
theorem mw(S i)(h:i≠1):wz (pm S) i=wz S i:=nL (by
 grind [pm])
def words(S:cS):Array Sx:=#[.int .u64 (wz S 0),.int .u64 (wz S 1),.int .u64 (wz S 2),.int .u64 (wz S 3)]
def r9(v:Nat):List UInt8->Option Nat
 |[]=>some v
 |c::cs=>if c.toNat<48\/57<c.toNat then none else r9 (min (10*v+(c.toNat-48)) 21) cs
def iJ(l:List UInt8):Nat×Bool:=match r9 0 l with
 |none=>(0,false)
 |some v=>(v,!l.isEmpty&&decide (v<=20))
theorem Mi{v l n}(h:r9 v l=some n)(hv:v<=21):n<=21:=by
 induction l generalizing v with
 |nil=>simp[r9]at h;omega
 |cons c cs ih=>
  grind [r9]
theorem Mh(l):(iJ l).1<=21:=by
 unfold iJ;split
 .simp
 .next v h=>exact Mi h (by decide)
def fG(c:Nat):Int:=if c=40 then 4 else if c=41 then 5 else if c=124 then 6 else if c=94 then 2 else if c=36 then 3 else -1
def eN:List (List UInt8×List UInt8):=[
 ([97,108,110,117,109],[97,122,65,90,48,57]),
 ([97,108,112,104,97],[97,122,65,90]),
 ([98,108,97,110,107],[32,32,9,9]),
 ([99,110,116,114,108],[0,31,127,127]),
 ([100,105,103,105,116],[48,57]),
 ([103,114,97,112,104],[33,126]),
 ([108,111,119,101,114],[97,122]),
 ([112,114,105,110,116],[32,126]),
 ([112,117,110,99,116],[33,47,58,64,91,96,123,126]),
 ([115,112,97,99,101],[9,13,32,32]),
 ([117,112,112,101,114],[65,90]),
 ([120,100,105,103,105,116],[48,57,97,102,65,70])]
def px(S:cS):List UInt8->cS
 |lo::hi::t=>px (jd S lo.toNat hi.toNat) t
 |_=>S
structure mP where
 t:Tok
 wr:Option (Int×Int)
 more:Bool
 p:Nat
def ly(k at_:Int):Tok:=⟨k,at_,0,0,0,0,0,0,false⟩
def iI(at_:Int)(S:cS):Tok:=⟨1,at_,wz S 0,wz S 1,wz S 2,wz S 3,0,0,false⟩
def od(at_ least most:Int)(bad:Bool):Tok:=⟨7,at_,0,0,0,0,least,most,bad⟩
def Fy(at_:Int):Tok:=⟨8,at_,0,0,0,0,0,0,true⟩
def ez(k at_:Int)(p:Nat):mP:=⟨Fy at_,some (k,at_),false,p⟩
def dU(rest:List UInt8):Int×Int×Bool×Nat:=
 if SG rest 125<0 then(0,0,false,0)else
  let c:=T9 (rest.take (SG rest 125).toNat) [44]
  let n:=(SG rest 125).toNat+1
  if c.2.2=false then((iJ c.1).1,(iJ c.1).1,(iJ c.1).2,n)
  else if c.2.1=[]then((iJ c.1).1,-1,(iJ c.1).2,n)
  else((iJ c.1).1,(iJ c.2.1).1,(iJ c.1).2&& (iJ c.2.1).2&&decide ((iJ c.1).1<=(iJ c.2.1).1),n)
def dS(c p:Nat)(rest:List UInt8):mP:=
 if c=42 then⟨od p 0 (-1) false,none,true,p+1⟩
 else if c=43 then⟨od p 1 (-1) false,none,true,p+1⟩
 else if c=63 then⟨od p 0 1 false,none,true,p+1⟩
 else
  let b:=dU rest
  ⟨od p b.1 b.2.1 (!b.2.2.1),if b.2.2.1 then none else some (7,p),b.2.2.1,p+1+b.2.2.2⟩
def jE(S:cS)(rest:List UInt8):Option (cS×Nat):=
 let c:=T9 (rest.drop 2) [58,93]
 if rest.getD 1 0≠58\/c.2.2=false then none else
  match eN.find? (λx=>x.1==c.1)with
  |none=>none
  |some x=>some (px S x.2,c.1.length+4)
def uK(ln fold nt:Bool)(S:cS):cS:=
 let S1:=if fold then pm S else S
 if nt then(if ln then del (comp S1) 10 else comp S1)else S1
def jk(ln fold:Bool)(l:List UInt8)(nt:Bool)(at_:Nat):Nat->Bool->cS->Nat->Option mP
 |0,_,_,_=>none
 |f+1,first,S,p=>
  match l.drop p with
  |[]=>some (ez 4 at_ p)
  |a::r=>
   if a=93/\first=false then some ⟨iI at_ (uK ln fold nt S),none,true,p+1⟩
   else if 0<r.length/\a=91/\0<=SG [58,46,61] (r.getD 0 0)then
    match jE S (a::r)with
    |none=>some (ez 5 p p)
    |some x=>jk ln fold l nt at_ f false x.1 (p+x.2)
   else if 1<r.length/\r.getD 0 0=45/\r.getD 1 0≠93 then
    if(r.getD 1 0).toNat<a.toNat then some (ez 6 p p)
    else jk ln fold l nt at_ f false (jd S a.toNat (r.getD 1 0).toNat) (p+3)
   else jk ln fold l nt at_ f false (jd S a.toNat a.toNat) (p+1)
def ET(ln fold:Bool)(l:List UInt8)(at_ p:Nat):Option mP:=
 let nt:=SV (l.drop p) [94]
 jk ln fold l nt at_ (l.length+1) true co (if nt then p+1 else p)
def wH(ln:Bool)(S:cS):cS:=if ln then del S 10 else S
def yP(fold:Bool)(S:cS):cS:=if fold then pm S else S
def Km:List UInt8:=[40,41,91,46,94,36,92,124,42,43,63,123,93,125]
def eB(ln fold:Bool)(l:List UInt8)(p:Nat):Option mP:=
 match l.drop p with
 |[]=>some ⟨ly 0 p,none,false,p⟩
 |c::r=>
  if 0<=fG c.toNat then some ⟨ly (fG c.toNat) p,none,true,p+1⟩
  else if c=42\/c=43\/c=63\/c=123 then some (dS c.toNat p r)
  else if c=91 then ET ln fold l p (p+1)
  else if c=46 then some ⟨iI p (wH ln (jd co 0 255)),none,true,p+1⟩
  else if c=92 then
   match r with
   |[]=>some (ez 2 p (p+1))
   |d::_=>
    if 49<=d.toNat/\d.toNat<=57 then some (ez 3 p (p+2))
    else if SG Km d<0 then some (ez 2 p (p+2))
    else some ⟨iI p (yP fold (jd co d.toNat d.toNat)),none,true,p+2⟩
  else some ⟨iI p (yP fold (jd co c.toNat c.toNat)),none,true,p+1⟩
def ew(ln fold:Bool)(l:List UInt8):Nat->Nat->Option (List Tok×Option (Int×Int))
 |0,_=>none
 |f+1,p=>match eB ln fold l p with
  |none=>none
  |some x=>if x.more then(ew ln fold l f x.p).map (λy=>(x.t::y.1,y.2))else some ([x.t],x.wr)
theorem HE{l c}(h:¬ SG l c<0):(SG l c).toNat<l.length:=by
 have h1:=(Lib.indexByte_some (l:=l) (c:=c) (o:=(SG l c).toNat) (by omega)).1;grind
theorem EU(rest):(dU rest).2.2.2<=rest.length:=by
 unfold dU;split
 .exact SU _
 .next h=>
  have h1:=HE h;grind
theorem DW(s sep)(h:(T9 s sep).2.2=true):(T9 s sep).1.length+sep.length<=s.length:=by
 unfold T9 at *;split at h
 .next h0=>
  have:=Lib.index_room s sep h0;grind
 .cases h
theorem yq{S rest x}(h:jE S rest=some x)(hr:2<=rest.length):x.2<=rest.length/\0<x.2:=by
 simp only[jE]at h;split at h
 .cases h
 .next h0=>
  have h1:(T9 (rest.drop 2) [58,93]).2.2=true:=by
   grind
  have h2:=DW _ _ h1;grind
theorem rl{l r:List UInt8}{p a}(h:l.drop p=a::r):p+1+r.length=l.length:=by
 have:=congrArg List.length h;grind
structure tf(p:Nat)(x:mP):Prop where
 wrn:x.more=true->x.wr=none
 bad:x.t.bad=x.wr.isSome
 k8:x.t.kind=8->x.t.bad=true
 bk:x.t.bad=true->x.t.kind=8\/x.t.kind=7
 last:x.more=false->x.t.kind=0\/x.t.bad=true
 endk:x.t.kind=0->x.more=false
 atp:x.t.kind≠8->x.t.at_=p
theorem tf.wrong(q k at_:Int)(p p'):tf p (ez k at_ p'):=⟨λh=>by(cases h),rfl,λ_=>rfl,λ_=>.inl rfl,λ_=>.inr rfl,λh=>by(cases h),λh=>absurd rfl h⟩
theorem tf.set(p p' S):tf p ⟨iI p S,none,true,p'⟩:=⟨λ_=>rfl,rfl,λh=>by(cases h),λh=>by(cases h),λh=>by(cases h),λh=>by(cases h),λ_=>rfl⟩
theorem CJ{c}(h:0<=fG c):fG c=2\/fG c=3\/fG c=4\/fG c=5\/fG c=6:=by
 grind [fG]
theorem tf.sign(p p' c)(h:0<=fG c):tf p ⟨ly (fG c) p,none,true,p'⟩:=by
 have:=CJ h;refine⟨λ_=>rfl,rfl,λh=> ?_,λh=>by(cases h),λh=>by(cases h),λh=> ?_,λ_=>rfl⟩
 .dsimp only[ly]at h;omega
 simp_all[ly]
theorem tf.rep(p c rest):tf p (dS c p rest):=by
 unfold dS;split
 .exact⟨λ_=>rfl,rfl,λh=>by(cases h),λh=>by(cases h),λh=>by(cases h),λh=>by(cases h),λ_=>rfl⟩
 split
 .exact⟨λ_=>rfl,rfl,λh=>by(cases h),λh=>by(cases h),λh=>by(cases h),λh=>by(cases h),λ_=>rfl⟩
 split
 .exact⟨λ_=>rfl,rfl,λh=>by(cases h),λh=>by(cases h),λh=>by(cases h),λh=>by(cases h),λ_=>rfl⟩
 dsimp only;cases hb:(dU rest).2.2.1
 .exact⟨λh=>by(cases h),rfl,λh=>by(cases h),λh=>.inr rfl,λh=>.inr rfl,λh=>by(cases h),λ_=>rfl⟩
 .exact⟨λ_=>rfl,rfl,λh=>by(cases h),λh=>by(cases h),λh=>by(cases h),λh=>by(cases h),λ_=>rfl⟩
theorem Aw(ln fold l nt at_):∀f first S p,p<=l.length->l.length<f+p->∃x,jk ln fold l nt at_ f first S p=some x/\p<=x.p/\x.p<=l.length/\tf at_ x:=by
 intro f;induction f with
 |zero=>omega
 |succ f ih=>
  intro first S p h1 h2
  unfold jk;split
  .exact⟨_,rfl,x5 _,h1,.wrong 0 _ _ _ _⟩
  .next a r h=>
   have hl:=rl h;split
   .exact⟨_,rfl,T8 _,by grind,.set _ _ _⟩
   .split
    .next hc=>
     split
     .exact⟨_,rfl,x5 _,h1,.wrong 0 _ _ _ _⟩
     .next x hx=>
      have:=yq hx (by grind);simp[IS]at this;obtain⟨y,hy,h3,h4,h5⟩:=ih false x.1 (p+x.2) (by omega) (by omega)<;>grind
    .split
     .next hc=>
      split
      .exact⟨_,rfl,x5 _,h1,.wrong 0 _ _ _ _⟩
      .obtain⟨y,hy,h3,h4,h5⟩:=ih false (jd S a.toNat (r.getD 1 0).toNat) (p+3) (by omega) (by omega)<;>grind
     .obtain⟨y,hy,h3,h4,h5⟩:=ih false (jd S a.toNat a.toNat) (p+1) (by omega) (by omega)<;>grind
theorem qw{l:List UInt8}{p c}(h:SV (l.drop p) [c]=true):p+1<=l.length:=by
 unfold SV at h;cases hd:l.drop p with
 |nil=>simp[hd]at h
 |cons a r=>have:=rl hd;omega
theorem ib(ln fold l p)(hp:p<=l.length):∃x,eB ln fold l p=some x/\p<=x.p/\(x.more=true->p<x.p)/\x.p<=l.length/\tf p x:=by
 unfold eB;split
 .exact⟨_,rfl,x5 _,(λh=>by cases h),hp,⟨λ_=>rfl,rfl,λh=>by(cases h),λh=>by(cases h),λ_=>.inl rfl,λ_=>rfl,λ_=>rfl⟩⟩
 .next c r h=>
  have hl:=rl h;split
  .exact⟨_,rfl,T8 _,λ_=>IN _,by grind,.sign _ _ _ (by assumption)⟩
  .split
   .have hb:=EU r;refine⟨_,rfl,?_,λ_=> ?_,?_,.rep _ _ _⟩;all_goals
     unfold dS;repeat(first |split |(dsimp only;omega))
   .split
    .simp[ET];split
     .next hn=>
      have:=qw hn;obtain⟨y,hy,h3,h4,h5⟩:=Aw ln fold l (SV (l.drop (p+1)) [94]) p (l.length+1) true co (p+1+1) (by omega) (by omega)<;>grind
     .obtain⟨y,hy,h3,h4,h5⟩:=Aw ln fold l (SV (l.drop (p+1)) [94]) p (l.length+1) true co (p+1) (by omega) (by omega)<;>grind
    .split
     .exact⟨_,rfl,T8 _,λ_=>IN _,by grind,.set _ _ _⟩
     .split
      .split
       .exact⟨_,rfl,T8 _,(λh=>by cases h),by simp_all[ez],.wrong 0 _ _ _ _⟩
       .next d r'=>
        split
        .exact⟨_,rfl,by simp only[ez];omega,(λh=>by cases h),by grind [ez],.wrong 0 _ _ _ _⟩
        split
        .exact⟨_,rfl,by simp only[ez];omega,(λh=>by cases h),by grind [ez],.wrong 0 _ _ _ _⟩
        .exact⟨_,rfl,by simp,λ_=>by simp,by grind,.set _ _ _⟩
      .exact⟨_,rfl,by simp,λ_=>by simp,by grind,.set _ _ _⟩
theorem ES(ln fold l):∀f p,p<=l.length->l.length<f+p->∃x,ew ln fold l f p=some x/\x.1.length<=f/\x.1≠[]:=by
 intro f;induction f with
 |zero=>simp
 |succ f ih=>
  intro p h1 h2;obtain⟨x,hx,h3,h4,h5,_⟩:=ib ln fold l p h1;simp[ew,hx];split <;>grind
section
structure pD where
 p:Nat
 n:Int
 g:Int
inductive g8(α:Type) where
 |ok (a:α) (s:pD)
 |err (k at_:Int)
def mb{α β:Type}(x:Option (g8 α))(f:α->pD->Option (g8 β)):Option (g8 β):=match x with
 |none=>none
 |some (.err k a)=>some (.err k a)
 |some (.ok a s)=>f a s
section
variable(ln fold:Bool)(l:List UInt8)
mutual
def qY:Nat->Int->pD->Option (g8 Nd)
 |0,_,_=>none
 |f+1,d,s=>lV f d (s.n+1) [] ⟨s.p,s.n+1,s.g⟩
def lV:Nat->Int->Int->List Nd->pD->Option (g8 Nd)
 |0,_,_,_,_=>none
 |f+1,d,id,ks,s=>mb (sL f d s) λk s=>match eB ln fold l s.p with
  |none=>none
  |some x=>if x.t.kind=6 then lV f d id (ks++[k]) ⟨x.p,s.n,s.g⟩else some (.ok (.alt id (ks++[k])) s)
def sL:Nat->Int->pD->Option (g8 Nd)
 |0,_,_=>none
 |f+1,d,s=>lU f d (s.n+1) [] ⟨s.p,s.n+1,s.g⟩
def lU:Nat->Int->Int->List Nd->pD->Option (g8 Nd)
 |0,_,_,_,_=>none
 |f+1,d,id,ks,s=>match eB ln fold l s.p with
  |none=>none
  |some x=>
   if x.t.kind=0\/x.t.kind=6\/x.t.kind=5 then
    if x.t.kind=5/\d=0 then some (.err 11 x.t.at_)
    else if ks.length=0 then some (.err 9 x.t.at_)
    else some (.ok (.seq id ks) s)
   else if x.t.kind=7 then some (.err 8 x.t.at_)
   else mb (oe f d s) λk s=>lU f d id (ks++[k]) s
def oe:Nat->Int->pD->Option (g8 Nd)
 |0,_,_=>none
 |f+1,d,s=>mb (oU f d s) λk s=>iC f k s
def iC:Nat->Nd->pD->Option (g8 Nd)
 |0,_,_=>none
 |f+1,k,s=>match eB ln fold l s.p with
  |none=>none
  |some x=>if x.t.kind=7 then match x.wr with
   |some w=>some (.err w.1 w.2)
   |none=>iC f (.rep (s.n+1) k x.t.least x.t.most) ⟨x.p,s.n+1,s.g⟩
   else some (.ok k s)
def oU:Nat->Int->pD->Option (g8 Nd)
 |0,_,_=>none
 |f+1,d,s=>match eB ln fold l s.p with
  |none=>none
  |some x=>match x.wr with
   |some w=>some (.err w.1 w.2)
   |none=>if x.t.kind=4 then og f d s else
    if x.t.kind=2 then some (.ok (.edge (s.n+1) false) ⟨x.p,s.n+1,s.g⟩)
    else if x.t.kind=3 then some (.ok (.edge (s.n+1) true) ⟨x.p,s.n+1,s.g⟩)
    else some (.ok (.set (s.n+1) x.t.b0 x.t.b1 x.t.b2 x.t.b3) ⟨x.p,s.n+1,s.g⟩)
def og:Nat->Int->pD->Option (g8 Nd)
 |0,_,_=>none
 |f+1,d,s=>match eB ln fold l s.p with
  |none=>none
  |some x=>
   if s.g=9 then some (.err 12 x.t.at_)
   else mb (qY f (d+1) ⟨x.p,s.n+1,s.g+1⟩) λk s3=>match eB ln fold l s3.p with
    |none=>none
    |some y=>if y.t.kind=5 then some (.ok (.grp (s.n+1) k (s.g+1)) ⟨y.p,s3.n,s3.g⟩)else some (.err 10 x.t.at_)
end
end
section
variable{ln fold:Bool}{l:List UInt8}{wr:Option (Int×Int)}
def AtP(ln fold:Bool)(l:List UInt8)(wr:Option (Int×Int))(s:g7)(σ:pD):Prop:=σ.p<=l.length/\s.n=σ.n/\s.g=σ.g/\s.t.kind≠8/\∃f,ew ln fold l f σ.p=some (s.t::s.ts,wr)
def gX(ln fold:Bool)(l:List UInt8)(wr:Option (Int×Int))(p:Nat):Prop:=∃x w,eB ln fold l p=some x/\x.t.kind=8/\x.wr=some w/\wr=some w
def Fz(wr:Option (Int×Int)):FX->Int->Int->Prop
 | .tok,k,a=>wr=some (k,a)
 | .own k' a',k,a=>k'=k/\a'=a
def Rel(ln fold:Bool)(l:List UInt8)(wr:Option (Int×Int)){α:Type}:Option (eJ α)->Option (g8 α)->Prop
 |none,_=>True
 |some (.ok a s),r=>∃σ,r=some (.ok a σ)/\AtP ln fold l wr s σ
 |some (.err e s),r=>∃k at_,r=some (.err k at_)/\Fz wr e k at_
def y9(ln fold:Bool)(l:List UInt8)(wr:Option (Int×Int)){α:Type}:Option (eJ α)->Option (g8 α)->Prop
 |none,_=>True
 |some (.ok a s),r=>∃σ,r=some (.ok a σ)/\AtP ln fold l wr s σ
 |some (.err e s),r=>(∃k at_,r=some (.err k at_)/\Fz wr e k at_)\/(e= .tok/\∃a σ,r=some (.ok a σ)/\gX ln fold l wr σ.p)
theorem y9.of{α}{x:Option (eJ α)}{r}(h:Rel ln fold l wr x r):y9 ln fold l wr x r:=by
 match x,h with
 |none,_=>trivial
 |some (.ok a s),h=>exact h
 |some (.err e s),h=>exact .inl h
theorem AtP.now{s σ}(h:AtP ln fold l wr s σ):∃x,eB ln fold l σ.p=some x/\x.t=s.t/\tf σ.p x/\x.p<=l.length/\
 ((x.more=true/\∃f,ew ln fold l f x.p=some (s.ts,wr))\/x.more=false/\s.ts=[]/\wr=x.wr):=by
 obtain⟨hp,_,_,_,f,hf⟩:=h;obtain⟨x,hx,_,_,h3,h4⟩:=ib ln fold l σ.p hp;cases f with
 |zero=>cases hf
 |succ f=>
  unfold ew at hf;grind [T6]
theorem AtP.step{s σ x}(h:AtP ln fold l wr s σ)(hx:eB ln fold l σ.p=some x)(hw:x.wr=none)(h0:x.t.kind≠0):
 ∃t ts,s.ts=t::ts/\((t.kind≠8/\∀n g,AtP ln fold l wr ⟨ts,t,n,g⟩ ⟨x.p,n,g⟩)\/t.kind=8/\gX ln fold l wr x.p):=by
 obtain⟨y,hy,hyt,hok,hle,hm⟩:=h.now;cases hx.symm.trans hy;rcases hm with⟨hm,f,hf⟩|⟨hm,_,_⟩
 .obtain⟨z,hz,_,_,h3,h4⟩:=ib ln fold l x.p hle;cases f with
  |zero=>cases hf
  |succ f=>
   have h1:=hf;unfold ew at hf;have key:∃ts,s.ts=z.t::ts/\(z.more=false->wr=z.wr):=by
    grind [T6]
   obtain⟨ts,h5,h6⟩:=key;refine⟨z.t,ts,h5,?_⟩;by_cases h8:z.t.kind=8
   .have hb:=h4.bad;rw[h4.k8 h8]at hb;obtain⟨w,hw⟩:=SQ.1 hb.symm;have hmf:z.more=false:=by
     cases hzm:z.more
     .rfl
     .have:=h4.wrn hzm;rw[this]at hw;cases hw
    exact .inr ⟨h8,z,w,hz,h8,hw,(h6 hmf).trans hw⟩
   .exact .inl ⟨h8,λn g=>⟨hle,rfl,rfl,h8,f+1,by rw[h1,h5]⟩⟩
 .rcases hok.last hm with h|h
  .exact absurd h h0
  .have:=hok.bad;rw[h,hw]at this;cases this
theorem gX.Jn{p}(h:gX ln fold l wr p)(f d id ks n g):∃k a,lU ln fold l (f+3) d id ks ⟨p,n,g⟩=some (.err k a)/\wr=some (k,a):=by
 obtain⟨x,w,hx,h8,hw,h0⟩:=h;refine⟨w.1,w.2,?_,h0⟩;simp[lU,hx];rw[if_neg (by omega),if_neg (by omega)];simp[oe,oU,hx,hw];rfl
theorem gX.alt{p}(h:gX ln fold l wr p)(f d n g):∃k a,qY ln fold l (f+6) d ⟨p,n,g⟩=some (.err k a)/\wr=some (k,a):=by
 obtain⟨k,a,h1,h2⟩:=h.Jn f d (n+1+1) [] (n+1+1) g;refine⟨k,a,?_,h2⟩;simp[qY,lV,sL,h1];rfl
theorem gX.PP{p}(h:gX ln fold l wr p)(f d id ks n g):∃k a,lV ln fold l (f+5) d id ks ⟨p,n,g⟩=some (.err k a)/\wr=some (k,a):=by
 obtain⟨k,a,h1,h2⟩:=h.Jn f d (n+1) [] (n+1) g;refine⟨k,a,?_,h2⟩;simp[lV,sL,h1];rfl
theorem gX.GZ{p}(h:gX ln fold l wr p)(f k n g):iC ln fold l (f+1) k ⟨p,n,g⟩=some (.ok k ⟨p,n,g⟩):=by
 obtain⟨x,w,hx,h8,hw,hwr⟩:=h;simp_all[iC]
theorem zo:∀f,
 (∀d s σ,AtP ln fold l wr s σ->Rel ln fold l wr (im f d s) (qY ln fold l (f+8) d σ))/\
 (∀d id ks s σ,AtP ln fold l wr s σ->Rel ln fold l wr (il f d id ks s) (lV ln fold l (f+8) d id ks σ))/\
 (∀d s σ,AtP ln fold l wr s σ->Rel ln fold l wr (kS f d s) (sL ln fold l (f+8) d σ))/\
 (∀d id ks s σ,AtP ln fold l wr s σ->Rel ln fold l wr (jP f d id ks s) (lU ln fold l (f+8) d id ks σ))/\
 (∀d s σ,AtP ln fold l wr s σ->s.t.kind≠0->s.t.kind≠7->y9 ln fold l wr (gm f d s) (oe ln fold l (f+8) d σ))/\
 (∀k s σ,AtP ln fold l wr s σ->y9 ln fold l wr (fP f k s) (iC ln fold l (f+8) k σ))/\
 (∀d s σ,AtP ln fold l wr s σ->s.t.kind≠0->s.t.kind≠7->y9 ln fold l wr (ik f d s) (oU ln fold l (f+8) d σ))/\
 ∀d s σ,AtP ln fold l wr s σ->s.t.kind=4->y9 ln fold l wr (iy f d s) (og ln fold l (f+8) d σ):=by
 intro f;induction f with
 |zero=>exact⟨λ_ _ _ _=>trivial,λ_ _ _ _ _ _=>trivial,λ_ _ _ _=>trivial,λ_ _ _ _ _ _=>trivial,λ_ _ _ _ _ _=>trivial,λ_ _ _ _=>trivial,λ_ _ _ _ _ _=>trivial,λ_ _ _ _ _=>trivial⟩
 |succ f ih=>
  obtain⟨iAlt,iAltL,iSeq,iSeqL,iPiece,iPieceL,iAtom,iGroup⟩:=ih;have pre:∀{s:g7}{σ:pD},AtP ln fold l wr s σ->AtP ln fold l wr ⟨s.ts,s.t,s.n+1,s.g⟩ ⟨σ.p,σ.n+1,σ.g⟩:=λ⟨h1,h2,h3,h4,h5⟩=>⟨h1,by grind,h3,h4,h5⟩
  refine⟨λd s σ h=> ?_,λd id ks s σ h=> ?_,λd s σ h=> ?_,λd id ks s σ h=> ?_,λd s σ h h0 h7=> ?_,λk s σ h=> ?_,λd s σ h h0 h7=> ?_,λd s σ h h4=> ?_⟩
  .rw[show f+1+8=f+8+1 from by omega];unfold im qY gn;split
   .have:=iAltL d (s.n+1) [] _ _ (pre h);rw[<- h.2.1]at this ⊢;exact this
   .trivial
  .rw[show f+1+8=f+8+1 from by omega];unfold il lV;split
   .have h1:=iSeq d s σ h;cases hp:kS f d s with
    |none=>trivial
    |some r=>
     rw[hp]at h1;cases r with
     |err e s1=>
      obtain⟨k,a,h2,h3⟩:=h1;rw[h2];exact⟨k,a,rfl,h3⟩
     |ok k s1=>
      obtain⟨σ1,h2,h3⟩:=h1;rw[h2];obtain⟨x,hx,ha,hok,hle,hm⟩:=h3.now;simp only[bN,mb];rw[hx];dsimp only;rw[ha];split
      .next h6=>
       have hw:x.wr=none:=by
        have:=hok.bk;cases hb:x.t.bad
        .have:=hok.bad;rw[hb]at this;simp_all
        grind
       obtain⟨t,ts,ht,h7⟩:=h3.step hx hw (by rw[ha];omega);unfold cy;rw[ht];dsimp only;rcases h7 with⟨h8,h9⟩|⟨h8,h9⟩
       .rw[if_neg h8];have:=iAltL d id (ks++[k]) _ _ (h9 s1.n s1.g);rw[<- h3.2.1,<- h3.2.2.1];omega
       .rw[if_pos h8];obtain⟨k',a',h10,h11⟩:=h9.PP (f+3) d id (ks++[k]) σ1.n σ1.g;exact⟨k',a',h10,h11⟩
      .exact⟨σ1,rfl,h3⟩
   .trivial
  .rw[show f+1+8=f+8+1 from by omega];unfold kS sL gn;split
   .have:=iSeqL d (s.n+1) [] _ _ (pre h);rw[<- h.2.1]at this ⊢;exact this
   .trivial
  .rw[show f+1+8=f+8+1 from by omega];obtain⟨x,hx,ha,hok,hle,hm⟩:=h.now;unfold jP lU;rw[hx];dsimp only;rw[ha];split
   .split
    .exact⟨_,_,rfl,rfl,rfl⟩
    split
    .exact⟨_,_,rfl,rfl,rfl⟩
    .exact⟨σ,rfl,h⟩
   .next hk=>
    split
    .exact⟨_,_,rfl,rfl,rfl⟩
    split
    .next h7 _=>
     have h1:=iPiece d s σ h (by omega) h7;cases hp:gm f d s with
     |none=>trivial
     |some r=>
      rw[hp]at h1;cases r with
      |err e s1=>
       rcases h1 with⟨k,a,h2,h3⟩|⟨rfl,k,σ1,h2,h3⟩
       .rw[h2];exact⟨k,a,rfl,h3⟩
       .rw[h2];obtain⟨k',a',h4,h5⟩:=h3.Jn (f+5) d id (ks++[k]) σ1.n σ1.g;exact⟨k',a',h4,h5⟩
      |ok k s1=>
       obtain⟨σ1,h2,h3⟩:=h1;rw[h2];exact iSeqL d id (ks++[k]) s1 σ1 h3
    .trivial
  .rw[show f+1+8=f+8+1 from by omega];unfold gm oe;have h1:=iAtom d s σ h h0 h7;cases hp:ik f d s with
   |none=>trivial
   |some r=>
    rw[hp]at h1;cases r with
    |err e s1=>
     rcases h1 with⟨k,a,h2,h3⟩|⟨rfl,k,σ1,h2,h3⟩
     .rw[h2];exact .inl ⟨k,a,rfl,h3⟩
     .rw[h2];exact .inr ⟨rfl,k,σ1,h3.GZ (f+7) k σ1.n σ1.g,h3⟩
    |ok k s1=>
     obtain⟨σ1,h2,h3⟩:=h1;rw[h2];exact iPieceL k s1 σ1 h3
  .rw[show f+1+8=f+8+1 from by omega];obtain⟨x,hx,ha,hok,hle,hm⟩:=h.now;unfold fP iC;rw[hx];dsimp only;rw[ha];split
   .next h7=>
    split
    .next hb=>
     have he:=hok.bad;rw[ha,hb]at he;obtain⟨w,hw⟩:=SQ.1 he.symm;rw[hw];rcases hm with⟨hm,_⟩|⟨_,_,hf⟩
     .have:=hok.wrn hm;rw[this]at hw;cases hw
     .exact .inl ⟨_,_,rfl,by show wr=_;rw[hf,hw]⟩
    .next hb=>
     have hw:x.wr=none:=by
      have:=hok.bad;rw[ha]at this;simp_all
     rw[hw];dsimp only;unfold gn;split
     .obtain⟨t,ts,ht,h8⟩:=(pre h).step hx hw (by rw[ha];omega);simp only[bN,cy];rw[ht];dsimp only;rcases h8 with⟨h8,h9⟩|⟨h8,h9⟩
      .rw[if_neg h8];have:=iPieceL (.rep (s.n+1) k s.t.least s.t.most) _ _ (h9 (s.n+1) s.g);rw[<- h.2.1,<- h.2.2.1];omega
      .rw[if_pos h8];exact .inr ⟨rfl,_,_,h9.GZ (f+7) _ _ _,h9⟩
     .trivial
   .exact⟨σ,rfl,h⟩
  .rw[show f+1+8=f+8+1 from by omega];obtain⟨x,hx,ha,hok,hle,hm⟩:=h.now;have hw:x.wr=none:=by
    cases hb:x.t.bad
    .have:=hok.bad;rw[hb]at this;simp_all
    .have h1:=hok.bk hb;rw[ha]at h1;exact(h1.elim h.2.2.2.1 h7).elim
   unfold ik oU;rw[hx];dsimp only;rw[hw];dsimp only;rw[ha];split
   .next h4=>exact iGroup d s σ h h4
   .obtain⟨t,ts,ht,h8⟩:=h.step hx hw (by rw[ha];omega);unfold cy;rw[ht];dsimp only;rcases h8 with⟨h8,h9⟩|⟨h8,h9⟩
    .rw[if_neg h8];simp only[bN,gn];by_cases hb:0<=s.n/\s.n<1000000
     .rw[if_pos hb];dsimp only;have h10:AtP ln fold l wr ⟨ts,t,s.n+1,s.g⟩ ⟨x.p,s.n+1,s.g⟩:=h9 (s.n+1) s.g;rw[<- h.2.1,<- h.2.2.1];split
      .exact⟨_,rfl,h10⟩
      split
      .exact⟨_,rfl,h10⟩
      .exact⟨_,rfl,h10⟩
     .rw[if_neg hb];trivial
    .rw[if_pos h8];refine .inr ⟨rfl,?_⟩;split
     .exact⟨_,_,rfl,h9⟩
     split
     .exact⟨_,_,rfl,h9⟩
     .exact⟨_,_,rfl,h9⟩
  .rw[show f+1+8=f+8+1 from by omega];obtain⟨x,hx,ha,hok,hle,hm⟩:=h.now;have hw:x.wr=none:=by
    cases hb:x.t.bad
    .have:=hok.bad;rw[hb]at this;simpa using this.symm
    .have h1:=hok.bk hb;rw[ha]at h1;omega
   unfold iy og;rw[hx];dsimp only;rw[ha,h.2.2.1,h.2.1];split
   .exact .inl ⟨_,_,rfl,rfl,rfl⟩
   split
   .unfold gn;dsimp only;split
    .obtain⟨t,ts,ht,h8⟩:=h.step hx hw (by rw[ha];omega);simp only[bN,cy];rw[ht];dsimp only;rcases h8 with⟨h8,h9⟩|⟨h8,h9⟩
     .rw[if_neg h8];have h1:=iAlt (d+1) _ _ (h9 (σ.n+1) (σ.g+1));dsimp only at h1 ⊢;cases hp:im f (d+1) ⟨ts,t,σ.n+1,σ.g+1⟩with
      |none=>trivial
      |some r=>
       rw[hp]at h1;cases r with
       |err e s1=>
        obtain⟨k,a,h2,h3⟩:=h1;rw[h2];exact .inl ⟨k,a,rfl,h3⟩
       |ok k s3=>
        obtain⟨σ3,h2,h3⟩:=h1;rw[h2];obtain⟨y,hy,hc,hd,hley,hmy⟩:=h3.now;simp only[mb];rw[hy];dsimp only;rw[hc];split
        .next h5=>
         have hwy:y.wr=none:=by
          cases hb:y.t.bad
          .have:=hd.bad;rw[hb]at this;simpa using this.symm
          .have h1:=hd.bk hb;rw[hc]at h1;omega
         obtain⟨t2,ts2,hg,h10⟩:=h3.step hy hwy (by rw[hc];omega);rw[hg];dsimp only;rcases h10 with⟨h10,h11⟩|⟨h10,h11⟩
         .rw[if_neg h10];rw[<- h3.2.1,<- h3.2.2.1];exact⟨_,rfl,h11 _ _⟩
         .rw[if_pos h10];exact .inr ⟨rfl,_,_,rfl,h11⟩
        .exact .inl ⟨_,_,rfl,rfl,rfl⟩
     .rw[if_pos h8];obtain⟨k',a',h10,h11⟩:=h9.alt (f+2) (d+1) (σ.n+1) (σ.g+1);refine .inl ⟨k',a',?_,h11⟩;rw[h10];rfl
    .trivial
   .trivial
end
end
section
section
variable{ln fold:Bool}{l:List UInt8}{wr:Option (Int×Int)}
def ei(ln fold:Bool)(l:List UInt8)(wr:Option (Int×Int))(s:g7):Prop:=∃σ,AtP ln fold l wr s σ
structure Room(a:Int)(s:g7):Prop where
 n0:0<=s.n
 g0:0<=s.g
 n1:s.n+3*(s.ts.length:Int)+a<=1000
 g1:s.g+(s.ts.length:Int)<=500
structure Less(a:Int)(c:Nat)(s s':g7):Prop where
 k:s'.ts.length+c<=s.ts.length
 n:s'.n+3*(s'.ts.length:Int)<=s.n+3*(s.ts.length:Int)+a
 g:s'.g+(s'.ts.length:Int)<=s.g+(s.ts.length:Int)
 n0:s.n<=s'.n
 g0:s.g<=s'.g
def Tot(ln fold:Bool)(l:List UInt8)(wr:Option (Int×Int))(a:Int)(c:Nat)(s:g7){α:Type}(x:Option (eJ α)):Prop:=∃r,x=some r/\∀v s',r= .ok v s'->ei ln fold l wr s'/\Less a c s s'
theorem Tot.err{a c s α}(e s'):Tot ln fold l wr a c s (some (.err e s':eJ α)):=⟨_,rfl,λv s' h=>by cases h⟩
theorem Tot.ok{a c s s' α}{v:α}(h:ei ln fold l wr s')(h2:Less a c s s'):Tot ln fold l wr a c s (some (.ok v s')):=⟨_,rfl,λv s' h=>by grind⟩
theorem Tot.thn{a b a':Int}{c c' d:Nat}{s α β x}{f:α->g7->Option (eJ β)}(h:Tot ln fold l wr a c s x)(hf:∀v s',ei ln fold l wr s'->Less a c s s'->Tot ln fold l wr b d s (f v s')):Tot ln fold l wr b d s (bN x f):=by
 obtain⟨r,rfl,h⟩:=h;cases r with
 |err e s'=>exact .err e s'
 |ok v s'=>obtain⟨h1,h2⟩:=h v s' rfl;exact hf v s' h1 h2
theorem Tot.from{a b e c d g s s1 α}{x:Option (eJ α)}(h:Tot ln fold l wr a c s1 x)(h1:Less b d s s1)(ha:a+b<=e)(hc:g<=c+d):Tot ln fold l wr e g s x:=by
 obtain⟨r,rfl,h⟩:=h;refine⟨r,rfl,λv s' hr=> ?_⟩;obtain⟨h2,h3⟩:=h v s' hr;refine⟨h2,?_,?_,?_,?_,?_⟩
 .have:=h3.k;have:=h1.k;omega
 .have:=h3.n;have:=h1.n;omega
 .have:=h3.g;have:=h1.g;omega
 .have:=h3.n0;have:=h1.n0;omega
 .have:=h3.g0;have:=h1.g0;omega
theorem Less.refl(s):Less 0 0 s s:=⟨x5 _,by omega,by omega,by omega,by omega⟩
theorem ei.part{s}(h:ei ln fold l wr s)(n g):ei ln fold l wr ⟨s.ts,s.t,n,g⟩:=by
 obtain⟨σ,h1,h2,h3,h4,h5⟩:=h;exact⟨⟨σ.p,n,g⟩,h1,rfl,rfl,h4,h5⟩
theorem nR{s}(h:ei ln fold l wr s)(h0:0<=s.n)(h1:s.n<1000000):gn s=some (.ok (s.n+1) ⟨s.ts,s.t,s.n+1,s.g⟩):=by
 simp_all[gn]
theorem nQ{s}(h:ei ln fold l wr s)(h0:s.t.kind≠0)(hb:s.t.bad=false):∃r,cy s=some r/\∀v s',r= .ok v s'->ei ln fold l wr s'/\s'.n=s.n/\s'.g=s.g/\s'.ts.length+1=s.ts.length:=by
 obtain⟨σ,h⟩:=h;obtain⟨x,hx,h1,hok,hle,hm⟩:=h.now;have hw:x.wr=none:=by
  have:=hok.bad;simp_all
 obtain⟨t,ts,ht,h8⟩:=h.step hx hw (by rw[h1];omega);simp only[cy,ht];rcases h8 with⟨h8,h9⟩|⟨h8,h9⟩
 .rw[if_neg h8];refine⟨_,rfl,λv s' hv=> ?_⟩;cases hv;exact⟨⟨_,h9 _ _⟩,rfl,rfl,by simp⟩
 grind
theorem ei.bad{s}(h:ei ln fold l wr s)(h7:s.t.kind≠7):s.t.bad=false:=by
 obtain⟨σ,h⟩:=h;obtain⟨x,hx,h0,hok,hle,hm⟩:=h.now;cases hb:s.t.bad
 .rfl
 .have:=hok.bk (by rw[h0];omega);rw[h0]at this;exact absurd this (by have:=h.2.2.2.1;omega)
theorem vZ{s}(h:ei ln fold l wr s)(h0:s.t.kind≠0)(hb:s.t.bad=false):1<=s.ts.length:=by
 obtain⟨σ,h⟩:=h;obtain⟨x,hx,h2,hok,hle,hm⟩:=h.now;rcases hm with⟨_,f,hf⟩|⟨hm,_,_⟩
 .cases hts:s.ts with
  |nil=>
   cases f with
   |zero=>cases hf
   |succ f=>
    have hw:x.wr=none:=by
     have:=hok.bad;simp_all
    obtain⟨t,ts,ht,_⟩:=h.step hx hw (by rw[h2];omega)<;>grind
  |cons t ts=>simp
 .rcases hok.last hm with h1|h1<;>grind
theorem AO:∀f,
 (∀d s,ei ln fold l wr s->Room 2 s->0<=d->d+(s.ts.length:Int)<=500->7*s.ts.length+6<=f->Tot ln fold l wr 2 0 s (im f d s))/\
 (∀d id ks s,ei ln fold l wr s->Room 1 s->0<=d->d+(s.ts.length:Int)<=500->7*s.ts.length+5<=f->ks.length+s.ts.length<=1000->Tot ln fold l wr 1 0 s (il f d id ks s))/\
 (∀d s,ei ln fold l wr s->Room 1 s->0<=d->d+(s.ts.length:Int)<=500->7*s.ts.length+4<=f->Tot ln fold l wr 1 0 s (kS f d s))/\
 (∀d id ks s,ei ln fold l wr s->Room 0 s->0<=d->d+(s.ts.length:Int)<=500->7*s.ts.length+3<=f->ks.length+s.ts.length<=1000->Tot ln fold l wr 0 0 s (jP f d id ks s))/\
 (∀d s,ei ln fold l wr s->Room 0 s->0<=d->d+(s.ts.length:Int)<=500->7*s.ts.length+2<=f->s.t.kind≠0->s.t.kind≠7->Tot ln fold l wr 0 1 s (gm f d s))/\
 (∀k s,ei ln fold l wr s->Room 0 s->7*s.ts.length+1<=f->Tot ln fold l wr 0 0 s (fP f k s))/\
 (∀d s,ei ln fold l wr s->Room 0 s->0<=d->d+(s.ts.length:Int)<=500->7*s.ts.length+1<=f->s.t.kind≠0->s.t.kind≠7->Tot ln fold l wr 0 1 s (ik f d s))/\
 ∀d s,ei ln fold l wr s->Room 0 s->0<=d->d+(s.ts.length:Int)<=500->7*s.ts.length<=f->s.t.kind=4->Tot ln fold l wr 0 1 s (iy f d s):=by
 intro f;induction f with
 |zero=>
  refine⟨λd s _ _ _ _ h=>by omega,λd id ks s _ _ _ _ h=>by omega,λd s _ _ _ _ h=>by omega,λd id ks s _ _ _ _ h=>by omega,λd s _ _ _ _ h=>by omega,λk s _ _ h=>by omega,λd s _ _ _ _ h=>by omega,λd s hs _ _ _ h h4=> ?_⟩;have:=vZ hs (by omega) (hs.bad (by omega));omega
 |succ f ih=>
  obtain⟨iAlt,iAltL,iSeq,iSeqL,iPiece,iPieceL,iAtom,iGroup⟩:=ih;refine⟨λd s h hr hd hd2 hf=> ?_,λd id ks s h hr hd hd2 hf hk=> ?_,λd s h hr hd hd2 hf=> ?_,λd id ks s h hr hd hd2 hf hk=> ?_,λd s h hr hd hd2 hf h0 h7=> ?_,λk s h hr hf=> ?_,λd s h hr hd hd2 hf h0 h7=> ?_,λd s h hr hd hd2 hf h4=> ?_⟩
  .obtain⟨r1,r2,r3,r4⟩:=hr;unfold im;rw[nR h r1 (by omega)];exact(iAltL d _ [] _ (h.part (s.n+1) s.g) ⟨by grind,r2,by grind,r4⟩ hd hd2 (by grind) (by grind)).from (b:=1) (d:=0) ⟨x5 _,by dsimp only;omega,SP _,by show s.n<=s.n+1;omega,SP _⟩ (by omega) (by omega)
  .obtain⟨r1,r2,r3,r4⟩:=hr;unfold il;rw[if_pos (by omega)];refine Tot.thn (a':=0) (c':=0) (iSeq d s h ⟨r1,r2,r3,r4⟩ hd hd2 (by omega)) λk s1 h1 hl=> ?_
   split
   .next h6=>
    obtain⟨r,hs,hr⟩:=nQ h1 (by omega) (h1.bad (by omega));rw[hs];cases r with
    |err e s2=>exact .err e s2
    |ok v s2=>
     obtain⟨h2,e1,e2,e3⟩:=hr v s2 rfl;have:=hl.k;have:=hl.n;have:=hl.g;have:=hl.n0;have:=hl.g0;exact(iAltL d id (ks++[k]) s2 h2 ⟨by omega,by omega,by omega,by omega⟩ hd (by omega) (by omega) (by simp;omega)).from (b:=0) (d:=0) ⟨by omega,by omega,by omega,by omega,by omega⟩ (by omega) (by omega)
   .exact .ok h1 hl
  .obtain⟨r1,r2,r3,r4⟩:=hr;unfold kS;rw[nR h r1 (by omega)];exact(iSeqL d _ [] _ (h.part (s.n+1) s.g) ⟨by show 0<=s.n+1;omega,r2,by dsimp only;omega,r4⟩ hd hd2 (by show 7*s.ts.length+3<=f;omega) (by show 0+s.ts.length<=_;omega)).from (b:=1) (d:=0) ⟨x5 _,by dsimp only;omega,SP _,by show s.n<=s.n+1;omega,SP _⟩ (by omega) (by omega)
  .obtain⟨r1,r2,r3,r4⟩:=hr;unfold jP;split
   .split
    .exact .err _ _
    split
    .exact .err _ _
    .exact .ok h (Less.refl s)
   split
   .exact .err _ _
   next h0 h7=>
   rw[if_pos (by omega)];refine Tot.thn (a':=0) (c':=0) (iPiece d s h ⟨r1,r2,r3,r4⟩ hd hd2 (by omega) (by omega) h7) λk s1 h1 hl=> ?_
   have:=hl.k;have:=hl.n;have:=hl.g;have:=hl.n0;have:=hl.g0;exact(iSeqL d id (ks++[k]) s1 h1 ⟨by omega,by omega,by omega,by omega⟩ hd (by omega) (by omega) (by simp;omega)).from hl (by omega) (by omega)
  .obtain⟨r1,r2,r3,r4⟩:=hr;unfold gm;refine Tot.thn (a':=0) (c':=0) (iAtom d s h ⟨r1,r2,r3,r4⟩ hd hd2 (by omega) h0 h7) λk s1 h1 hl=> ?_
   have:=hl.k;have:=hl.n;have:=hl.g;have:=hl.n0;have:=hl.g0;exact(iPieceL k s1 h1 ⟨by omega,by omega,by omega,by omega⟩ (by omega)).from hl (by omega) (by omega)
  .obtain⟨r1,r2,r3,r4⟩:=hr;unfold fP;split
   .next h7=>
    split
    .exact .err _ _
    .next hb=>
     have hb:s.t.bad=false:=by simpa using hb
     have hp:=vZ h (by omega) hb;rw[nR h r1 (by omega)];obtain⟨r,hs,hr⟩:=nQ (h.part (s.n+1) s.g) (by show s.t.kind≠0;omega) hb;simp only[bN];rw[hs];cases r with
     |err e s2=>exact .err e s2
     |ok v s2=>
      obtain⟨h2,e1,e2,e3⟩:=hr v s2 rfl;dsimp only at e1 e2 e3 ⊢;exact(iPieceL _ s2 h2 ⟨by omega,by omega,by omega,by omega⟩ (by omega)).from (b:=0) (d:=1) ⟨by omega,by omega,by omega,by omega,by omega⟩ (by omega) (by omega)
   .exact .ok h (Less.refl s)
  .obtain⟨r1,r2,r3,r4⟩:=hr;have hb:=h.bad h7;have hp:=vZ h h0 hb;unfold ik;split
   .next h4=>exact iGroup d s h ⟨r1,r2,r3,r4⟩ hd hd2 (by omega) h4
   .obtain⟨r,hs,hr⟩:=nQ h h0 hb;rw[hs];cases r with
    |err e s2=>exact .err e s2
    |ok v s2=>
     obtain⟨h2,e1,e2,e3⟩:=hr v s2 rfl;simp only[bN];rw[nR h2 (by omega) (by omega)];have hL:Less 0 1 s ⟨s2.ts,s2.t,s2.n+1,s2.g⟩:=⟨by show s2.ts.length+1<=_;omega,by show s2.n+1+3*(s2.ts.length:Int)<=_;omega,by show s2.g+(s2.ts.length:Int)<=_;omega,by show _<=s2.n+1;omega,by show _<=s2.g;omega⟩;dsimp only;split
     .exact .ok (h2.part _ _) hL
     split
     .exact .ok (h2.part _ _) hL
     .exact .ok (h2.part _ _) hL
  .obtain⟨r1,r2,r3,r4⟩:=hr;have hb:=h.bad (by omega);have hp:=vZ h (by omega) hb;unfold iy;split
   .exact .err _ _
   rw[if_pos (by omega),nR (h.part s.n (s.g+1)) r1 (by dsimp only;omega)];obtain⟨r,hs,hr⟩:=nQ (h.part (s.n+1) (s.g+1)) (by show s.t.kind≠0;omega) hb;simp only[bN];rw[hs];cases r with
   |err e s2=>exact .err e s2
   |ok v s2=>
    obtain⟨h2,e1,e2,e3⟩:=hr v s2 rfl;dsimp only at e1 e2 e3 ⊢;obtain⟨r3',h8,h9⟩:=iAlt (d+1) s2 h2 ⟨by omega,by omega,by omega,by omega⟩ (by omega) (by omega) (by omega);rw[h8];cases r3' with
    |err e s3=>exact .err e s3
    |ok k s3=>
     obtain⟨h3,hl⟩:=h9 k s3 rfl;have:=hl.k;have:=hl.n;have:=hl.g;have:=hl.n0;have:=hl.g0;dsimp only;split
     .next h5=>
      obtain⟨r4',ha,hc⟩:=nQ h3 (by omega) (h3.bad (by omega));rw[ha];cases r4' with
      |err e s4=>exact .err e s4
      |ok v s4=>
       obtain⟨he,e4,e5,e6⟩:=hc v s4 rfl;exact .ok he ⟨by omega,by omega,by omega,by omega,by omega⟩
     .exact .err _ _
end
end
def deep:Nat:=2000
def pT(t0:Tok)(ts:List Tok):Option (eJ Nd):=bN (cy ⟨ts,t0,0,0⟩) λ_ s=>im deep 0 s
def xP(ln fold:Bool)(l:List UInt8):Option (g8 Nd):=qY ln fold l (deep+8) 0 ⟨0,0,0⟩
inductive Alike(wr:Option (Int×Int)):eJ Nd->g8 Nd->Prop
 |ok (a:Nd) (s:g7) (σ:pD) (h:s.g=σ.g):Alike wr (.ok a s) (.ok a σ)
 |err (e:FX) (s:g7) (k at_:Int) (h:Fz wr e k at_):Alike wr (.err e s) (.err k at_)
theorem Gb(ln fold l)(h:l.length<=120)(t0):
 ∃ts wr,ew ln fold l (l.length+1) 0=some (ts,wr)/\ts.length<=121/\∃r r',pT t0 ts=some r/\xP ln fold l=some r'/\Alike wr r r':=by
 obtain⟨⟨ts,wr⟩,hx,hlen,hne⟩:=ES ln fold l (l.length+1) 0 (SU _) (by omega);refine⟨ts,wr,hx,by grind,?_⟩;cases ts with
 |nil=>exact absurd rfl hne
 |cons t ts=>
  simp only[IS]at hlen;by_cases h8:t.kind=8
  .obtain⟨x,hsx,_,_,h3,h4⟩:=ib ln fold l 0 (SU _);have hx':=hx;unfold ew at hx';rw[hsx]at hx';dsimp only at hx';have key:x.t=t/\(x.more=false->x.wr=wr):=by
    split at hx'<;>simp_all
   have hb:=h4.bad;rw[h4.k8 (by rw[key.1];omega)]at hb;obtain⟨w,hw⟩:=SQ.1 hb.symm;have hmf:x.more=false:=by
    cases hzm:x.more
    .rfl
    .have:=h4.wrn hzm;rw[this]at hw;cases hw
   have hF:gX ln fold l wr 0:=⟨x,w,hsx,by rw[key.1];omega,hw,(key.2 hmf).symm.trans hw⟩;obtain⟨k,a,h10,h11⟩:=hF.alt (deep+2) 0 0 0;refine⟨_,_,by unfold pT cy;dsimp only;rw[if_pos h8];rfl,h10,.err .tok _ _ _ h11⟩
  .have hA:AtP ln fold l wr ⟨ts,t,0,0⟩ ⟨0,0,0⟩:=⟨SU _,rfl,rfl,h8,_,hx⟩;obtain⟨r,hr,_⟩:=(AO (ln:=ln) (fold:=fold) (l:=l) (wr:=wr) deep).1 0 ⟨ts,t,0,0⟩ ⟨_,hA⟩ ⟨SP _,SP _,by grind,by grind⟩ (SP _) (by grind) (by dsimp only[deep];omega);have hR:=(zo (ln:=ln) (fold:=fold) (l:=l) (wr:=wr) deep).1 0 _ _ hA;rw[hr]at hR;have e:pT t0 (t::ts)=some r:=by
    unfold pT cy;simp[if_neg h8];exact hr
   cases r with
   |ok a s=>
    obtain⟨σ,h1,h2⟩:=hR;exact⟨_,_,e,h1,.ok a s σ h2.2.2.1⟩
   |err e' s=>
    obtain⟨k,a,h1,h2⟩:=hR;exact⟨_,_,e,h1,.err e' s k a h2⟩
section
open Go.Conc
section
variable{P:Program}{D:dZ P}{ops:Array Oper}{Q:Exit->Act->By->Prop}{md:Region.Mode}
theorem go_step{g t listed i}(hi:(If md ops listed)[t% (If md ops listed).length]?=some i):Region.linearise.go md ops (g+1) t listed []=i::Region.linearise.go md ops g (t/ (If md ops listed).length) (listed.setIfInBounds i true) []:=by
 have e:Region.linearise.go md ops (g+1) t listed []=(match(If md ops listed)[t% (If md ops listed).length]? with
  |some i=>Region.linearise.go md ops g (t/ (If md ops listed).length) (listed.setIfInBounds i true) [i]
  |none=>[].reverse):=rfl
 grind [linearise_go_acc]
theorem AK{t listed}(h:If md ops listed≠[]):∃i,(If md ops listed)[t% (If md ops listed).length]?=some i/\i∈If md ops listed:=by
 have hlt:t% (If md ops listed).length<(If md ops listed).length:=Nat.mod_lt _ (List.length_pos_iff.2 h);simp_all
theorem NN:∀g k t listed,Region.seqB md ops g k listed=true->Region.linearise.go md ops g t listed []=AT k g:=by
 intro g;induction g with
 |zero=>intro k t listed _;rfl
 |succ g ih=>
  intro k t listed h;simp[Region.seqB]at h;rw[go_step (i:=k) (by grind),ih (k+1) _ _ h.2];rfl
theorem zN{w n g L Q1}(hq:∀listed a,L listed a->Q1 .normal a w):∀f t listed a,wpAnyL P md ops w n L f listed a->
 wpOps P ops Q1 ((Region.linearise.go md ops (f+g) t listed []).take f) a w:=by
 intro f;induction f with
 |zero=>exactλt listed a h=>hq _ _ h
 |succ f ih=>
  intro t listed a h;obtain⟨i,hi,hm⟩:=AK (t:=t) h.1;rw[show f+1+g=f+g+1 by omega,go_step hi];exact wpOp_of_stOp (λa' h'=>ih _ _ _ h') (h.2 i hm).2
theorem Ch{w n g L}:∀f t listed a,wpAnyL P md ops w n L f listed a->
 ∃listed' t' a',L listed' a'/\(Region.linearise.go md ops (f+g) t listed []).drop f=Region.linearise.go md ops g t' listed' []:=by
 intro f;induction f with
 |zero=>exactλt listed a h=>⟨listed,t,a,h,by simp⟩
 |succ f ih=>
  intro t listed a h;obtain⟨i,hi,hm⟩:=AK (t:=t) h.1;obtain⟨_,oi,h0,_⟩:=mem_ready.1 hm;obtain⟨v,_,hK⟩:=yieldsAt_of_stOp h0 (h.2 i hm).2;obtain⟨l',t',a',h1,h2⟩:=ih (t/ (If md ops listed).length) _ _ hK;grind [go_step]
theorem li{id a w}{l:List Oper}(n)(hm:P.follows .mixedOrders=true)(hB:Tk .any l.toArray n=true)
 (h:∀K,RowKit.Hid (∀a',aV D l.toArray Q (AT n (l.length-n)) a' w->K a')->∀w1,w1.heap=w.heap->wpStill P l.toArray w1 K (l.take n) a):cL D (.region id l.toArray true) Q a w:=by
 simp only[Tk,Bool.and_eq_true,decide_eq_true_eq]at hB;obtain⟨⟨⟨⟨h4,hn⟩,hs⟩,hc⟩,hlex⟩:=hB;have h3:(l.take n).length=n:=by grind
 have inv0:HeadInv .any l.toArray n (T5 l.toArray.size false):=
  ⟨by simp,λj oj _ hl=>(by rw[getD_replicate_false]at hl;cases hl),λt _ ht=>getD_in (by simpa using ht) (getD_replicate_false _ _)⟩
 have h0:=h (λa'=>aV D l.toArray Q (AT n (l.length-n)) a' w) (up λ_ h=>h);have H:=λw1(hw1:World.heap w1=w.heap)=>wpAnyL_lex (md:=.any) (g:=l.toArray.size-n) h4 hs hc hn (l.take n) 0 _ a (λj hj=>by
  have hj':j<n:=by omega
  simp[hj']) (by simpa using h3) inv0 (by rw[h3];omega) (h0 w1 hw1)
 refine oM λt=> ?_
 simp only[Region.schedule,hm,Bool.true_or,if_true];have e:(l.take n).length+(l.toArray.size-n)=l.toArray.size:=by omega
 generalize hsch:Region.linearise.go .any l.toArray l.toArray.size t (T5 l.toArray.size false) []=sch;have hsch':Region.linearise .any l.toArray t=sch:=hsch;rw[hsch'];have hop:∀τ d,wpOps P l.toArray (λe a' w'=>e= .normal/\aV D l.toArray Q (AT n (l.length-n)) a' w/\∃τ d,w'=ah w τ d) (sch.take n) a (ah w τ d):=λτ d=>by
  have:=zN (g:=l.toArray.size-n) (Q1:=λe a' w'=>e= .normal/\aV D l.toArray Q (AT n (l.length-n)) a' w/\∃τ d,w'=ah w τ d) (λlisted a hL=>⟨rfl,hL.2,τ,d,rfl⟩) _ t _ _ (H (ah w τ d) rfl);rw[e,h3,hsch]at this;omega
 have hd:sch.drop n=AT n (l.length-n):=by
  obtain⟨l',t',a',h1,h2⟩:=Ch (g:=l.toArray.size-n) _ t _ _ (H w rfl);rw[e,h3,hsch,NN _ _ _ _ h1.1]at h2;omega
 have hsp:sch=sch.take n++AT n (l.length-n):=by rw[<- hd];simp
 rw[hsp];exact r7 hop (λa' w' hq=>by
  obtain⟨_,h1,τ,d,rfl⟩:=hq;exact Mc h1 τ d) (λch a' w' hq=>by cases hq.1) λa' w' hq=>by cases hq.1
end
theorem bQ{P}{D:dZ P}{x y Q a w}(M)(h1:cL D x (Exit.then M Q) a w)(h2:∀a w,M a w->cL D y Q a w):cL D (.seq x y) Q a w:=
 xo (zK h1 λe a w h=>by cases e<;>first |exact h2 _ _ h|exact h)
theorem dp(n ts)(h:ts.size=n):ts=((List.range n).map λi=>ts.getD i undef).toArray:=by
 apply Array.ext
 .simp[h]
 simp_all
end
section
open Go.RowKit
attribute [local instance] dJ
variable{T:bz PA}
def qJ:Tok:=⟨0,0,0,0,0,0,0,0,false⟩
structure oJ where
 nb:Nat
 gb:Nat
 eb:Nat
 r:Nat
 e:Nat
 cap:Nat
 tm:Bool
 B:Nat
structure Rs(E:oJ)(w:By)(n g er:Sx):Prop where
 n:a7 w E.nb 86 #[n]
 g:a7 w E.gb 3 #[g]
 e:a7 w E.eb 105 #[er]
theorem Rs.af{E w w' n g er}(h:Rs E w n g er)(he:w'.heap=w.heap):Rs E w' n g er:=⟨h.n.af he,h.g.af he,h.e.af he⟩
theorem Rs.keep{E w w' n g er}(h:Rs E w n g er)(hk:∀b,b=E.nb\/b=E.gb\/b=E.eb->w'.heap[b]?=w.heap[b]?):Rs E w' n g er:=⟨(hk _ (.inl rfl)).trans h.n,(hk _ (.inr (.inl rfl))).trans h.g,(hk _ (.inr (.inr rfl))).trans h.e⟩
def xh(E:oJ)(v7:Sx)(ds:List Deferred)(a:Act):Prop:=a.defers=ds/\a.tmps.size=29/\a.tmps.getD 4 undef= .pointer (some ⟨E.nb,0,none⟩)/\a.tmps.getD 5 undef= .pointer (some ⟨E.gb,0,none⟩)/\a.tmps.getD 6 undef= .pointer (some ⟨E.eb,0,none⟩)/\a.tmps.getD 7 undef=v7
theorem xh.out{E v7 ds a}(h:xh E v7 ds a):∃u:Nat->Sx,a= {tmps:=#[u 0,u 1,u 2,u 3,.pointer (some ⟨E.nb,0,none⟩),.pointer (some ⟨E.gb,0,none⟩),.pointer (some ⟨E.eb,0,none⟩),v7,u 8,u 9,u 10,u 11,u 12,u 13,u 14,u 15,u 16,u 17,u 18,u 19,u 20,u 21,u 22,u 23,u 24,u 25,u 26,u 27,u 28],defers:=ds}:=by
 obtain⟨hd,hn,h4,h5,h6,h7⟩:=h;obtain⟨ts,ds'⟩:=a;subst hd;refine⟨λi=>ts.getD i undef,?_⟩;rw[<- h4,<- h5,<- h6,<- h7];have:ts=((List.range 29).map λi=>ts.getD i undef).toArray:=by
  apply Array.ext
  .simp[hn]
  simp_all
 exact congrArg (λt=>({tmps:=t,defers:=ds'}:Act)) this
def Im(E:oJ)(pb:Nat):Deferred:= {target:=.fn (.func 92) #[.pointer (some ⟨E.nb,0,none⟩),.pointer (some ⟨E.gb,0,none⟩),.pointer (some ⟨E.eb,0,none⟩),.pointer (some ⟨pb,0,none⟩)],args:=#[]}
structure PI(E:oJ)(pb p:Nat)(w0:By)(s:g7)(w:By):Prop where
 ps:jf p E.r E.e E.cap E.tm w s
 bx:w.cell? ⟨pb,0,none⟩=some (.pointer (some ⟨p,0,none⟩))
 kp:Kp E.B [E.nb,E.gb,E.eb,E.r] w0 w
 lt:E.B<=p/\E.B<=pb/\pb≠p
theorem PI.af{E pb p w0 w w' s}(h:PI E pb p w0 s w)(he:w'.heap=w.heap):PI E pb p w0 s w':=⟨h.ps.af he,by simp[SZ,he];exact h.bx,h.kp.af he,h.lt⟩
theorem BQ{w w':By}{b}(h:w'.heap[b]?=w.heap[b]?)(i):w'.cell? ⟨b,i,none⟩=w.cell? ⟨b,i,none⟩:=by simp[SZ,h]
theorem KJ{w:By}{b i v}(h:w.cell? ⟨b,i,none⟩=some v):b<w.heap.size:=by
 rcases Nat.lt_or_ge b w.heap.size with hlt|hge
 .exact hlt
 simp_all[SZ]
theorem PI.call{E pb p w0 w w' s s'}(h:PI E pb p w0 s w)(hr:E.r<E.B)(h0:jf p E.r E.e E.cap E.tm w' s')(hk:Kp w.heap.size [p,E.r] w w'):PI E pb p w0 s' w':=by
 obtain⟨h1,h2,h3⟩:=h.lt;have hlt:=KJ h.bx;refine⟨h0,(BQ (hk.2 pb hlt (by grind)) 0).trans h.bx,h.kp.trans (hk.mono (by omega) λx hx hlt=> ?_),h.lt⟩;grind
theorem PI.set{E pb p b i v w0 u s}(hI:PI E pb p w0 s u)(hb:b=E.nb\/b=E.gb\/b=E.eb)(hBl:E.nb<E.B/\E.gb<E.B/\E.eb<E.B)(hre:E.r≠E.nb/\E.r≠E.gb/\E.r≠E.eb):PI E pb p w0 s (u.setCell ⟨b,i,none⟩ v):=by
 obtain⟨h1,h2,h3⟩:=hI.lt;have hfar:∀x,x≠b->(u.setCell ⟨b,i,none⟩ v).heap[x]?=u.heap[x]?:=λx hx=>Below.heap_setCell u _ _ x hx
 refine⟨hI.ps.keep (hfar p (by omega)) (hfar E.r (by rcases hb with rfl|rfl|rfl<;>omega)),(BQ (hfar pb (by omega)) 0).trans hI.bx,hI.kp.setCell λ_=>by rcases hb with rfl|rfl|rfl<;>simp v,hI.lt⟩
theorem Rs.call{E w w' n g er p}(h:Rs E w n g er)(hk:Kp w.heap.size [p,E.r] w w')(hB:E.nb<E.B/\E.gb<E.B/\E.eb<E.B)(hp:E.B<=p)(hre:E.r≠E.nb/\E.r≠E.gb/\E.r≠E.eb):Rs E w' n g er:=by
 refine⟨(hk.2 _ h.n.lt ?_).trans h.n,(hk.2 _ h.g.lt ?_).trans h.g,(hk.2 _ h.e.lt ?_).trans h.e⟩<;>(simp;omega)
def Came(E:oJ)(w:By)(x:eJ Nd)(n g er:Sx):Prop:=match x with
 | .ok nd s=>er= .nilIface/\g= .int .i64 s.g/\Repr w (λb=>E.B<=b) n nd
 | .err y s=>n= .nilIface/\g= .int .i64 0/\∃q,er= .iface 133 (.pointer q)/\ErrAt E.e E.B w s.t.bad y q
def PQ(E:oJ)(pb p:Nat)(w0:By)(x:eJ Nd)(e:Exit)(a:Act)(w:By):Prop:=match x with
 | .ok nd s=>e= .ret/\xh E (.pointer (some ⟨pb,0,none⟩)) [Im E pb] a/\PI E pb p w0 s w/\∃n,Rs E w n (.int .i64 s.g) .nilIface/\Repr w (λb=>E.B<=b) n nd
 | .err y s=>xh E (.pointer (some ⟨pb,0,none⟩)) [Im E pb] a/\PI E pb p w0 s w/\∃q,e= .panic (thrown q)/\ErrAt E.e E.B w s.t.bad y q/\∃n g er,Rs E w n g er
theorem F2{p0 p1 p2 p4 p5 p6 p7 p8}(hc:(Tryz.f53).body=some (.seq p0 (.seq p1 (.seq p2 (.seq p4 (.seq p5 (.seq p6 (.seq p7 p8))))))))
 {E pb p w0 w ts x n0 g0 e0 a} (hx:pT qJ ts=some x) (h4:xh E (.pointer (some ⟨pb,0,none⟩)) [] a) (hI:PI E pb p w0 ⟨ts,qJ,0,0⟩ w) (hR:Rs E w n0 g0 e0)
 (hne:E.nb≠E.gb/\E.nb≠E.eb/\E.gb≠E.eb) (h5:E.nb<E.B/\E.gb<E.B/\E.eb<E.B) (h9:E.r<E.B) (h6:E.r≠E.nb/\E.r≠E.gb/\E.r≠E.eb):
 cL (aH T) (.seq p4 (.seq p5 (.seq p6 (.seq p7 p8)))) (PQ E pb p w0 x) a w:=by
 cases hc;obtain⟨u,rfl⟩:=h4.out;clear h4;replace hI:=up hI;replace hR:=up hR;refine bQ (λa' w'=>xh E (.pointer (some ⟨pb,0,none⟩)) [Im E pb] a'/\PI E pb p w0 ⟨ts,qJ,0,0⟩ w'/\Rs E w' n0 g0 e0) ?_ ?_
 .refine ag λw1 he=> ?_
  replace hI:=up (hI.out.af he);replace hR:=up (hR.out.af he);clear he;go_wp2;exact⟨⟨rfl,rfl,rfl,rfl,rfl,rfl⟩,hI.out,hR.out⟩
 intro a w1 ⟨h4,hI1,hR1⟩;obtain⟨u,rfl⟩:=h4.out;clear h4 hI hR;replace hI1:=up hI1;replace hR1:=up hR1;obtain⟨z,hz,h1⟩:∃z,cy ⟨ts,qJ,0,0⟩=some z/\bN (some z) (λ_ s=>im deep 0 s)=some x:=by
  unfold pT at hx;cases hp:cy ⟨ts,qJ,0,0⟩with
  |none=>rw[hp]at hx;cases hx
  |some z=>rw[hp]at hx;exact⟨z,rfl,hx⟩
 refine ac λK hK=> ?_
 refine ao ?_;show aV _ _ _ (AT 0 (1+1)) _ _;refine aW 0 1 1 (λN hN w2 he=> ?_) (by decide);simp only[zq1];replace hI1:=up (hI1.out.af he);replace hR1:=up (hR1.out.af he);have c7:w2.cell? ⟨pb,0,none⟩=some (.pointer (some ⟨p,0,none⟩)):=hI1.out.bx;replace h1:=up h1;clear he;go_wp2;refine hN.out _ _ ?_;clear hN N c7;refine bF (f:=93) (i:=1) (rest:=[]) rfl rfl λu=>by simp[go_sem] trivial (mf hz hI1.out.ps) (λu2 w3 hr=> ?_) λch w3 hr=> ?_
 rotate_left
 .obtain⟨hK3,hr⟩:=hr;cases z with
  |ok _ s2=>obtain⟨_,h⟩:=hr;cases h
  |err e2 s2=>
   obtain⟨rfl,hg,hch⟩:=hr;cases hch;cases Option.some.inj h1.out;exact⟨⟨rfl,rfl,rfl,rfl,rfl,rfl⟩,hI1.out.call h9 hg hK3,_,rfl,rfl,_,_,_,hR1.out.call hK3 h5 hI1.out.lt.1 h6⟩
 obtain⟨hK3,hr⟩:=hr;cases z with
 |err e2 s2=>obtain⟨_,_,h⟩:=hr;cases h
 |ok _ s1=>
 have h0:=up (hI1.out.call h9 hr.1 hK3);have hR3:=up (hR1.out.call hK3 h5 hI1.out.lt.1 h6);have h1:im deep 0 s1=some x:=h1.out;clear hI1 hR1 hK3 hr;refine az (hK.out _ _ ?_);simp only[AS,zq0];clear hK K;refine ac λK hK=> ?_
 refine ao ?_;show aV _ _ _ (AT 0 (1+2)) _ _;refine aW 0 1 2 (λN hN w4 he=> ?_) (by decide);simp only[zq1];replace h0:=up (h0.out.af he);replace hR3:=up (hR3.out.af he);have c7:w4.cell? ⟨pb,0,none⟩=some (.pointer (some ⟨p,0,none⟩)):=h0.out.bx;replace h1:=up h1;clear he;go_wp2;refine hN.out _ _ ?_;clear hN N c7;have hf:E.B<=w4.heap.size:=by have:=h0.out.ps.lt.1;have:=h0.out.lt.1;omega
 refine bF (f:=94) (i:=1) (rest:=AT 2 (1+0)) rfl rfl λu=>by simp[go_sem] trivial (JF deep 0 s1 w4 x h1.out h0.out.ps) (λv w5 hr=> ?_) λch w5 hr=> ?_
 rotate_left
 .cases x with
  |ok nd s2=>obtain⟨v,h,_⟩:=hr;cases h
  |err y s2=>
   obtain⟨q,h,ha,h3,hE⟩:=hr;cases h;exact⟨⟨rfl,rfl,rfl,rfl,rfl,rfl⟩,h0.out.call h9 ha h3,_,rfl,hE.mono hf,_,_,_,hR3.out.call h3 h5 h0.out.lt.1 h6⟩
 cases x with
 |err y s2=>obtain⟨q,h,_⟩:=hr;cases h
 |ok nd s2=>
 obtain⟨v',h,ha,h3,hRp⟩:=hr;cases h;have hd:=up (h0.out.call h9 ha h3);have h2:=up (hR3.out.call h3 h5 h0.out.lt.1 h6);replace hRp:=up (hRp.mono (S':=λb=>E.B<=b) λb hb _=>SI hf hb);clear h0 hR3 ha h3 h1;simp only[AS,zq0];obtain⟨vt,vq,rfl⟩:=hRp.out.form;refine aW 2 1 0 (λN hN w6 he=> ?_) (by decide);simp only[zq1];replace hd:=up (hd.out.af he);replace h2:=up (h2.out.af he);replace hRp:=up (hRp.out.keep (w':=w6) λb _ _=>by rw[he]);have cn:w6.cell? ⟨E.nb,0,none⟩=some _:=h2.out.n.cell 0;have fn:∀i,w6.frozen? ⟨E.nb,i,none⟩=false:=h2.out.n.frozen;clear he;go_wp2;refine hN.out _ _ (az (hK.out _ _ ?_));clear hN N hK K cn fn;have hset:=λ(b i:Nat)(v:Sx)(u:By)(hI:PI E pb p w0 s2 u)(hb:b=E.nb\/b=E.gb\/b=E.eb)=>PI.set (b:=b) (i:=i) (v:=v) hI hb h5 h6
 have hI7:=up (hset E.nb 0 (.iface vt (.pointer (some ⟨vq,0,none⟩))) w6 hd.out (.inl rfl));have hR7:Rs E (w6.setCell ⟨E.nb,0,none⟩ (.iface vt (.pointer (some ⟨vq,0,none⟩)))) (.iface vt (.pointer (some ⟨vq,0,none⟩))) g0 e0:=⟨h2.out.n.bI 0 _,h2.out.g.far (SD hne.1) _,h2.out.e.far (SD hne.2.1) _⟩;have hRp7:Repr (w6.setCell ⟨E.nb,0,none⟩ (.iface vt (.pointer (some ⟨vq,0,none⟩)))) (λb=>E.B<=b) (.iface vt (.pointer (some ⟨vq,0,none⟩))) nd:=hRp.out.keep λb hb _=>Below.heap_setCell _ _ _ b (by dsimp only;omega)
 replace hR7:=up hR7;replace hRp7:=up hRp7;clear hd h2 hRp;generalize w6.setCell ⟨E.nb,0,none⟩ (.iface vt (.pointer (some ⟨vq,0,none⟩)))=w7 at *;clear w6;refine ac λM hM=> ?_
 refine ag λw8 he=> ?_
 have c7:w8.cell? ⟨pb,0,none⟩=some (.pointer (some ⟨p,0,none⟩)):=(hI7.out.af he).bx;have cp:w8.cell? ⟨p,11,none⟩=some (.int .i64 s2.g):=(hI7.out.af he).ps.blk.cell 11;replace hI7:=up (hI7.out.af he);replace hR7:=up (hR7.out.af he);replace hRp7:=up (hRp7.out.keep (w':=w8) λb _ _=>by rw[he]);have cn:w8.cell? ⟨E.nb,0,none⟩=some _:=hR7.out.n.cell 0;have fn:∀i,w8.frozen? ⟨E.nb,i,none⟩=false:=hR7.out.n.frozen;have cg:w8.cell? ⟨E.gb,0,none⟩=some _:=hR7.out.g.cell 0;have fg:∀i,w8.frozen? ⟨E.gb,i,none⟩=false:=hR7.out.g.frozen;have ce:w8.cell? ⟨E.eb,0,none⟩=some _:=hR7.out.e.cell 0;have fe:∀i,w8.frozen? ⟨E.eb,i,none⟩=false:=hR7.out.e.frozen;have n1:=hne.1;have n2:=hne.2.1;have n3:=hne.2.2;have n4:=SD n1;have n5:=SD n2;have n6:=SD n3;have hpn:p≠E.nb:=by have:=hI7.out.lt.1;omega
 have hqn:pb≠E.nb:=by have:=hI7.out.lt.2.1;omega
 clear he;go_wp2;go_region
 go_wp2;refine hM.out _ _ ?_;clear hM M cn fn cg fg ce fe c7 cp hpn hqn;have h7:=hset E.eb 0 .nilIface _ (hset E.gb 0 (.int .i64 s2.g) _ (hset E.nb 0 (.iface vt (.pointer (some ⟨vq,0,none⟩))) w8 hI7.out (.inl rfl)) (.inr (.inl rfl))) (.inr (.inr rfl));have h8:Rs E (((w8.setCell ⟨E.nb,0,none⟩ (.iface vt (.pointer (some ⟨vq,0,none⟩)))).setCell ⟨E.gb,0,none⟩ (.int .i64 s2.g)).setCell ⟨E.eb,0,none⟩ .nilIface) (.iface vt (.pointer (some ⟨vq,0,none⟩))) (.int .i64 s2.g) .nilIface:=
  ⟨((hR7.out.n.bI 0 _).far n1 _).far n2 _,((hR7.out.g.far n4 _).bI 0 _).far n3 _,((hR7.out.e.far n5 _).far n6 _).bI 0 _⟩
 have hRp9:Repr (((w8.setCell ⟨E.nb,0,none⟩ (.iface vt (.pointer (some ⟨vq,0,none⟩)))).setCell ⟨E.gb,0,none⟩ (.int .i64 s2.g)).setCell ⟨E.eb,0,none⟩ .nilIface) (λb=>E.B<=b) (.iface vt (.pointer (some ⟨vq,0,none⟩))) nd:=
  hRp7.out.keep λb hb _=>(Below.heap_setCell _ _ _ b (by dsimp only;omega)).trans ((Below.heap_setCell _ _ _ b (by dsimp only;omega)).trans (Below.heap_setCell _ _ _ b (by dsimp only;omega)))
 replace h7:=up h7;replace h8:=up h8;replace hRp9:=up hRp9;clear hI7 hR7 hRp7 hset n1 n2 n3 n4 n5 n6;generalize Su (Su (Su _ _ _) _ _) _ _=w9 at *;refine ag λwa he=> ?_
 replace h7:=up (h7.out.af he);replace h8:=up (h8.out.af he);replace hRp9:=up (hRp9.out.keep (w':=wa) λb _ _=>by rw[he];rfl);clear he;go_wp2;exact⟨rfl,⟨rfl,rfl,rfl,rfl,rfl,rfl⟩,h7.out,_,h8.out,hRp9.out⟩
theorem Jy{P}{b:SY}{a ops i rest o k cs cs' v w}(hb:b.kind= .deferred)(hro:b.roundOf=none)(ho:ops[i]?=some o)(hw:Region.wanted o (yielded ops a.tmps)=true)
 (hr:(execOp a.eval o).run P w= .ok .recover w) (hv:recoverD cs=some (v,cs')\/recoverD cs=none/\v= .nilIface/\cs'=cs):
 step P (lone (b.at a (.inRegion ops (i::rest)::k)) cs w)= .next (lone (b.at (a.put o.dst v) (.inRegion ops rest::k)) cs' w):=by
 have hfin:∀v,(b.at a (.inRegion ops (i::rest)::k)).finish v=b.at (a.put o.dst v) (.inRegion ops rest::k):=λv=>by simp[Tl,ho]
 have hk:(b.at a (.inRegion ops (i::rest)::k)).kind= .deferred:=hb;have htr:=tryRecover_deferred hk cs;refine step_lone_go ?_;rw[stepG_op (P:=P) (b:=b) (k:=k) (cs:=cs) (w:=w) (rest:=rest) ho hw,<- hfin];simp[Frame.at]at htr ⊢;rcases hv with hv|⟨hv,rfl,rfl⟩
 .simp[stepG.apply,hr,htr,hv]
 simp_all[stepG.apply]
section
variable{P:Program}{D:dZ P}{K:Goroutine->By->Prop}{c:Code}{a:Act}{w:By}{b:SY}{k:List Item}{cs:List SY}{ops:Array Oper}{l:List Nat}
theorem s9{M:Act->By->Prop}(h:cL D c (λe a w=>e= .normal/\M a w) a w)(hok:D.okF b.fn)(hk:b.kind≠.early)(hn:∀a w,M a w->D.H K (bO (b.at a k) cs) w):D.H K (bO (b.at a (.code c::k)) cs) w:=
 h b k cs K hok hk λe a' w' ⟨he,hm⟩=>by subst he;exact hn _ _ hm
theorem r6{M:Act->By->Prop}(h:aV D ops (λe a w=>e= .normal/\M a w) l a w)(hok:D.okF b.fn)(hk:b.kind≠.early)(hn:∀a w,M a w->D.H K (bO (b.at a k) cs) w):D.H K (bO (b.at a (.inRegion ops l::k)) cs) w:=
 h b k cs K hok hk λe a' w' ⟨he,hm⟩=>by subst he;exact hn _ _ hm
end
def QF(v0 v1 v2 v3:Sx)(a:Act):Prop:=a.defers=[]/\a.tmps.size=17/\a.tmps.getD 0 undef=v0/\a.tmps.getD 1 undef=v1/\a.tmps.getD 2 undef=v2/\a.tmps.getD 3 undef=v3
theorem QF.out{v0 v1 v2 v3 a}(h:QF v0 v1 v2 v3 a):∃u:Nat->Sx,a= {tmps:=(v0::v1::v2::v3::u 4::u 5::u 6::u 7::u 8::u 9::u 10::u 11::u 12::u 13::u 14::u 15::u 16::[]).toArray,defers:=[]}:=by
 obtain⟨hd,hn,rfl,rfl,rfl,rfl⟩:=h;obtain⟨ts,ds⟩:=a;subst hd;exact⟨λi=>ts.getD i undef,congrArg (λt=>({tmps:=t,defers:=[]}:Act)) (dp 17 ts hn)⟩
def QG(v0 v1 v2 v3 v14:Sx)(a:Act):Prop:=a.defers=[]/\a.tmps.size=17/\a.tmps.getD 0 undef=v0/\a.tmps.getD 1 undef=v1/\a.tmps.getD 2 undef=v2/\a.tmps.getD 3 undef=v3/\a.tmps.getD 14 undef=v14
theorem QG.out{v0 v1 v2 v3 v14 a}(h:QG v0 v1 v2 v3 v14 a):∃u:Nat->Sx,a= {tmps:=(v0::v1::v2::v3::u 4::u 5::u 6::u 7::u 8::u 9::u 10::u 11::u 12::u 13::v14::u 15::u 16::[]).toArray,defers:=[]}:=by
 obtain⟨hd,hn,rfl,rfl,rfl,rfl,rfl⟩:=h;obtain⟨ts,ds⟩:=a;subst hd;exact⟨λi=>ts.getD i undef,congrArg (λt=>({tmps:=t,defers:=[]}:Act)) (dp 17 ts hn)⟩
abbrev vp(b:Nat):Sx:=.pointer (some ⟨b,0,none⟩)
structure KU(E:oJ)(PF:SY):Prop where
 fn:PF.fn=53
 kind:PF.kind= .normal
 round:PF.roundOf=none
 defers:PF.defers=[]
 mode:PF.mode= .returning\/∃v,PF.mode= .panicking [{v:=v,recovered:=true}]
 size:PF.tmps.size=29
 s4:PF.tmps.getD 4 undef=vp E.nb
 s5:PF.tmps.getD 5 undef=vp E.gb
 s6:PF.tmps.getD 6 undef=vp E.eb
structure Fin(E:oJ)(w0:By)(x:eJ Nd)(w:By):Prop where
 kp:Kp E.B [E.nb,E.gb,E.eb,E.r] w0 w
 came:∃n g er,Rs E w n g er/\Came E w x n g er
theorem ErrAt.keep{e B w w' bad x q}(h:ErrAt e B w bad x q)(hk:∀b,B<=b->b<w.heap.size->w'.heap[b]?=w.heap[b]?):ErrAt e B w' bad x q:=by
 cases x with
 |tok=>exact h
 |own k a=>obtain⟨q,h1,h2,h3⟩:=h;exact⟨q,h1,h2,(hk q h2 h3.lt).trans h3⟩
theorem Came.keep{E w w' x n g er}(h:Came E w x n g er)(hk:∀b,E.B<=b->b<w.heap.size->w'.heap[b]?=w.heap[b]?):Came E w' x n g er:=by
 cases x with
 |ok nd s=>exact⟨h.1,h.2.1,h.2.2.keep λb hb hlt=>hk b hb hlt⟩
 |err y s=>obtain⟨h1,h2,q,h3,h4⟩:=h;exact⟨h1,h2,q,h3,h4.keep hk⟩
theorem Fin.af{E w0 w w' x}(h:Fin E w0 x w)(he:w'.heap=w.heap):Fin E w0 x w':=by
 obtain⟨n,g,er,h1,h2⟩:=h.came;exact⟨h.kp.af he,n,g,er,h1.af he,h2.keep λb _ _=>by rw[he]⟩
theorem Fin.ay{E w0 w x}(h:Fin E w0 x w){o}(ho:w.heap[E.r]?=some o)(hr:E.r<E.B)(o')(hne:E.r≠E.nb/\E.r≠E.gb/\E.r≠E.eb):Fin E w0 x (ay w E.r o'):=by
 obtain⟨n,g,er,h1,h2⟩:=h.came;have hk:∀b,b≠E.r->(Go.Proofs.YtkgohmcmmcpigaaGreatDoor.ay w E.r o').heap[b]?=w.heap[b]?:=λb hb=>by
  show(w.heap.setIfInBounds E.r o')[b]?=_;rw[SX (SD hb)]
 exact⟨h.kp.ay λ_=>by simp o',n,g,er,h1.keep λb hb=>hk b (hb.elim (λe=>e▸SD hne.1) λhb=>hb.elim (λe=>e▸SD hne.2.1) λe=>e▸SD hne.2.2),h2.keep λb hb _=>hk b (by omega)⟩
def rW:SY:= {(default:SY)with fn:=92,kind:=.deferred}
def pG(E:oJ)(ops:Array Oper)(k:List Item)(D0:SY)(w0:By)(x:eJ Nd)(g:Goroutine)(w:By):Prop:=
 ∃a PF pb,g=bO (rW.at a (.inRegion ops [0,1]::k)) [PF,D0]/\QG (vp E.nb) (vp E.gb) (vp E.eb) (vp pb) (.chan (some E.r)) a/\KU E PF/\(∃s rc,w.heap[E.r]?=some (.chan E.cap #[] false s rc E.tm))/\Fin E w0 x w
theorem drain{q0 q1 q2 q3 cQ i iQ ops}(hc:(Tryz.f92).body=some (.seq (.seq q0 (.seq q1 q2)) (.seq q3 (.block i (.loop (.seq (.region iQ ops false) cQ))))))
 {E D0 PF pb w0 x} (hPF:KU E PF) (hr:E.r<E.B) (hne:E.r≠E.nb/\E.r≠E.gb/\E.r≠E.eb):∀(ts:List Tok) a w s rc,QG (vp E.nb) (vp E.gb) (vp E.eb) (vp pb) (.chan (some E.r)) a->w.heap[E.r]?=some (.chan E.cap (ts.map (Tok.val E.e)).toArray false s rc E.tm)->Fin E w0 x w->
 (aH T).H (pG E ops [.code cQ,.inLoop (.seq (.region iQ ops false) cQ),.inBlock i] D0 w0 x) (bO (rW.at a (.code (.seq (.region iQ ops false) cQ)::[.inLoop (.seq (.region iQ ops false) cQ),.inBlock i])) [PF,D0]) w:=by
 cases hc;intro ts;induction ts with
 |nil=>
  intro a w s rc ha hch hF;exact(aH T).one (λu=>step_seq) trivial ((aH T).one (λu=>step_region) trivial ((aH T).stop _ _ _ ⟨a,PF,pb,rfl,ha,hPF,⟨s,rc,hch⟩,hF⟩))
 |cons t ts ih=>
  intro a w s rc ha hch hF;refine(aH T).one (λu=>step_seq) trivial ((aH T).one (λu=>step_region) trivial ?_);obtain⟨u,rfl⟩:=ha.out;have hF2:=hF.ay hch hr (.chan E.cap (ts.map (Tok.val E.e)).toArray false s (rc+1) E.tm) hne;refine r6 (M:=λa w=>QG (vp E.nb) (vp E.gb) (vp E.eb) (vp pb) (.chan (some E.r)) a/\a.tmps.getD 16 undef= .bool true/\w.heap[E.r]?=some (.chan E.cap (ts.map (Tok.val E.e)).toArray false s (rc+1) E.tm)/\Fin E w0 x w) ?_ trivial (by simp[rW]) ?_
  .refine yy (i:=0) (rest:=AT 1 (1+0)) (v:=Tok.val E.e t) rfl rfl (PA.recv E.r rfl rfl) (by rw[hch];rfl) ?_;refine aW 1 1 0 (λN hN w2 he=> ?_) (by decide);have hch2:=(congrArg (·[E.r]?) he).trans (rq (o:=.chan E.cap (ts.map (Tok.val E.e)).toArray false s (rc+1) E.tm) hch);replace hF2:=up (hF2.af he);replace hch2:=up hch2;go_wp2;exact hN.out _ _ (az ⟨rfl,⟨⟨rfl,rfl,rfl,rfl,rfl,rfl,rfl⟩,rfl,hch2.out,hF2.out⟩⟩)
  .intro a w2 ⟨ha,h0,hch2,hF3⟩;refine(aH T).one (λu=>step_seq) trivial ((aH T).one (λu=>step_cond (t:=true) h0) trivial ((aH T).one (λu=>step_skip) trivial ?_));refine(aH T).one (λu=>step_block) trivial ((aH T).one (λu=>step_skip) trivial ((aH T).one (λu=>step_inBlock) trivial ((aH T).one (λu=>step_inLoop) trivial ?_)));grind
def QR(v0 v1 v2 v3 v4:Sx)(a:Act):Prop:=a.defers=[]/\a.tmps.size=17/\a.tmps.getD 0 undef=v0/\a.tmps.getD 1 undef=v1/\a.tmps.getD 2 undef=v2/\a.tmps.getD 3 undef=v3/\a.tmps.getD 4 undef=v4
theorem QR.out{v0 v1 v2 v3 v4 a}(h:QR v0 v1 v2 v3 v4 a):∃u:Nat->Sx,a= {tmps:=(v0::v1::v2::v3::v4::u 5::u 6::u 7::u 8::u 9::u 10::u 11::u 12::u 13::u 14::u 15::u 16::[]).toArray,defers:=[]}:=by
 obtain⟨hd,hn,rfl,rfl,rfl,rfl,rfl⟩:=h;obtain⟨ts,ds⟩:=a;subst hd;exact⟨λi=>ts.getD i undef,congrArg (λt=>({tmps:=t,defers:=[]}:Act)) (dp 17 ts hn)⟩
@[go_sem] theorem P6(q w):(Tj (.iface 133 (.pointer q)) 20 133 false).run PA w= .ok (.pointer q) w:=by
 simp[Tj,go_sem]
def gw:SY:= {(default:SY)with fn:=53,kind:=.normal}
theorem AP{E:oJ}{pb c}(hc:(Tryz.f92).body=some c):Ti PA 92 #[vp E.nb,vp E.gb,vp E.eb,vp pb] .deferred=rW.at {tmps:=#[vp E.nb,vp E.gb,vp E.eb,vp pb]++T5 (17-4) undef,defers:=[]} [.code c]:=by
 have hf:=PA.func Tryz.func92 (by decide);simp_all[Ti,Frame.at,rW]
theorem H0{q0 q1 q2 q3 cQ i iQ ops}(hc:(Tryz.f92).body=some (.seq (.seq q0 (.seq q1 q2)) (.seq q3 (.block i (.loop (.seq (.region iQ ops false) cQ))))))
 {E D0 pb p w0 w x e a fr} (hr:E.r<E.B) (h9:E.r≠E.nb/\E.r≠E.gb/\E.r≠E.eb) (hne:E.nb≠E.gb/\E.nb≠E.eb/\E.gb≠E.eb) (ha:E.nb<E.B/\E.gb<E.B/\E.eb<E.B)
 (h:PQ E pb p w0 x e a w) (todo) (h7:e= .ret/\fr= {gw.at a todo with mode:=.returning}\/∃ch,e= .panic ch/\fr= {gw.at a todo with mode:=.panicking ch}):
 (aH T).H (pG E ops [.code cQ,.inLoop (.seq (.region iQ ops false) cQ),.inBlock i] D0 w0 x) (bO fr [D0]) w:=by
 have hent:= @AP E pb _ hc;have hdr:=λPF hPF=> @drain T _ _ _ _ _ _ _ _ hc E D0 PF pb w0 x hPF hr h9
 replace hdr:=up hdr;cases hc;obtain⟨s,hPI,hPf,h8⟩:∃s,PI E pb p w0 s w/\xh E (vp pb) [Im E pb] a/\((∃nd n,x= .ok nd s/\e= .ret/\Rs E w n (.int .i64 s.g) .nilIface/\Repr w (λb=>E.B<=b) n nd)\/∃y q n g er,x= .err y s/\e= .panic (thrown q)/\ErrAt E.e E.B w s.t.bad y q/\Rs E w n g er):=by
  cases x with
  |ok nd s=>obtain⟨h1,h2,h3,n,h4,h5⟩:=h;exact⟨s,h3,h2,.inl ⟨nd,n,rfl,h1,h4,h5⟩⟩
  |err y s=>obtain⟨h2,h3,q,h1,h4,n,g,er,h5⟩:=h;exact⟨s,h3,h2,.inr ⟨y,q,n,g,er,rfl,h1,h4,h5⟩⟩
 have hfa:fr.fn=53/\fr.kind= .normal/\fr.roundOf=none/\fr.defers=[Im E pb]/\fr.tmps=a.tmps/\fr.mode≠.run:=by
  rcases h7 with⟨_,rfl⟩|⟨ch,_,rfl⟩<;>exact⟨rfl,rfl,rfl,hPf.1,rfl,by simp⟩
 obtain⟨f1,f2,f3,f4,f5,f6⟩:=hfa;refine(aH T).one (fr':=Ti PA 92 #[vp E.nb,vp E.gb,vp E.eb,vp pb] .deferred) (cs':= {fr with defers:=[]}::[D0]) (λu=>step_defer f6 f4 rfl ?_) trivial ?_
 .exact a8 (PA.func Tryz.func92 (by decide)) (by kernel_rfl) rfl _ u
 rw[hent];refine(aH T).one (λu=>step_seq) trivial ((aH T).one (λu=>step_seq) trivial ((aH T).one (λu=>step_region) trivial ?_));obtain⟨PF,v,hPF,hd,hv⟩:∃PF v,KU E PF/\(recoverD [{fr with defers:=[]},D0]=some (v,[PF,D0])\/recoverD [{fr with defers:=[]},D0]=none/\v= .nilIface/\[PF,D0]=[{fr with defers:=[]},D0])/\
  (e= .ret/\v= .nilIface\/∃q,e= .panic (thrown q)/\v= .iface 133 (.pointer q)):=by
  rcases h7 with⟨he,h7⟩|⟨ch,he,h7⟩
  .refine⟨{fr with defers:=[]},.nilIface,⟨f1,f2,f3,rfl,.inl (by rw[h7]),by rw[f5];exact hPf.2.1,by rw[f5];exact hPf.2.2.1,by rw[f5];exact hPf.2.2.2.1,by rw[f5];exact hPf.2.2.2.2.1⟩,.inr ⟨?_,rfl,rfl⟩,.inl ⟨he,rfl⟩⟩;rw[h7];rfl
  .rcases h8 with⟨nd,n,_,h1,_⟩|⟨y,q,n,g,er,_,h1,_⟩
   .rw[h1]at he;cases he
   .rw[h1]at he;cases he;refine⟨{fr with defers:=[],mode:=.panicking [{v:=.iface 133 (.pointer q),recovered:=true}]},.iface 133 (.pointer q),⟨f1,f2,f3,rfl,.inr ⟨_,rfl⟩,by rw[f5];exact hPf.2.1,by rw[f5];exact hPf.2.2.1,by rw[f5];exact hPf.2.2.2.1,by rw[f5];exact hPf.2.2.2.2.1⟩,.inl ?_,.inr ⟨q,h1,rfl⟩⟩;rw[h7];rfl
 refine(aH T).one (λu=>Jy (i:=0) rfl rfl rfl rfl ?_ hd) trivial ?_
 .simp[execOp,go_sem]
 clear h7 hd f1 f2 f3 f4 f5 f6 hent;refine r6 (M:=λa w'=>QR (vp E.nb) (vp E.gb) (vp E.eb) (vp pb) v a/\w'.heap=w.heap) ?_ trivial (by simp[rW]) ?_
 .show aV _ _ _ (AT 1 (1+0)) _ _;refine aW 1 1 0 (λN hN w2 he=> ?_) (by decide);simp only[zq1];simp only[Sv,IS,SF,SL,SK,No,IT,Sw,OF,SE,Sz,AS,T1,Te,Td];clear hPI h8 h;go_wp2;refine hN.out _ _ (az ⟨rfl,⟨rfl,rfl,rfl,rfl,rfl,rfl,rfl⟩,he⟩)
 intro a1 w1 ⟨hi,he1⟩;obtain⟨u,rfl⟩:=hi.out;have hPI1:=up (hPI.af he1);replace hdr:=up (hdr.out PF hPF);refine s9 (M:=λa w'=>QF (vp E.nb) (vp E.gb) (vp E.eb) (vp pb) a/\PI E pb p w0 s w'/\∃n g er,Rs E w' n g er/\Came E w' x n g er) ?_ trivial (by simp[rW]) ?_
 .rcases h8 with⟨nd,n,hx,h1,h2,h3⟩|⟨y,q,n,g,er,hx,h1,h2,h3⟩
  .have hj:v= .nilIface:=by
    rcases hv with⟨_,h⟩|⟨q,h,_⟩
    .exact h
    .rw[h1]at h;cases h
   subst hj;subst hx;refine ag λw2 he=> ?_
   have hC:∃n g er,Rs E w2 n g er/\Came E w2 (.ok nd s) n g er:=⟨n,_,_,h2.af (he.trans he1),rfl,rfl,h3.keep λb _ _=>by rw[he,he1]⟩;replace hPI1:=up (hPI1.out.af he);replace hC:=up hC;clear he hv h2 h3 h hPI h1 hPf;go_wp2;refine⟨?_,hPI1.out,hC.out⟩;exact⟨rfl,rfl,rfl,rfl,rfl,rfl⟩
  .obtain⟨q',hf,rfl⟩:∃q',Exit.panic (thrown q)= .panic (thrown q')/\v= .iface 133 (.pointer q'):=by
    rcases hv with⟨h,_⟩|⟨q',h,hv⟩
    .rw[h1]at h;cases h
    .exact⟨q',h1.symm.trans h,hv⟩
   obtain rfl:q=q':=by
    simp only[thrown,Exit.panic.injEq,List.cons.injEq,PanicEntry.mk.injEq,Value.iface.injEq,Value.pointer.injEq,true_and,and_true]at hf;exact hf
   subst hx;refine ag λw2 he=> ?_
   have h0:=h3.af (he.trans he1);have hg:ErrAt E.e E.B w2 s.t.bad y q:=h2.keep λb _ _=>by rw[he,he1]
   replace hPI1:=up (hPI1.out.af he);have cn:w2.cell? ⟨E.nb,0,none⟩=some _:=h0.n.cell 0;have fn:∀i,w2.frozen? ⟨E.nb,i,none⟩=false:=h0.n.frozen;have cg:w2.cell? ⟨E.gb,0,none⟩=some _:=h0.g.cell 0;have fg:∀i,w2.frozen? ⟨E.gb,i,none⟩=false:=h0.g.frozen;have ce:w2.cell? ⟨E.eb,0,none⟩=some _:=h0.e.cell 0;have fe:∀i,w2.frozen? ⟨E.eb,i,none⟩=false:=h0.e.frozen;have n1:=hne.1;have n2:=hne.2.1;have n3:=hne.2.2;have n4:=SD n1;have n5:=SD n2;have n6:=SD n3;replace h0:=up h0;replace hg:=up hg;clear he hv h2 h3 h hPI h1 hf hPf;go_wp2;go_region
   go_wp2;clear cn fn cg fg ce fe;have hk:PI E pb p w0 s (((w2.setCell ⟨E.nb,0,none⟩ .nilIface).setCell ⟨E.gb,0,none⟩ (.int .i64 0)).setCell ⟨E.eb,0,none⟩ (.iface 133 (.pointer q))):=((hPI1.out.set (.inl rfl) ha h9).set (.inr (.inl rfl)) ha h9).set (.inr (.inr rfl)) ha h9;have hl:Rs E (((w2.setCell ⟨E.nb,0,none⟩ .nilIface).setCell ⟨E.gb,0,none⟩ (.int .i64 0)).setCell ⟨E.eb,0,none⟩ (.iface 133 (.pointer q))) .nilIface (.int .i64 0) (.iface 133 (.pointer q)):=
    ⟨((h0.out.n.bI 0 _).far n1 _).far n2 _,((h0.out.g.far n4 _).bI 0 _).far n3 _,((h0.out.e.far n5 _).far n6 _).bI 0 _⟩
   have hE9:ErrAt E.e E.B (((w2.setCell ⟨E.nb,0,none⟩ .nilIface).setCell ⟨E.gb,0,none⟩ (.int .i64 0)).setCell ⟨E.eb,0,none⟩ (.iface 133 (.pointer q))) s.t.bad y q:=
    hg.out.keep λb hb _=>(Below.heap_setCell _ _ _ b (by dsimp only;omega)).trans ((Below.heap_setCell _ _ _ b (by dsimp only;omega)).trans (Below.heap_setCell _ _ _ b (by dsimp only;omega)))
   refine⟨?_,hk.af rfl,_,_,_,hl.af rfl,rfl,rfl,q,rfl,hE9.keep λ_ _ _=>rfl⟩;exact⟨rfl,rfl,rfl,rfl,rfl,rfl⟩
 intro a2 w2 ⟨hm,hh,hC2⟩;obtain⟨u,rfl⟩:=hm.out;refine(aH T).one (λu=>step_seq) trivial ?_;refine s9 (M:=λa w'=>QG (vp E.nb) (vp E.gb) (vp E.eb) (vp pb) (.chan (some E.r)) a/\PI E pb p w0 s w'/\∃n g er,Rs E w' n g er/\Came E w' x n g er) ?_ trivial (by simp[rW]) ?_
 .refine ag λw3 he=> ?_
  have hC:∃n g er,Rs E w3 n g er/\Came E w3 x n g er:=by
   obtain⟨n,g,er,k1,k2⟩:=hC2;exact⟨n,g,er,k1.af he,k2.keep λb _ _=>by rw[he]⟩
  have h6:=up (hh.af he);have c1:w3.cell? ⟨pb,0,none⟩=some (.pointer (some ⟨p,0,none⟩)):=h6.out.bx;have c2:w3.cell? ⟨p,0,none⟩=some (.chan (some E.r)):=h6.out.ps.blk.cell 0;replace hC:=up hC;clear he hh hC2 h8 hPI h hPI1;go_wp2;refine⟨?_,h6.out,hC.out⟩;exact⟨rfl,rfl,rfl,rfl,rfl,rfl,rfl⟩
 intro a3 w3 ⟨hn,h6,hC3⟩;refine(aH T).one (λu=>step_block) trivial ((aH T).one (λu=>step_loop) trivial ?_);obtain⟨sn,rc,hch⟩:=h6.ps.chan;exact hdr.out s.ts a3 w3 sn rc hn hch ⟨h6.kp,hC3⟩
def IK(v5:Sx)(a:Act):Prop:=a.defers=[]/\a.tmps.size=18/\a.tmps.getD 5 undef=v5
theorem IK.out{v5 a}(h:IK v5 a):∃u:Nat->Sx,a= {tmps:=(u 0::u 1::u 2::u 3::u 4::v5::u 6::u 7::u 8::u 9::u 10::u 11::u 12::u 13::u 14::u 15::u 16::u 17::[]).toArray,defers:=[]}:=by
 obtain⟨hd,hn,rfl⟩:=h;obtain⟨ts,ds⟩:=a;subst hd;exact⟨λi=>ts.getD i undef,congrArg (λt=>({tmps:=t,defers:=[]}:Act)) (dp 18 ts hn)⟩
def pu:SY:= {(default:SY)with fn:=91,kind:=.normal}
theorem Gf:PA.funcs[91]?=some (ax bA 91 Tryz.f91):=by
 simp[@ft Tryz.prog bA 91]
theorem xq(ts):results (ax bA 91 Tryz.f91) ts=results Tryz.f91 ts:=by
 rfl
theorem Eo{t0 t1 t2 t4 t5 iT opsT}(hT:(Tryz.f91).body=some (.seq t0 (.seq t1 (.seq t2 (.seq (.region iT opsT false) (.seq t4 t5)))))){ob r w aT}(ho:w.cell? ⟨ob,0,none⟩=some (.chan (some r)))(h0:IK (vp ob) aT):
 cL (aH T) (.seq t4 t5) (bodyPost PA Tryz.f91 λe w'=>e= .returned (.chan (some r))/\w'.heap=w.heap) aT w:=by
 cases hT;obtain⟨u,rfl⟩:=h0.out;refine ag λw1 he=> ?_
 have c5:w1.cell? ⟨ob,0,none⟩=some (.chan (some r)):=by simp_all[SZ]
 replace he:=up he;go_wp2;go_ret;exact⟨rfl,he.out⟩
theorem Hs{P}{D:dZ P}{K}{fr b:SY}{a ops i rest k cs w v o}(hl:fr.leaving P w (.returned v))(ho:ops[i]?=some o)(hok:D.okF b.fn)
 (h:D.H K (bO (b.at (a.put o.dst v) (.inRegion ops rest::k)) cs) w):D.H K (bO fr (b.at a (.inRegion ops (i::rest)::k)::cs)) w:=by
 refine D.go λτ d=>dD (.one (step_leave_returned (ut hl τ d))) ⟨⟨rfl,hok⟩,?_⟩
 .have:(b.at a (.inRegion ops (i::rest)::k)).finish v=b.at (a.put o.dst v) (.inRegion ops rest::k):=by simp[Tl,ho]
  rw[this];exact D.er h τ d
theorem F0{t0 t1 t2 t4 t5 p0 p1 p4 p5 p6 p7 p8 q0 q1 q2 q3 cQ i iT iP iQ opsT opsP opsQ}
 (hT:(Tryz.f91).body=some (.seq t0 (.seq t1 (.seq t2 (.seq (.region iT opsT false) (.seq t4 t5))))))
 (hP:(Tryz.f53).body=some (.seq p0 (.seq p1 (.seq (.region iP opsP false) (.seq p4 (.seq p5 (.seq p6 (.seq p7 p8))))))))
 (hQ:(Tryz.f92).body=some (.seq (.seq q0 (.seq q1 q2)) (.seq q3 (.block i (.loop (.seq (.region iQ opsQ false) cQ))))))
 {E D0 ob w x aT aP ts v7 n0 g0 e0 s rc} (hr:E.r<E.B) (h5:E.r≠E.nb/\E.r≠E.gb/\E.r≠E.eb) (hne:E.nb≠E.gb/\E.nb≠E.eb/\E.gb≠E.eb) (h6:E.nb<E.B/\E.gb<E.B/\E.eb<E.B)
 (hx:pT qJ ts=some x) (hB:E.B=w.heap.size) (ho:w.cell? ⟨ob,0,none⟩=some (.chan (some E.r))) (hch:w.heap[E.r]?=some (.chan E.cap (ts.map (Tok.val E.e)).toArray false s rc E.tm)) (hR:Rs E w n0 g0 e0)
 (h7:IK (vp ob) aT) (h8:xh E v7 [] aP):
 (aH T).H (pG E opsQ [.code cQ,.inLoop (.seq (.region iQ opsQ false) cQ),.inBlock i] D0 w x) (bO (pu.at aT (.inRegion opsT []::[.code (.seq t4 t5)])) [gw.at aP (.inRegion opsP [2,3,4,5,6]::[.code (.seq p4 (.seq p5 (.seq p6 (.seq p7 p8))))]),D0]) w:=by
 have h0:=λpb p w2 a hI hR=> @F2 T _ _ _ _ _ _ _ _ hP E pb p w w2 ts x n0 g0 e0 a hx hI hR
 have hend:=λpb p w2 e a fr=> @H0 T _ _ _ _ _ _ _ _ hQ E D0 pb p w w2 x e a fr hr h5 hne h6
 have hret:= @Eo T _ _ _ _ _ _ _ hT ob E.r w aT ho h7;replace h0:=up h0;replace hend:=up hend;clear hQ;refine(aH T).one (λu=>step_region_end) trivial ?_;have h4:∀w1:By,w1.heap=w.heap->(aH T).H (pG E opsQ [.code cQ,.inLoop (.seq (.region iQ opsQ false) cQ),.inBlock i] D0 w x) (bO (gw.at (aP.put (some 16) (.chan (some E.r))) (.inRegion opsP [3,4,5,6]::[.code (.seq p4 (.seq p5 (.seq p6 (.seq p7 p8))))])) [D0]) w1:=λw1 he=>by
  clear hret hT;have hB1:E.B=w1.heap.size:=by rw[hB,he]
  have hR1:=up (hR.af he);have hk1:=up ((Kp.refl (B:=E.B) (X:=[E.nb,E.gb,E.eb,E.r]) w).af he);have hch1:w1.heap[E.r]?=some (.chan E.cap (ts.map (Tok.val E.e)).toArray false s rc E.tm):=by rw[he];exact hch
  refine r6 (M:=λa w'=>xh E (vp (w1.heap.size+1)) [] a/\PI E (w1.heap.size+1) w1.heap.size w ⟨ts,qJ,0,0⟩ w'/\Rs E w' n0 g0 e0) ?_ trivial (by simp[gw]) ?_
  .cases hP;obtain⟨u,rfl⟩:=h8.out;show aV _ _ _ (AT 3 (4+0)) _ _;refine aW 3 4 0 (λN hN w2 he2=> ?_) (by decide);simp only[zq1];simp only[AS,zq0];replace hR1:=up (hR1.out.af he2);replace hk1:=up (hk1.out.af he2);have hz:=congrArg SC he2;replace hch1:w2.heap[E.r]?=some (.chan E.cap (ts.map (Tok.val E.e)).toArray false s rc E.tm):=by rw[he2];exact hch1
   replace hch1:=up hch1;replace hz:=up hz;clear he2 he h8 h7 ho hch hR;go_wp2;refine hN.out _ _ (az ⟨rfl,?_⟩);have hz':=hz.out;have hlr:=(SH.1 hch1.out).1;have hA:∀b,b<w2.heap.size->((w2.alloc (.cells #[.chan (some E.r),.int .i64 0,.int .i64 0,.int .u64 0,.int .u64 0,.int .u64 0,.int .u64 0,.int .i64 0,.int .i64 0,.pointer none,.int .i64 0,.int .i64 0] 197)).alloc (.cells #[.pointer (some ⟨w2.heap.size,0,none⟩)] 191)).heap[b]?=w2.heap[b]?:=λb hb=>
    (Below.heap_alloc _ _ b (by simp;omega)).trans (Below.heap_alloc _ _ b hb)
   refine⟨⟨rfl,rfl,rfl,rfl,rfl,?_⟩,⟨⟨?_,s,rc,?_⟩,?_,(hk1.out.alloc (Nat.le_of_eq hB) _).alloc (Nat.le_of_eq hB) _,by omega,by omega,by omega⟩,hR1.out.keep λb hb=>hA b ?_⟩
   .show vp (w2.heap.size+1)=vp (w1.heap.size+1);rw[hz']
   .rw[<- hz'];exact a7.alloc (a7.new w2 197 #[.chan (some E.r),.int .i64 0,.int .i64 0,.int .u64 0,.int .u64 0,.int .u64 0,.int .u64 0,.int .i64 0,.int .i64 0,.pointer none,.int .i64 0,.int .i64 0]) _
   .exact(hA _ hlr).trans hch1.out
   .rw[<- hz'];have:=(a7.new2 w2 (.cells #[.chan (some E.r),.int .i64 0,.int .i64 0,.int .u64 0,.int .u64 0,.int .u64 0,.int .u64 0,.int .i64 0,.int .i64 0,.pointer none,.int .i64 0,.int .i64 0] 197) 191 #[.pointer (some ⟨w2.heap.size,0,none⟩)]).cell 0;exact this
   .have h1:=hR1.out.n.lt;have h2:=hR1.out.g.lt;have h3:=hR1.out.e.lt;rcases hb with rfl|rfl|rfl<;>assumption
  .intro a w2 ⟨ha,h9,hc⟩;refine h0.out _ _ w2 a ha h9 hc hne h6 hr h5 gw [] [D0] _ trivial (by simp[gw]) λe a' w' hq=> ?_
   have he2:e= .ret\/∃ch,e= .panic ch:=by
    cases x with
    |ok nd s2=>exact .inl hq.1
    |err y s2=>obtain⟨_,_,q,h,_⟩:=hq;exact .inr ⟨_,h⟩
   rcases he2 with rfl|⟨ch,rfl⟩
   .exactλtodo=>hend.out _ _ w' _ a' _ hq todo (.inl ⟨rfl,rfl⟩)
   .exactλtodo=>hend.out _ _ w' _ a' _ hq todo (.inr ⟨ch,rfl,rfl⟩)
 have hleave:∀(a':Act)(w':By)(todo:List Item),bodyPost PA Tryz.f91 (λe w'=>e= .returned (.chan (some E.r))/\w'.heap=w.heap) .ret a' w'->(aH T).H (pG E opsQ [.code cQ,.inLoop (.seq (.region iQ opsQ false) cQ),.inBlock i] D0 w x) (bO {pu.at a' todo with mode:=.returning} [gw.at aP (.inRegion opsP [2,3,4,5,6]::[.code (.seq p4 (.seq p5 (.seq p6 (.seq p7 p8))))]),D0]) w':=λa' w' todo ⟨hd,v,hv,h1,h2⟩=>by
  cases h1;obtain⟨o,ho2,hd2⟩:∃o,opsP[2]?=some o/\o.dst=some 16:=by
   cases hP;exact⟨_,rfl,rfl⟩
  refine Hs (v:=.chan (some E.r)) (o:=o) ⟨rfl,hd,rfl,_,Gf,?_⟩ ho2 trivial ?_
  .rw[xq];exact hv
  .rw[hd2];exact h4 w' h2
 refine hret pu [] _ _ trivial (by simp[pu]) λe a' w' hq=> ?_
 cases e with
 |normal=>exact(aH T).one (λu=>step_end) trivial (hleave a' w' [] hq)
 |ret=>exactλtodo=>hleave a' w' todo hq
 |panic ch=>obtain⟨_,h,_⟩:=hq;cases h
 |exit id=>exact hq.elim
 |goto l=>exact hq.elim
 |outgrown=>exact nomatch hq.1
end
end Go.Proofs.YtkgohmcmmcpigaaGreatDoor
