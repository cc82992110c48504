/- A part of the proof that Folded holds; no condition. -/
import Derived.Laws.Rows
import Derived.Laws.OwnMore
import Derived.IntWalk
import Derived.WalkLawsBesides
import Derived.Deep.Draws
import Derived.Maps.AppendAt
import Derived.Deep.RegionHeld3
import Derived.Laws.BitsLemmas
import Derived.Laws.Bits64
import Derived.Lib.CutLaws
import Derived.Lib.IndexLaws
import Derived.StillTailTactics
import Derived.Defers
import Derived.Recover
import Derived.Test.YtkgohmcmmcpigabGreatDoorW04
set_option linter.all false
set_option maxHeartbeats 4000000
set_option maxRecDepth 100000
namespace Go.Proofs.YtkgohmcmmcpigabGreatDoor
open Go
open Go.Lib renaming hid->AI,indexByte->T5,hasPrefix->Tj,cut->TI
open _root_.Nat renaming le_refl->Sv,lt_succ_self->SK,le_trans->T8,reduceSub->Ta,reduceAdd->Tb,or_lt_two_pow->Tc,testBit_two_pow_sub_one->Te,lt_of_lt_of_le->Th,zero_le->Ti,mod_eq_of_lt->Tk,lt_of_le_of_lt->Tt,shiftRight_eq_div_pow->Tv,testBit_xor->Tz,testBit_and->TC,testBit_lt_two_pow->TF,le_succ->TG,pow_le_pow_right->TK,and_lt_two_pow->TP
open _root_.List renaming mem_singleton->Sx,range'->SD,mem_cons->SI,length_cons->SL,append_toArray->SP,size_toArray->SS,push_toArray->SU,drop_succ_cons->SW,cons_append->SX,nil_append->T0,length_nil->T4,not_mem_nil->T9,drop_zero->Td,setIfInBounds_toArray->Tu,set_cons_zero->TQ,set_cons_succ->TR,mem_cons_self->TS
open Go.Act renaming put->Sz
open Go renaming World->SH,Value->SV,Frame->Tp
open Go.Region renaming ready->SJ,lexTailB->TZ
open _root_.Array renaming replicate_zero->SM,replicate_succ->SN,size->SY,getElem?_eq_some_iff->T6,getElem?_setIfInBounds_ne->Tm,replicate->TD
open Go.World renaming setCell->SQ,cell?->Tq,cell?_alloc_lt->TJ
open _root_.Ne renaming symm->SZ
open _root_.Int renaming le_refl->Tf,natCast_nonneg->TU
open _root_.Option renaming isSome_iff_exists->Tg,map_eq_some_iff->TE
open Go.Exit renaming inBlock->TV
open Go.Frame renaming enter->TX,finish_at->U2
open Go.Instr renaming typeAssert->TY
open Go.Value renaming slice->Ts,pointer->AS,int->Su,iface->Sy,nilIface->SE,chan->SR
open Go.IntKind renaming i64->Sw,u64->SC
open Go.Code renaming seq->SF,region->T7
open Go.Obj renaming cells->SG,chan->Tr
open Go.Item renaming inRegion->SO,code->Tn,inBlock->Tx,inLoop->TH
open Go.Ending renaming returned->Tl,panicked->TN
open Go.Operand renaming tmp->Tw
open Go.CallKind renaming deferred->Ty
section
open Go.RowKit
def a7(w:SH)(g:Nat)(t:TypeId)(a:Array SV):Prop:=w.heap[g]?=some (SG a t (0,0))
def Kp(B:Nat)(X:List Nat)(w a:SH):Prop:=w.heap.size<=a.heap.size/\∀b,b<B->b∉X->a.heap[b]?=w.heap[b]?
section
variable{w w' w2:SH}{g B B':Nat}{t:TypeId}{cs:Array SV}{X X':List Nat}
def a7.lt(h:a7 w g t cs):g<w.heap.size:=by
 grind [a7]
def a7.cell(h:a7 w g t cs)(i):w.cell? ⟨g,i,none⟩=cs[i]?:=cell_of_row w g i cs t (0,0) h
def a7.frozen(h:a7 w g t cs)(i):w.frozen? ⟨g,i,none⟩=false:=by
 simp_all[World.frozen?,a7]
def a7.new(w:SH)(t cs):a7 (w.alloc (SG cs t)) w.heap.size t cs:=heap_alloc_new w _
def a7.new2(w:SH)(o t cs):a7 ((w.alloc o).alloc (SG cs t)) (w.heap.size+1) t cs:=by
 have:=a7.new (w.alloc o) t cs;rwa [World.size_alloc]at this
def a7.drew(h:a7 w g t cs):a7 w.drew g t cs:=h
def a7.drewN(h:a7 w g t cs)(n):a7 (w.drewN n) g t cs:=h
def a7.alloc(h:a7 w g t cs)(o):a7 (w.alloc o) g t cs:=(Below.heap_alloc w o g h.lt).trans h
def a7.bI(h:a7 w g t cs)(i u):a7 (w.setCell ⟨g,i,none⟩ u) g t (cs.setIfInBounds i u):=by
 simp_all[SQ,Array.getElem?_modify,a7]
def a7.far(h:a7 w g t cs){p}(a:g≠p.block)(u):a7 (w.setCell p u) g t cs:=(Below.heap_setCell w p u g a).trans h
def a7.kp(h:a7 w g t cs)(b:Kp B X w w')(c:g<B)(a:g∉X):a7 w' g t cs:=(b.2 g c a).trans h
def a7.af(h:a7 w g t cs)(a:w'.heap=w.heap):a7 w' g t cs:=by simp_all[a7]
def Kp.af{a}(h:Kp B X a w)(b:w'.heap=w.heap):Kp B X a w':=by simp_all[Kp]
def Kp.refl(w):Kp B X w w:=⟨Sv _,λ_ _ _=>rfl⟩
def Kp.trans(h:Kp B X w w')(d:Kp B X w' w2):Kp B X w w2:=⟨T8 h.1 d.1,λb a c=>(d.2 b a c).trans (h.2 b a c)⟩
def Kp.mono(h:Kp B X w w')(hB:B'<=B)(hX:∀x∈X,x<B'->x∈X'):Kp B' X' w w':=⟨h.1,λb a c=>h.2 b (Th a hB) λd=>c (hX b d a)⟩
def Kp.alloc(h:Kp B X w w')(d:B<=w.heap.size)(o):Kp B X w (w'.alloc o):=
 ⟨by have:=h.1;simp;omega,λb a c=>(Below.heap_alloc w' o b (by have:=h.1;omega)).trans (h.2 b a c)⟩
def Kp.setCell(h:Kp B X w w'){p}(d:p.block<B->p.block∈X)(u):Kp B X w (w'.setCell p u):=
 ⟨by have:=h.1;simp_all,λb a c=>(Below.heap_setCell w' p u b λe=>c (e▸d (e▸a))).trans (h.2 b a c)⟩
def Kp.drew(h:Kp B X w w'):Kp B X w w'.drew:=h
def Kp.drewN(h:Kp B X w w')(n):Kp B X w (w'.drewN n):=h
def Kp.grown(h:Kp B X w w'){row}(d:w'.grownBy w2 row)(i:B<=w.heap.size)(f:∀x,row=some x->x<B->x∈X):Kp B X w w2:=
 ⟨T8 h.1 d.size,λb a c=>(d.block b (by have:=h.1;omega) λe=>c (f b e.symm a)).trans (h.2 b a c)⟩
end
@[reducible] noncomputable def dJ:aD:=Pu Tryz.prog.globals.size
def bA:Nat->Option Code:=only [76,77,101,102,142,143,161,175,75]
noncomputable abbrev PA:Program:=alt Tryz.prog bA
def PA.func{f fn}(a:Tryz.prog.funcs[f]?=some fn)(h:[76,77,101,102,142,143,161,175,75].contains f=true):PA.funcs[f]?=some fn:=ry a (bP h)
@[go_sem] theorem PA.call{f}(args w)(h:47893408672059247528440325228130205158060860914008064>>>f%2=1):(callFunc f args).run PA w= .ok (.enter f args) w:=I2 (n:=512) (by kernel_rfl) args w h
def jU(p w n i f h l k c j m b a g)(t:0<=n)(r:n<=1000000)(hB:a7 w p 166 #[i,f,h,l,k,c,j,m,b,a,Su Sw n,g]):
 Calls PA 101 #[AS (some ⟨p,0,none⟩)] w λe d=>e=Tl (.agg #[Su Sw (n+1)])/\a7 d p 166 #[i,f,h,l,k,c,j,m,b,a,Su Sw (n+1),g]/\Kp w.heap.size [p] w d:=by
 have u:w.cell? ⟨p,10,none⟩=some (Su Sw n):=hB.cell 10;have s:=hB.frozen 10;have q:=hB.lt;go_enter PA.func Tryz.func101 (by decide),Tryz.ntmps101
 go_wp2;exact bodyPost_ret (v:= .agg #[Su Sw (n+1)]) (by simp[results,Tryz.results101,go_sem]) rfl ⟨rfl,(hB.bI 10 _).alloc _,((Kp.refl w).setCell (p:=⟨p,10,none⟩) (λ_=>Sx.2 rfl) _).alloc (Sv _) _⟩
def gH(e:Nat)(b:Bool):Option Addr:=if b then some ⟨e,0,none⟩else none
def Tok.val(e:Nat)(t:Tok):SV:= .agg #[Su Sw t.kind,Su Sw t.at_,Su SC t.b0,Su SC t.b1,Su SC t.b2,Su SC t.b3,Su Sw t.least,Su Sw t.most,AS (gH e t.bad)]
structure PS(p r e cap:Nat)(tm:Bool)(w:SH)(ts:List Tok)(t:Tok)(n g:Int):Prop where
 blk:a7 w p 166 #[SR (some r),Su Sw t.kind,Su Sw t.at_,Su SC t.b0,Su SC t.b1,Su SC t.b2,Su SC t.b3,Su Sw t.least,Su Sw t.most,AS (gH e t.bad),Su Sw n,Su Sw g]
 chan:∃s rc,w.heap[r]?=some (Tr cap (ts.map (Tok.val e)).toArray false s rc tm)
def jX(p k a w):Calls PA 142 #[p,Su Sw k,Su Sw a] w λe b=>e=TN [{v:=Sy 120 (AS (some ⟨w.heap.size,0,none⟩)),recovered:=false}]/\b=w.alloc (SG #[Su Sw a,Su Sw k] 124):=by
 go_enter PA.func Tryz.func142 (by decide),Tryz.ntmps142
 go_wp2;exact⟨rfl,rfl,rfl⟩
def PS.af{p r e a d w w' b t n g}(h:PS p r e a d w b t n g)(c:w'.heap=w.heap):PS p r e a d w' b t n g:=
 ⟨h.blk.af c,by rw[c];exact h.chan⟩
def a7.ay{w g r t cs}(h:a7 w g t cs)(a:g≠r)(o):a7 (ay w r o) g t cs:=by
 simp_all[SZ,a7,Go.Proofs.YtkgohmcmmcpigabGreatDoor.ay]
def Kp.ay{B X w a}(h:Kp B X w a){r}(f:r<B->r∈X)(o):Kp B X w (ay a r o):=
 ⟨by have:=h.1;simp_all[Go.Proofs.YtkgohmcmmcpigabGreatDoor.ay],λb c d=>by
  have:r≠b:=λe=>d (e▸f (e▸c))
  show(a.heap.setIfInBounds r o)[b]?=_;rw[Tm this];exact h.2 b c d⟩
def rq{w r o a}(h:w.heap[r]?=some a):(ay w r o).heap[r]?=some o:=by
 have:=(T6.1 h).1;simp_all[ay]
def a7.xT{w g r t e a s b d c f}(h:a7 w g t e)(i:w.heap[r]?=some (Tr a d c s b f)):g≠r:=by
 rintro rfl;simp_all[a7]
def BP{w:SH}{r o}(h:w.heap[r]?=some o){p}(a:r≠p.block)(u):(w.setCell p u).heap[r]?=some o:=(Below.heap_setCell w p u r a).trans h
def PA.recv{ok a o x}(r)(h:o.op= .recv 161 x ok)(b:a x=SR (some r))(u):
 (execOp a o).run PA u= .ok (.comm #[{chan:=SR (some r),send:=none,zero:= .agg #[Su Sw 0,Su Sw 0,Su SC 0,Su SC 0,Su SC 0,Su SC 0,Su Sw 0,Su Sw 0,AS none]}] true (.recv ok)) u:=by
 simp[h,b,go_sem]
abbrev sF(w:SH)(p e:Nat)(t:Tok):SH:=((((((((w.setCell ⟨p,1,none⟩ (Su Sw t.kind)).setCell ⟨p,2,none⟩ (Su Sw t.at_)).setCell ⟨p,3,none⟩ (Su SC t.b0)).setCell ⟨p,4,none⟩ (Su SC t.b1)).setCell ⟨p,5,none⟩ (Su SC t.b2)).setCell ⟨p,6,none⟩ (Su SC t.b3)).setCell ⟨p,7,none⟩ (Su Sw t.least)).setCell ⟨p,8,none⟩ (Su Sw t.most)).setCell ⟨p,9,none⟩ (AS (gH e t.bad))
def EQ{w p e c d g j l i n q m k f a b}(h:a7 w p c #[d,g,j,l,i,n,q,m,k,f,a,b])(t):
 a7 (sF w p e t) p c #[d,Su Sw t.kind,Su Sw t.at_,Su SC t.b0,Su SC t.b1,Su SC t.b2,Su SC t.b3,Su Sw t.least,Su Sw t.most,AS (gH e t.bad),a,b]:=by
 have:=((((((((h.bI 1 (Su Sw t.kind)).bI 2 (Su Sw t.at_)).bI 3 (Su SC t.b0)).bI 4 (Su SC t.b1)).bI 5 (Su SC t.b2)).bI 6 (Su SC t.b3)).bI 7 (Su Sw t.least)).bI 8 (Su Sw t.most)).bI 9 (AS (gH e t.bad));simp_all
def EP{w p e r o}(h:w.heap[r]?=some o)(a:r≠p)(t):(sF w p e t).heap[r]?=some o:=by
 repeat refine BP ?_ a _
 omega
def GK{B X w a p e}(h:Kp B X w a)(b:p<B->p∈X)(t):Kp B X w (sF a p e t):=by
 repeat refine Kp.setCell ?_ b _
 omega
section
attribute [local instance] dJ
variable{T:bz PA}
def Ng{p r e k H w t d I n g}(h:PS p r e k H w (d::I) t n g):
 cb (aH T) 76 #[AS (some ⟨p,0,none⟩)] w λe' Z=>PS p r e k H Z I d n g/\Kp w.heap.size [p,r] w Z/\(d.kind≠8/\e'=Tl (.tuple #[])\/d.kind=8/\e'=TN [{v:=Sy 120 (AS (gH e d.bad)),recovered:=false}]):=by
 have⟨hB,s,rc,hch⟩:=h;refine bu trivial (λZ h=>by rcases h.2.2 with⟨_,h⟩|⟨_,h⟩<;>cases h) (PA.func Tryz.func76 (by decide)) rfl ?_;simp only[Tryz.ntmps76,SS,SL,T4,Tb,Ta,SN,SM,SU,SP,T0,SX];refine ac λK hK=> ?_
 refine ao ?_;show aV _ _ _ (SD 0 (5+4)) ..;refine aW 0 5 4 (λN hN R P=> ?_) (by decide);simp only[zq1];have u:=hB.af P;have hc0:R.cell? ⟨p,0,none⟩=some (SR (some r)):=u.cell 0;go_wp2;refine hN.out _ _ ?_;have j:R.heap[r]?=some (Tr k (Tok.val e d::I.map (Tok.val e)).toArray false s rc H):=by rw[P];exact hch
 have y:=u.xT j;refine yy (rest:=SD 6 (3+0)) rfl rfl (PA.recv r rfl rfl) j ?_;refine aW 6 3 0 (λN hN c m=> ?_) (by decide);have a:=(u.ay y _).af m;have z:=(congrArg (·[r]?) m).trans (rq j);simp only[zq1];have f_w2:∀i,c.frozen? ⟨p,i,none⟩=false:=a.frozen;have c0_w2:c.cell? ⟨p,0,none⟩=some (SR (some r)):=a.cell 0;have X:c.cell? ⟨p,1,none⟩=some _:=a.cell 1;have c2_w2:c.cell? ⟨p,2,none⟩=some _:=a.cell 2;have M:c.cell? ⟨p,3,none⟩=some _:=a.cell 3;have c4_w2:c.cell? ⟨p,4,none⟩=some _:=a.cell 4;have c5_w2:c.cell? ⟨p,5,none⟩=some _:=a.cell 5;have c6_w2:c.cell? ⟨p,6,none⟩=some _:=a.cell 6;have c7_w2:c.cell? ⟨p,7,none⟩=some _:=a.cell 7;have c8_w2:c.cell? ⟨p,8,none⟩=some _:=a.cell 8;have c9_w2:c.cell? ⟨p,9,none⟩=some _:=a.cell 9;have L:c.cell? ⟨p,10,none⟩=some _:=a.cell 10;have D:c.cell? ⟨p,11,none⟩=some _:=a.cell 11;simp only[Sz,Tok.val,Bool.false_eq_true,if_false];go_wp2;refine hN.out _ _ (az (hK.out _ _ ?_));have hp:p<w.heap.size->p∈[p,r]:=λ_=>TS
 have S:Kp w.heap.size [p,r] w c:=(((Kp.refl w).af P:Kp w.heap.size [p,r] w R).ay (λ_=>List.mem_cons_of_mem _ (Sx.2 rfl)) _).af m;have A:=EQ (e:=e) a d;have l:=EP (e:=e) z (SZ y) d;have x:=GK (e:=e) S hp d;show cL _ _ _ _ (sF c p e d);generalize sF c p e d=w3 at A l x ⊢;have hPS:PS p r e k H w3 I d n g:=⟨A,_,_,l⟩;have hh:=AI hPS;have hk:=AI x;refine ag λf q=> ?_
 have b:=hh.out.blk.af q;have B:=AI (hh.out.af q);have C:=AI (hk.out.af q);have f_w4:∀i,f.frozen? ⟨p,i,none⟩=false:=b.frozen;have c0_w4:f.cell? ⟨p,0,none⟩=some (SR (some r)):=b.cell 0;have c1_w4:f.cell? ⟨p,1,none⟩=some _:=b.cell 1;have c2_w4:f.cell? ⟨p,2,none⟩=some _:=b.cell 2;have Q:f.cell? ⟨p,3,none⟩=some _:=b.cell 3;have c4_w4:f.cell? ⟨p,4,none⟩=some _:=b.cell 4;have c5_w4:f.cell? ⟨p,5,none⟩=some _:=b.cell 5;have c6_w4:f.cell? ⟨p,6,none⟩=some _:=b.cell 6;have W:f.cell? ⟨p,7,none⟩=some _:=b.cell 7;have c8_w4:f.cell? ⟨p,8,none⟩=some _:=b.cell 8;have c9_w4:f.cell? ⟨p,9,none⟩=some _:=b.cell 9;have G:f.cell? ⟨p,10,none⟩=some _:=b.cell 10;have F:f.cell? ⟨p,11,none⟩=some _:=b.cell 11;by_cases E:d.kind=8
 .have h8':(d.kind==8)=true:=by simpa using E
  go_wp2;exact⟨rfl,B.out,C.out,.inr ⟨E,rfl⟩⟩
 .have h8':(d.kind==8)=false:=by simpa using E
  go_wp2;exact bodyPost_end (results_none rfl ..) rfl ⟨B.out,C.out,.inl ⟨E,rfl⟩⟩
end
inductive Repr(w:SH):(Nat->Prop)->SV->Nd->Prop
 |set {S q id b0 b1 b2 b3}:S q->a7 w q 298 #[Su Sw id,Su SC b0,Su SC b1,Su SC b2,Su SC b3]->Repr w S (Sy 296 (AS (some ⟨q,0,none⟩))) (.set id b0 b1 b2 b3)
 |edge {S q id fin}:S q->a7 w q 295 #[Su Sw id,.bool fin]->Repr w S (Sy 293 (AS (some ⟨q,0,none⟩))) (.edge id fin)
 |seq {S q id sl ks vs}:S q->a7 w q 260 #[Su Sw id,sl]->w.ownsRow 0 62 1 sl vs.length vs->(∀b,sl.ownBlock=some b->S b)->vs.length=ks.length->(∀(i:Nat) v k,vs[i]?=some v->ks[i]?=some k->Repr w S v k)->Repr w S (Sy 259 (AS (some ⟨q,0,none⟩))) (.seq id ks)
 |alt {S q id sl ks vs}:S q->a7 w q 227 #[Su Sw id,sl]->w.ownsRow 0 62 1 sl vs.length vs->(∀b,sl.ownBlock=some b->S b)->vs.length=ks.length->(∀(i:Nat) v k,vs[i]?=some v->ks[i]?=some k->Repr w S v k)->Repr w S (Sy 221 (AS (some ⟨q,0,none⟩))) (.alt id ks)
 |grp {S q id num v k}:S q->a7 w q 303 #[Su Sw id,v,Su Sw num]->Repr w S v k->Repr w S (Sy 301 (AS (some ⟨q,0,none⟩))) (.grp id k num)
 |rep {S q id least most v k}:S q->a7 w q 279 #[Su Sw id,v,Su Sw least,Su Sw most]->Repr w S v k->Repr w S (Sy 277 (AS (some ⟨q,0,none⟩))) (.rep id k least most)
def bt{w w':SH}{a e c n v j}(h:w.ownsRow a e c v n j)(p:∀b,v.ownBlock=some b->b<w.heap.size->w'.heap[b]?=w.heap[b]?):w'.ownsRow a e c v n j:=by
 have⟨k,i⟩:=h;refine⟨k,?_⟩;rcases i with i|⟨g,d,f,rfl,q,l,m⟩
 exact .inl i;refine .inr ⟨g,d,f,rfl,q,?_,m⟩;rw[p g rfl (T6.1 l).1];omega
def eU{w:SH}{a e c n v f}(h:w.ownsRow a e c v n f){b}(d:v.ownBlock=some b):b<w.heap.size/\a<=b:=by
 rcases h.2 with⟨rfl,_⟩|⟨g,i,j,rfl,k,l,m⟩
 cases d;cases d<;>grind
def Repr.keep{w w' S v s}(h:Repr w S v s)(m:∀b,S b->b<w.heap.size->w'.heap[b]?=w.heap[b]?):Repr w' S v s:=by
 have d:∀{q t u},S q->a7 w q t u->a7 w' q t u:=λa c=>(m _ a c.lt).trans c
 induction h with
 |set a c=>exact .set a (d a c)
 |edge a c=>exact .edge a (d a c)
 |seq a c n j p _ g=>exact .seq a (d a c) (bt n λb e f=>m b (j b e) f) j p λi v k l r=>g i v k l r
 |alt a c n j p _ g=>exact .alt a (d a c) (bt n λb e f=>m b (j b e) f) j p λi v k l r=>g i v k l r
 |grp a c _ g=>exact .grp a (d a c) g
 |rep a c _ g=>exact .rep a (d a c) g
def Repr.mono{w S S' v m}(h:Repr w S v m)(hs:∀b,S b->b<w.heap.size->S' b):Repr w S' v m:=by
 induction h with
 |set h a=>exact .set (hs _ h a.lt) a
 |edge h a=>exact .edge (hs _ h a.lt) a
 |seq h a d f l _ c=>exact .seq (hs _ h a.lt) a d (λb e=>hs b (f b e) (eU d e).1) l λi v k g j=>c i v k g j
 |alt h a d f l _ c=>exact .alt (hs _ h a.lt) a d (λb e=>hs b (f b e) (eU d e).1) l λi v k g j=>c i v k g j
 |grp h a _ c=>exact .grp (hs _ h a.lt) a c
 |rep h a _ c=>exact .rep (hs _ h a.lt) a c
def Repr.form{w S v a}(h:Repr w S v a):∃t q,v=Sy t (AS (some ⟨q,0,none⟩)):=by cases h<;>exact⟨_,_,rfl⟩
def Repr.one{w S v a}(h:Repr w S v a):v.oneCell'=true:=by cases h<;>rfl
def ErrAt(e b:Nat)(f:SH)(d:Bool):FX->Option Addr->Prop
 | .tok,a=>a=gH e d
 | .own k c,a=>∃q,a=some ⟨q,0,none⟩/\b<=q/\a7 f q 124 #[Su Sw c,Su Sw k]
def thrown(a:Option Addr):List PanicEntry:=[{v:=Sy 120 (AS a),recovered:=false}]
abbrev jf(p r e a:Nat)(b:Bool)(w:SH)(s:g7):Prop:=PS p r e a b w s.ts s.t s.n s.g
def Post(p r e d:Nat)(g:Bool)(B:Nat)(w:SH):eJ Nd->Ending->SH->Prop
 | .ok h s,f,c=>∃v,f=Tl v/\jf p r e d g c s/\Kp B [p,r] w c/\Repr c (λb=>B<=b) v h
 | .err x s,f,c=>∃a,f=TN (thrown a)/\jf p r e d g c s/\Kp B [p,r] w c/\ErrAt e B c s.t.bad x a
def Post.no{p r e a b B w c x}:¬ Post p r e a b B w x .outgrown c:=by
 cases x<;>(rintro⟨_,h,_⟩;cases h)
def Kids(B:Nat)(w:SH)(q:Nat)(c:SV)(d:List Nd):Prop:=
 ∃a,w.ownsRow B 62 1 c a.length a/\c.ownBlock≠some q/\a.length=d.length/\∀(i:Nat) v k,a[i]?=some v->d[i]?=some k->Repr w (λb=>B<=b/\b≠q/\c.ownBlock≠some b) v k
def Kids.keep{B w w' q l f}(h:Kids B w q l f)(g:∀b,B<=b->b≠q->b<w.heap.size->w'.heap[b]?=w.heap[b]?):Kids B w' q l f:=by
 have⟨p,d,m,n,s⟩:=h;exact⟨p,bt d λb e a=>g b (eU d e).2 (λt=>m (t▸e)) a,m,n,λi v k r c=>(s i v k r c).keep λb j a=>g b j.1 j.2.1 a⟩
def Kids.nil(B w q):Kids B w q (Ts none 0 0) []:=⟨[],⟨rfl,.inl ⟨rfl,rfl⟩⟩,nofun,rfl,λi v k h=>by simp at h⟩
def Kids.append{B C w w' q f a v j k}{n:Nat}{g}(D:w.ownsRow B 62 1 f g.length g)(F:f.ownBlock≠some q)(m:g.length=j.length)(H:∀(i:Nat) v k,g[i]?=some v->j[i]?=some k->Repr w (λb=>B<=b/\b≠q/\f.ownBlock≠some b) v k)
 (t:Repr w (λb=>C<=b) v k) (G:q<C) (hs:∀b,f.ownBlock=some b->b<C) (A:B<=C) (y:q<w.heap.size)
 (s:w'.ownsRow B 62 1 a (g.length+1) (g++[v])) (z:w.grownBy w' f.ownBlock) (E:a.ownBlock=f.ownBlock\/a.ownBlock=some w.heap.size):Kids B w' q a (j++[k]):=by
 have l:∀{v k},Repr w (λb=>B<=b/\b≠q/\f.ownBlock≠some b) v k->Repr w' (λb=>B<=b/\b≠q/\a.ownBlock≠some b) v k:=λh=>by
  refine(h.mono (S':=λb=>(B<=b/\b≠q/\a.ownBlock≠some b)/\f.ownBlock≠some b) λb d c=>⟨⟨d.1,d.2.1,?_⟩,d.2.2⟩).keep (λb d c=>z.block b c λe=>d.2 e.symm)|>.mono λb d _=>d.1
  grind
 refine⟨g++[v],by simpa using s,by grind,by simp[m],λi u x p h=> ?_⟩;rcases Nat.lt_trichotomy i g.length with c|rfl|r
 grind
 rw[m]at h;simp at p h;subst p;subst h;refine l (t.mono λb d c=>⟨by omega,by omega,λe=> ?_⟩);have:=hs b e;omega;grind
end
section
open Go.RowKit
attribute [local instance] dJ
variable{T:bz PA}
def Does(T:bz PA)(F p r e a:Nat)(b:Bool)(m:Int->g7->Option (eJ Nd)):Prop:=∀d s w x,m d s=some x->jf p r e a b w s->cb (aH T) F #[AS (some ⟨p,0,none⟩),Su Sw d] w (Post p r e a b w.heap.size w x)
def kD{c b x}{f:c->g7->Option (eJ b)}{y}(h:bN x f=some y):(∃e s,x=some (.err e s)/\y= .err e s)\/∃a s,x=some (.ok a s)/\f a s=some y:=by
 cases x with
 |none=>cases h
 |some z=>cases z with|ok a s=>exact .inr ⟨a,s,rfl,h⟩|err e s=>exact .inl ⟨e,s,rfl,(Option.some.inj h).symm⟩
def fM{s y}(h:gn s=some y):y= .ok (s.n+1) ⟨s.ts,s.t,s.n+1,s.g⟩/\0<=s.n/\s.n<1000000:=by
 simp_all[gn]
def step_some{s y}(h:cy s=some y):∃a b,s.ts=a::b/\y=if a.kind=8 then .err .tok ⟨b,a,s.n,s.g⟩else .ok () ⟨b,a,s.n,s.g⟩:=by
 unfold cy at h;grind
def KQ(p r e a:Nat)(f:Bool)(d:Ending)(c:SH):eJ Unit->Prop
 | .ok _ b=>jf p r e a f c b/\d=Tl (.tuple #[])
 | .err x b=>x= .tok/\jf p r e a f c b/\d=TN (thrown (gH e b.t.bad))
def mf{p r e a f w s y}(hs:cy s=some y)(h:jf p r e a f w s):
 cb (aH T) 76 #[AS (some ⟨p,0,none⟩)] w λi c=>Kp w.heap.size [p,r] w c/\KQ p r e a f i c y:=by
 obtain⟨l,j,b,rfl⟩:=step_some hs;have k:PS p r e a f w (l::j) s.t s.n s.g:=b▸h;refine(Ng k).mono λi c ⟨g,n,m⟩=>⟨n,?_⟩
 rcases m with⟨d,rfl⟩|⟨d,rfl⟩
 rw[if_neg d];exact⟨g,rfl⟩;rw[if_pos d];exact⟨rfl,g,rfl⟩
def ErrAt.mono{e B c w b x a}(h:ErrAt e B w b x a)(hB:c<=B):ErrAt e c w b x a:=by
 cases x with
 |tok=>exact h
 |own k d=>have⟨q,i,g,f⟩:=h;exact⟨q,i,T8 hB g,f⟩
theorem Kids.alt{B w q sl j id}(h:Kids B w q sl j)(s:B<=q)(c:a7 w q 227 #[Su Sw id,sl]):Repr w (λb=>B<=b) (Sy 221 (AS (some ⟨q,0,none⟩))) (.alt id j):=by
 have⟨x,d,y,r,t⟩:=h;exact .alt s c ⟨d.1,d.2.imp (λh=>h) λ⟨g,a,f,n,u,p⟩=>⟨g,a,f,n,Ti _,p⟩⟩ (λb e=>(eU d e).2) r λi v k m l=>(t i v k m l).mono λb c _=>c.1
theorem Kids.seq{B w q l j id}(h:Kids B w q l j)(u:B<=q)(d:a7 w q 260 #[Su Sw id,l]):Repr w (λb=>B<=b) (Sy 259 (AS (some ⟨q,0,none⟩))) (.seq id j):=by
 have⟨z,f,x,r,p⟩:=h;exact .seq u d ⟨f.1,f.2.imp (λh=>h) λ⟨g,a,c,t,y,n⟩=>⟨g,a,c,t,Ti _,n⟩⟩ (λb e=>(eU f e).2) r λi v k s m=>(p i v k s m).mono λb d _=>d.1
structure lQ(ty:TypeId)(p r e cap:Nat)(tm:Bool)(B:Nat)(w0:SH)(id:Int)(q:Nat)(ks:List Nd)(s:g7)(sl:SV)(w:SH):Prop where
 ps:jf p r e cap tm w s
 kp:Kp B [p,r] w0 w
 lt:B<=q
 blk:a7 w q ty #[Su Sw id,sl]
 kids:Kids B w q sl ks
def lQ.af{k p r e a i B d w w' j q g s f}(h:lQ k p r e a i B d j q g s f w)(c:w'.heap=w.heap):lQ k p r e a i B d j q g s f w':=
 ⟨h.ps.af c,h.kp.af c,h.lt,h.blk.af c,h.kids.keep λb _ _ _=>by rw[c]⟩
def PS.lt{p r e a c w d t n g}(h:PS p r e a c w d t n g):p<w.heap.size/\r<w.heap.size/\p≠r:=by
 have⟨s,f,b⟩:=h.chan;exact⟨h.blk.lt,(T6.1 b).1,h.blk.xT b⟩
def PS.keep{p r e a c w w' b t n g}(h:PS p r e a c w b t n g)(f:w'.heap[p]?=w.heap[p]?)(d:w'.heap[r]?=w.heap[r]?):PS p r e a c w' b t n g:=
 ⟨f.trans h.blk,by rw[d];exact h.chan⟩
def slice_form{w:SH}{d e b n v j}(h:w.ownsRow d e b v n j):∃a n c,v=Ts a n c:=by
 rcases h.2 with⟨rfl,_⟩|⟨g,i,f,rfl,_⟩<;>exact⟨_,_,_,rfl⟩
def jc{w w':SH}(b:w'.heap=w.heap)(a):w'.cell? a=w.cell? a:=by simp[Tq,b]
def lw(w:SH)(t v):∀j u,[v][j]?=some u->(w.alloc (SG #[v] t)).cell? ((⟨w.heap.size,0,none⟩:Addr).add j)=some u:=by
 intro j u a;cases j with
 |zero=>simp at a;subst a;exact(a7.new w t #[v]).cell 0
 |succ j=>simp at a
def one_one{v:SV}(h:v.oneCell'=true):∀u∈[v],u.oneCell'=true:=λu a=>by rw[Sx.1 a];omega
def AZ:(PA.info? 62).map (λi=>(i.zero,i.size,i.bytes))=some (some SE,1,16):=by kernel_rfl
def AY:PA.underlying 225=some (.slice 62):=by kernel_rfl
theorem lQ.call{u p r e a f B g w d v q l s j m}(h:lQ u p r e a f B g v q l s m w)(C:p<B)(z:r<B)(A:B<=g.heap.size)(y:jf p r e a f d j)(n:Kp w.heap.size [p,r] w d):lQ u p r e a f B g v q l j m d:=by
 have k:∀b,B<=b->b<w.heap.size->d.heap[b]?=w.heap[b]?:=λb i c=>n.2 b c λt=>by
  grind
 have:=h.kp.1;exact⟨y,h.kp.trans (n.mono (by omega) λx t _=>t),h.lt,(k q h.lt h.blk.lt).trans h.blk,h.kids.keep λb i _ c=>k b i c⟩
def lQ.grow{K p r e I tm B C}{Q l s c d:SH}{M q N s1 m v j k o}(H:lQ K p r e I tm B Q M q N s1 m l)(hp:p<B)(hr:r<B)(hB:B<=Q.heap.size)
 (hk:Repr l (λb=>C<=b) v k) (S:q<C) (W:∀b,m.ownBlock=some b->b<C) (X:B<=C) (G:c.heap=(l.alloc o).heap) {z} (h1:l.ownsRow B 62 1 m z.length z) (h2:m.ownBlock≠some q) (h3:z.length=N.length)
 (h4:∀(i:Nat) u x,z[i]?=some u->N[i]?=some x->Repr l (λb=>B<=b/\b≠q/\m.ownBlock≠some b) u x)
 (ho:s.ownsRow B 62 1 j (z.length+1) (z++[v])) (L:c.grownBy s m.ownBlock) (ha:j.ownBlock=m.ownBlock\/j.ownBlock=some c.heap.size) (t:d.heap=s.heap):
 lQ K p r e I tm B Q M q (N++[k]) s1 j (d.setCell ⟨q,1,none⟩ j):=by
 have h:∀b,b<l.heap.size->c.heap[b]?=l.heap[b]?:=λb g=>by rw[G];exact Below.heap_alloc _ _ _ g
 have hsz:c.heap.size=l.heap.size+1:=by simp[G]
 have f:∀b,b<l.heap.size->m.ownBlock≠some b->b≠q->(d.setCell ⟨q,1,none⟩ j).heap[b]?=l.heap[b]?:=λb g hn Z=>by
  rw[Below.heap_setCell d ⟨q,1,none⟩ j b Z,t,L.block b (by omega) λe=>hn e.symm,h b g]
 have F:=H.ps.lt;have a:∀b,b<B->m.ownBlock≠some b/\b≠q:=λb g=>⟨λe=>by have:=(eU h1 e).2;omega,λe=>by have:=H.lt;omega⟩
 have R:=H.blk.lt;have y:q<c.heap.size:=by omega
 have D:=by
  refine Kids.append (C:=C) (w:=c) (n:=0) (bt h1 λb _ g=>h b g) h2 h3 (λi u x hu P=>(h4 i u x hu P).keep λb _ g=>h b g) (hk.keep λb _ g=>h b g) S W X y ho L ha
 have E:a7 d q K #[Su Sw M,m]:=by
  exact a7.af ((L.block q y λe=>h2 e.symm).trans ((h q R).trans H.blk)) t
 have A:a7 (d.setCell ⟨q,1,none⟩ j) q K #[Su Sw M,j]:=by
  have:=E.bI 1 j;grind
 refine⟨H.ps.keep (f p F.1 (a p hp).1 (a p hp).2) (f r F.2.1 (a r hr).1 (a r hr).2),?_,H.lt,A,?_⟩;refine⟨?_,λb g P=> ?_⟩<;>first |(have:=H.kp.1;have:=L.size;simp[t];omega)|(rw[f b (by have:=H.kp.1;omega) (a b g).1 (a b g).2];exact H.kp.2 b g P)
 refine Kids.keep (w:=s) D λb _ Z _=> ?_
 rw[Below.heap_setCell d ⟨q,1,none⟩ j b Z,t]
def Ns{p r e cap tm f}(hq:∀f'<f,Does T 102 p r e cap tm (kS f')):Does T 77 p r e cap tm (im f):=by
 intro d s w x hx hP;cases f with
 |zero=>simp[im]at hx
 |succ f=>
 unfold im at hx;rcases kD hx with⟨e1,s1,h1,_⟩|⟨id,s1,h1,hx⟩
 .exact absurd (fM h1).1 (by simp)
 obtain⟨h1,hn1,hn2⟩:=fM h1;simp only[eJ.ok.injEq]at h1;obtain⟨rfl,rfl⟩:=h1;refine bu trivial (λ_=>Post.no) (PA.func Tryz.func77 (by decide)) rfl ?_;simp only[Tryz.ntmps77,SS,SL,T4,Tb,Ta,SN,SM,SU,SP,T0,SX];refine ac (λK hK=> ?_);refine ag (λw1 he=> ?_);have hP1:=AI (hP.af he);have hK1:=AI ((Kp.refl w:Kp w.heap.size [p,r] w w).af he);go_wp2;refine hK.out _ _ ?_;clear hK K;refine ac (λK hK=> ?_);refine ag (λw2 he2=> ?_);have hP2:=AI (hP1.out.af he2);have hK2:=AI (hK1.out.af he2);go_wp2_with (go_at_call 101;refine(jU p w2 s.n _ _ _ _ _ _ _ _ _ _ _ hn1 (by omega) hP2.out.blk).mono ?_;rintro e2 w3 ⟨rfl,hB3,hK3⟩)
 refine hK.out _ _ ?_;clear hK K;have F:=hP2.out.lt;have e1:=congrArg SY he;have e2:=congrArg SY he2;have hKA:Kp w.heap.size [p,r] w w3:=hK2.out.trans (hK3.mono (by omega) (λx hx _=>SI.2 (.inl (Sx.1 hx))));have hsz:=hKA.1;have hP3:jf p r e cap tm w3 ⟨s.ts,s.t,s.n+1,s.g⟩:=⟨hB3,by
  obtain⟨sn,rc,hc⟩:=hP2.out.chan;exact⟨sn,rc,(hK3.2 r F.2.1 λh=>F.2.2 (Sx.1 h).symm).trans hc⟩⟩
 have hpr:=hP3.lt;have I0:lQ 227 p r e cap tm w.heap.size w (s.n+1) w3.heap.size [] ⟨s.ts,s.t,s.n+1,s.g⟩ (Ts none 0 0) (w3.alloc (SG #[Su Sw (s.n+1),Ts none 0 0] 227)):=
  ⟨hP3.keep (Below.heap_alloc _ _ _ hpr.1) (Below.heap_alloc _ _ _ hpr.2.1),hKA.alloc (Sv _) _,hsz,a7.new ..,Kids.nil ..⟩
 clear hP hP1 hP2 hK1 hK2 hK3 hB3 hP3 hKA;generalize w3.alloc (SG #[Su Sw (s.n+1),Ts none 0 0] 227)=w4 at I0 ⊢;generalize w3.heap.size=q at I0 ⊢;generalize s.n+1=id at hx I0;refine ec (m9 (λm a w'=>∃ks s' sl q u6 u7 u8 u9 u10 u11 u12 u13 u14 u15 u16 u17 u18 u19 u20 u21 u22 u23 u24 u25 u26 u27 u28 u29 u30 u31,a=⟨#[AS (some ⟨p,0,none⟩),Su Sw d,undef,undef,SE,AS (some ⟨q,0,none⟩),u6,u7,u8,u9,u10,u11,u12,u13,u14,u15,u16,u17,u18,u19,u20,u21,u22,u23,u24,u25,u26,u27,u28,u29,u30,u31],[]⟩/\il m d id ks s'=some x/\lQ 227 p r e cap tm w.heap.size w id q ks s' sl w'/\m<=f) f ⟨_,_,_,_,_,_,_,_,_,_,_,_,_,_,_,_,_,_,_,_,_,_,_,_,_,_,_,_,_,_,rfl,hx,I0,Sv _⟩ ?_);clear hx I0 hn1 hn2;rintro m a w5 ⟨ks,s',sl,q,u6,u7,u8,u9,u10,u11,u12,u13,u14,u15,u16,u17,u18,u19,u20,u21,u22,u23,u24,u25,u26,u27,u28,u29,u30,u31,rfl,hx,I0,hm⟩;cases m with
 |zero=>simp[il]at hx
 |succ m=>
 unfold il at hx;split at hx;case isFalse=>cases hx
 rename_i hlen;obtain⟨y,hy,l⟩:∃y,kS m d s'=some y/\bN (some y) (λk s=>if s.t.kind=6 then bN (cy s) λ_ s=>il m d id (ks++[k]) s else some (.ok (.alt id (ks++[k])) s))=some x:=by
  cases hp:kS m d s' with
  |none=>rw[hp]at hx;cases hx
  |some y=>rw[hp]at hx;exact⟨y,rfl,hx⟩
 clear hx;obtain⟨i0,hi0,hz0,hz1,hz2⟩:=info_parts AZ;have hNodes:=AY;refine ec ?_;refine vy λK hK hKr=> ?_
 refine qg rfl ?_;show iL _ _ _ _ 13 #[false,false,false,false,false,false,false,false,false,false,false,false,false] ..;refine eI (i:=0) (v:=AS (some ⟨q,0,none⟩)) rfl (by decide+kernel) (by decide+kernel) (by decide+kernel) (λ_ _ _ h=>h) hKr.out (.inl ⟨rfl,λu=>by simp[go_sem]⟩) ?_;simp only[Sz,zq0];refine eI (i:=1) (v:=AS (some ⟨q,0,none⟩)) rfl (by decide+kernel) (by decide+kernel) (by decide+kernel) (λ_ _ _ h=>h) hKr.out (.inl ⟨rfl,λu=>by simp[go_sem]⟩) ?_;simp only[Sz,zq0];refine eI (i:=2) (v:=AS (some ⟨q,0,none⟩)) rfl (by decide+kernel) (by decide+kernel) (by decide+kernel) (λ_ _ _ h=>h) hKr.out (.inl ⟨rfl,λu=>by simp[go_sem]⟩) ?_;simp only[Sz,zq0];refine eI (i:=3) (v:=AS (some ⟨q,1,none⟩)) rfl (by decide+kernel) (by decide+kernel) (by decide+kernel) (λ_ _ _ h=>h) hKr.out (.inl ⟨rfl,λu=>by simp[go_sem]⟩) ?_;simp only[Sz,zq0];refine eI (i:=5) (v:=AS (some ⟨p,0,none⟩)) rfl (by decide+kernel) (by decide+kernel) (by decide+kernel) (λ_ _ _ h=>h) hKr.out (.inl ⟨rfl,λu=>by simp[go_sem]⟩) ?_;simp only[Sz,zq0];refine eI (i:=6) (v:=Su Sw d) rfl (by decide+kernel) (by decide+kernel) (by decide+kernel) (λ_ _ _ h=>h) hKr.out (.inl ⟨rfl,λu=>by simp[go_sem]⟩) ?_;simp only[Sz,zq0];try simp only[Sz,zq0]
 refine dr (rs:=[4,7]) (by decide+kernel) (by simp) ?_;intro i hi;simp only[SI,T9,or_false]at hi;rcases hi with rfl|rfl
 .refine jg.walk rfl λN Z w6 he6=> ?_
  have I6:=AI (I0.af he6);have c1:w6.cell? ⟨q,1,none⟩=some sl:=I6.out.blk.cell 1;go_wp2;refine Z.out _ _ ?_;clear Z N c1;try simp only[Sz,zq0]
  refine dr (rs:=[7]) (by decide+kernel) (by simp) ?_;intro i hi;simp only[SI,T9,or_false]at hi;subst hi;refine jg.call (f:=102) (R:=Post p r e cap tm w6.heap.size w6 y) rfl rfl λu=>by simp[go_sem] trivial (hq m (by omega) d s' w6 y hy I6.out.ps) (λv w8 G=> ?_) λch w8 G=> ?_
  .cases y with
   |err e1 s1=>obtain⟨_,h,_⟩:=G;cases h
   |ok k s1=>
    obtain⟨v',hv',hP7,hK7,L⟩:=G;cases hv';have I7:=I6.out.call (by omega) (by omega) (Sv _) hP7 hK7;have hC:=I6.out.kp.1;have hqC:=I6.out.blk.lt;have hsC:∀b,sl.ownBlock=some b->b<w6.heap.size:=by
     obtain⟨vs,hv1,_⟩:=I6.out.kids;exactλb e=>(eU hv1 e).1
    generalize w6.heap.size=C at hC hqC hsC L;clear hK7 hP7 I6 hy hq;have I8:=I7;have A:=L;clear I7 L;obtain⟨vs,hv1,hv2,hv3,hv4⟩:=I8.kids;obtain⟨vt,vq,rfl⟩:=A.form;try simp only[Sz,zq0]
    refine dr (rs:=[8]) (by decide+kernel) (by simp) ?_;intro i hi;obtain rfl:=Sx.1 hi;refine jg.walk rfl λN Z M H=> ?_
    have I9:=I8.af H;have P:=A.keep (w':=M) λb _ _=>by rw[H]
    have Q:=bt (w':=M) hv1 λb _ _=>by rw[H]
    have hv49:∀(i:Nat) u x,vs[i]?=some u->ks[i]?=some x->Repr M _ u x:=λi u x h1 h2=>(hv4 i u x h1 h2).keep (w':=M) λb _ _=>by rw[H]
    have hsz9:M.heap.size=w8.heap.size:=congrArg SY H;have H1:=AI I9;have H2:=AI P;have H3:=AI Q;have H4:=AI hv49;have H5:=AI hsz9;have H6:=AI hv3;clear hv1 hv4 A I8 H I9 P Q hv49 hsz9 hv3;go_wp2;refine Z.out _ _ ?_;clear Z N;have hn3:=H6.out;have hsz:=H1.out.kp.1;simp only[Sz,zq0];refine dr (rs:=[9]) (by decide+kernel) (by simp) ?_;intro i hi;obtain rfl:=Sx.1 hi;have I:=bt (w':=M.alloc (SG #[Sy vt (AS (some ⟨vq,0,none⟩))] 62)) H3.out λb _ F=>Below.heap_alloc _ _ b F
    have hv410:∀(i:Nat) u x,vs[i]?=some u->ks[i]?=some x->Repr (M.alloc (SG #[Sy vt (AS (some ⟨vq,0,none⟩))] 62)) _ u x:=λi u x h1 h2=>(H4.out i u x h1 h2).keep (w':=M.alloc (SG #[Sy vt (AS (some ⟨vq,0,none⟩))] 62)) λb _ F=>Below.heap_alloc _ _ b F
    have hrep10:=H2.out.keep (w':=M.alloc (SG #[Sy vt (AS (some ⟨vq,0,none⟩))] 62)) λb _ F=>Below.heap_alloc _ _ b F
    refine jg.walk rfl λN Z w11 c=> ?_
    have hn11:=λj u hu=>(jc c _).trans (lw M 62 (Sy vt (AS (some ⟨vq,0,none⟩))) j u hu)
    refine wpList_append_own_at _ rfl (Tw 14) (Tw 18) _ rfl w.heap.size 62 i0 SE 1 16 hNodes hi0 hz0 hz1 hz2 rfl (by decide) sl vs.length vs rfl (bt (w':=w11) I λb _ _=>by rw[c]) ⟨M.heap.size,0,none⟩ 1 1 [Sy vt (AS (some ⟨vq,0,none⟩))] rfl rfl hn11 (one_one H2.out.one) (by simp only[maxLen];omega) (by omega) (by rw[c];simp;omega) ?_;intro v' w10 B E _ hat;refine wpList_nil (Z.out _ _ ?_);clear Z N;obtain⟨va,vn,vc,rfl⟩:=slice_form B;simp only[Sz,zq0];refine lI (k:=10) (by decide+kernel) rfl λw12 W=> ?_
    simp only[SW,Td];have D:=H1.out.grow (by omega) (by omega) (Sv _) H2.out hqC hsC hC c H3.out hv2 hn3 H4.out B E hat W;have X:a7 w12 q 227 #[Su Sw id,sl]:=by
     refine a7.af ?_ W;exact(E.block q (by rw[c];have:=H1.out.blk.lt;simp;omega) λe=>hv2 e.symm).trans ((congrArg (·[q]?) c).trans ((Below.heap_alloc _ _ _ H1.out.blk.lt).trans H1.out.blk))
    have hc12:w12.cell? ⟨q,1,none⟩=some sl:=X.cell 1;have hf12:w12.frozen? ⟨q,1,none⟩=false:=X.frozen 1;clear E B hat X hn11 I hv410 hrep10 W c H2 H3 H4 H5 H6 hv2 hn3 hsz H1 hqC hsC hC;have D:=AI D;go_wp2;refine hK.out _ _ ?_;clear hc12 hf12;generalize SQ .. =w13 at D ⊢;clear hK K hKr;dsimp only[bN]at l;refine ac λK hK=> ?_
    by_cases h6:s1.t.kind=6
    .rw[if_pos h6]at l;refine ag λw14 n=> ?_
     have g:=AI (D.out.af n);have t:=g.out.ps.blk;have c1_:w14.cell? ⟨p,1,none⟩=some (Su Sw s1.t.kind):=t.cell 1;have h6':(s1.t.kind==6)=true:=by simpa using h6
     clear t n D;go_wp2;refine hK.out _ _ ?_;clear hK K c1_ h6';refine ao ?_;show aV _ _ _ (SD 0 (1+1)) ..;refine aW 0 1 1 (λN Z w15 he15=> ?_) (by decide);simp only[zq1];have I15:=AI (g.out.af he15);clear he15 g;go_wp2;refine Z.out _ _ ?_;clear Z N;obtain⟨z,hz,hxz⟩:∃z,cy s1=some z/\bN (some z) (λ_ s=>il m d id (ks++[k]) s)=some x:=by
      cases hp:cy s1 with
      |none=>rw[hp]at l;cases l
      |some z=>rw[hp]at l;exact⟨z,rfl,l⟩
     refine bF (f:=76) (i:=1) (rest:=[]) rfl rfl λu=>by simp[go_sem] trivial (mf hz I15.out.ps) (λu w16 G=> ?_) λch w16 G=> ?_
     .obtain⟨S,G⟩:=G;cases z with
      |err e2 s2=>obtain⟨_,_,h⟩:=G;cases h
      |ok _ s2=>
       refine az ?_;simp only[Sz,zq0];exact⟨m,SK m,ks++[k],s2,_,q,_,_,_,_,_,_,_,_,_,_,_,_,_,_,_,_,_,_,_,_,_,_,_,_,_,_,rfl,hxz,I15.out.call (by omega) (by omega) (Sv _) G.1 S,by omega⟩
     .obtain⟨S,G⟩:=G;cases z with
      |ok _ s2=>obtain⟨_,h⟩:=G;cases h
      |err e2 s2=>
       obtain⟨rfl,hP16,hch⟩:=G;cases hch;cases Option.some.inj hxz;exact⟨rfl,_,rfl,hP16,I15.out.kp.trans (S.mono I15.out.kp.1 λx hx _=>hx),rfl⟩
    .rw[if_neg h6]at l;cases Option.some.inj l;refine ag λw14 n=> ?_
     have g:=AI (D.out.af n);have t:=g.out.ps.blk;have c1_:w14.cell? ⟨p,1,none⟩=some (Su Sw s1.t.kind):=t.cell 1;have h6':(s1.t.kind==6)=false:=by simpa using h6
     clear t n D;go_wp2;go_ret;exact⟨_,rfl,g.out.ps,g.out.kp,g.out.kids.alt g.out.lt g.out.blk⟩
  .cases y with
   |ok k s1=>obtain⟨_,h,_⟩:=G;cases h
   |err e1 s1=>
    obtain⟨a,ha,hP8,hK8,hE8⟩:=G;cases ha;cases Option.some.inj l;exact⟨rfl,_,rfl,hP8,I6.out.kp.trans (hK8.mono I6.out.kp.1 λx hx _=>hx),hE8.mono I6.out.kp.1⟩
 .refine jg.call (f:=102) (R:=Post p r e cap tm w5.heap.size w5 y) rfl rfl λu=>by simp[go_sem] trivial (hq m (by omega) d s' w5 y hy I0.ps) (λv w7 G=> ?_) λch w7 G=> ?_
  .cases y with
   |err e1 s1=>obtain⟨_,h,_⟩:=G;cases h
   |ok k s1=>
    obtain⟨v',hv',hP7,hK7,L⟩:=G;cases hv';have I7:=I0.call (by omega) (by omega) (Sv _) hP7 hK7;have hC:=I0.kp.1;have hqC:=I0.blk.lt;have hsC:∀b,sl.ownBlock=some b->b<w5.heap.size:=by
     obtain⟨vs,hv1,_⟩:=I0.kids;exactλb e=>(eU hv1 e).1
    generalize w5.heap.size=C at hC hqC hsC L;clear hK7 hP7 I0 hy hq;try simp only[Sz,zq0]
    refine dr (rs:=[4,8]) (by decide+kernel) (by simp) ?_;intro i hi;simp only[SI,T9,or_false]at hi;rcases hi with rfl|rfl
    .refine jg.walk rfl λN Z w8 he8=> ?_
     have I8:=I7.af he8;have A:=L.keep (w':=w8) λb _ _=>by rw[he8]
     have c1:w8.cell? ⟨q,1,none⟩=some sl:=I8.blk.cell 1;clear I7 L he8;have I8':=AI I8;have hrep':=AI A;clear I8 A;go_wp2;refine Z.out _ _ ?_;clear Z N c1;have I8:=I8'.out;have A:=hrep'.out;clear I8' hrep';obtain⟨vs,hv1,hv2,hv3,hv4⟩:=I8.kids;obtain⟨vt,vq,rfl⟩:=A.form;try simp only[Sz,zq0]
     refine dr (rs:=[8]) (by decide+kernel) (by simp) ?_;intro i hi;obtain rfl:=Sx.1 hi;refine jg.walk rfl λN Z M H=> ?_
     have I9:=I8.af H;have P:=A.keep (w':=M) λb _ _=>by rw[H]
     have Q:=bt (w':=M) hv1 λb _ _=>by rw[H]
     have hv49:∀(i:Nat) u x,vs[i]?=some u->ks[i]?=some x->Repr M _ u x:=λi u x h1 h2=>(hv4 i u x h1 h2).keep (w':=M) λb _ _=>by rw[H]
     have hsz9:M.heap.size=w8.heap.size:=congrArg SY H;have H1:=AI I9;have H2:=AI P;have H3:=AI Q;have H4:=AI hv49;have H5:=AI hsz9;have H6:=AI hv3;clear hv1 hv4 A I8 H I9 P Q hv49 hsz9 hv3;go_wp2;refine Z.out _ _ ?_;clear Z N;have hn3:=H6.out;have hsz:=H1.out.kp.1;simp only[Sz,zq0];refine dr (rs:=[9]) (by decide+kernel) (by simp) ?_;intro i hi;obtain rfl:=Sx.1 hi;have I:=bt (w':=M.alloc (SG #[Sy vt (AS (some ⟨vq,0,none⟩))] 62)) H3.out λb _ F=>Below.heap_alloc _ _ b F
     have hv410:∀(i:Nat) u x,vs[i]?=some u->ks[i]?=some x->Repr (M.alloc (SG #[Sy vt (AS (some ⟨vq,0,none⟩))] 62)) _ u x:=λi u x h1 h2=>(H4.out i u x h1 h2).keep (w':=M.alloc (SG #[Sy vt (AS (some ⟨vq,0,none⟩))] 62)) λb _ F=>Below.heap_alloc _ _ b F
     have hrep10:=H2.out.keep (w':=M.alloc (SG #[Sy vt (AS (some ⟨vq,0,none⟩))] 62)) λb _ F=>Below.heap_alloc _ _ b F
     refine jg.walk rfl λN Z w11 c=> ?_
     have hn11:=λj u hu=>(jc c _).trans (lw M 62 (Sy vt (AS (some ⟨vq,0,none⟩))) j u hu)
     refine wpList_append_own_at _ rfl (Tw 14) (Tw 18) _ rfl w.heap.size 62 i0 SE 1 16 hNodes hi0 hz0 hz1 hz2 rfl (by decide) sl vs.length vs rfl (bt (w':=w11) I λb _ _=>by rw[c]) ⟨M.heap.size,0,none⟩ 1 1 [Sy vt (AS (some ⟨vq,0,none⟩))] rfl rfl hn11 (one_one H2.out.one) (by simp only[maxLen];omega) (by omega) (by rw[c];simp;omega) ?_;intro v' w10 B E _ hat;refine wpList_nil (Z.out _ _ ?_);clear Z N;obtain⟨va,vn,vc,rfl⟩:=slice_form B;simp only[Sz,zq0];refine lI (k:=10) (by decide+kernel) rfl λw12 W=> ?_
     simp only[SW,Td];have D:=H1.out.grow (by omega) (by omega) (Sv _) H2.out hqC hsC hC c H3.out hv2 hn3 H4.out B E hat W;have X:a7 w12 q 227 #[Su Sw id,sl]:=by
      refine a7.af ?_ W;exact(E.block q (by rw[c];have:=H1.out.blk.lt;simp;omega) λe=>hv2 e.symm).trans ((congrArg (·[q]?) c).trans ((Below.heap_alloc _ _ _ H1.out.blk.lt).trans H1.out.blk))
     have hc12:w12.cell? ⟨q,1,none⟩=some sl:=X.cell 1;have hf12:w12.frozen? ⟨q,1,none⟩=false:=X.frozen 1;clear E B hat X hn11 I hv410 hrep10 W c H2 H3 H4 H5 H6 hv2 hn3 hsz H1 hqC hsC hC;have D:=AI D;go_wp2;refine hK.out _ _ ?_;clear hc12 hf12;generalize SQ .. =w13 at D ⊢;clear hK K hKr;dsimp only[bN]at l;refine ac λK hK=> ?_
     by_cases h6:s1.t.kind=6
     .rw[if_pos h6]at l;refine ag λw14 n=> ?_
      have g:=AI (D.out.af n);have t:=g.out.ps.blk;have c1_:w14.cell? ⟨p,1,none⟩=some (Su Sw s1.t.kind):=t.cell 1;have h6':(s1.t.kind==6)=true:=by simpa using h6
      clear t n D;go_wp2;refine hK.out _ _ ?_;clear hK K c1_ h6';refine ao ?_;show aV _ _ _ (SD 0 (1+1)) ..;refine aW 0 1 1 (λN Z w15 he15=> ?_) (by decide);simp only[zq1];have I15:=AI (g.out.af he15);clear he15 g;go_wp2;refine Z.out _ _ ?_;clear Z N;obtain⟨z,hz,hxz⟩:∃z,cy s1=some z/\bN (some z) (λ_ s=>il m d id (ks++[k]) s)=some x:=by
       cases hp:cy s1 with
       |none=>rw[hp]at l;cases l
       |some z=>rw[hp]at l;exact⟨z,rfl,l⟩
      refine bF (f:=76) (i:=1) (rest:=[]) rfl rfl λu=>by simp[go_sem] trivial (mf hz I15.out.ps) (λu w16 G=> ?_) λch w16 G=> ?_
      .obtain⟨S,G⟩:=G;cases z with
       |err e2 s2=>obtain⟨_,_,h⟩:=G;cases h
       |ok _ s2=>
        refine az ?_;simp only[Sz,zq0];exact⟨m,SK m,ks++[k],s2,_,q,_,_,_,_,_,_,_,_,_,_,_,_,_,_,_,_,_,_,_,_,_,_,_,_,_,_,rfl,hxz,I15.out.call (by omega) (by omega) (Sv _) G.1 S,by omega⟩
      .obtain⟨S,G⟩:=G;cases z with
       |ok _ s2=>obtain⟨_,h⟩:=G;cases h
       |err e2 s2=>
        obtain⟨rfl,hP16,hch⟩:=G;cases hch;cases Option.some.inj hxz;exact⟨rfl,_,rfl,hP16,I15.out.kp.trans (S.mono I15.out.kp.1 λx hx _=>hx),rfl⟩
     .rw[if_neg h6]at l;cases Option.some.inj l;refine ag λw14 n=> ?_
      have g:=AI (D.out.af n);have t:=g.out.ps.blk;have c1_:w14.cell? ⟨p,1,none⟩=some (Su Sw s1.t.kind):=t.cell 1;have h6':(s1.t.kind==6)=false:=by simpa using h6
      clear t n D;go_wp2;go_ret;exact⟨_,rfl,g.out.ps,g.out.kp,g.out.kids.alt g.out.lt g.out.blk⟩
    .have I8:=I7;have A:=L;clear I7 L;obtain⟨vs,hv1,hv2,hv3,hv4⟩:=I8.kids;obtain⟨vt,vq,rfl⟩:=A.form;refine jg.walk rfl λN Z M H=> ?_
     have I9:=I8.af H;have P:=A.keep (w':=M) λb _ _=>by rw[H]
     have Q:=bt (w':=M) hv1 λb _ _=>by rw[H]
     have hv49:∀(i:Nat) u x,vs[i]?=some u->ks[i]?=some x->Repr M _ u x:=λi u x h1 h2=>(hv4 i u x h1 h2).keep (w':=M) λb _ _=>by rw[H]
     have hsz9:M.heap.size=w7.heap.size:=congrArg SY H;have H1:=AI I9;have H2:=AI P;have H3:=AI Q;have H4:=AI hv49;have H5:=AI hsz9;have H6:=AI hv3;clear hv1 hv4 A I8 H I9 P Q hv49 hsz9 hv3;go_wp2;refine Z.out _ _ ?_;have hn3:=H6.out;have hsz:=H1.out.kp.1;simp only[Sz,zq0];refine dr (rs:=[4]) (by decide+kernel) (by simp) ?_;intro i hi;obtain rfl:=Sx.1 hi;refine jg.walk rfl λN Z wm hem=> ?_
     have c1m:wm.cell? ⟨q,1,none⟩=some sl:=(jc hem _).trans ((TJ _ _ ⟨q,1,none⟩ H1.out.blk.lt).trans (H1.out.blk.cell 1));have hem':=AI hem;go_wp2;refine Z.out _ _ ?_;simp only[Sz,zq0];refine dr (rs:=[9]) (by decide+kernel) (by simp) ?_;intro i hi;obtain rfl:=Sx.1 hi;have I:=bt (w':=M.alloc (SG #[Sy vt (AS (some ⟨vq,0,none⟩))] 62)) H3.out λb _ F=>Below.heap_alloc _ _ b F
     have hv410:∀(i:Nat) u x,vs[i]?=some u->ks[i]?=some x->Repr (M.alloc (SG #[Sy vt (AS (some ⟨vq,0,none⟩))] 62)) _ u x:=λi u x h1 h2=>(H4.out i u x h1 h2).keep (w':=M.alloc (SG #[Sy vt (AS (some ⟨vq,0,none⟩))] 62)) λb _ F=>Below.heap_alloc _ _ b F
     have hrep10:=H2.out.keep (w':=M.alloc (SG #[Sy vt (AS (some ⟨vq,0,none⟩))] 62)) λb _ F=>Below.heap_alloc _ _ b F
     refine jg.walk rfl λN Z w11 he11'=> ?_
     have c:=he11'.trans hem'.out;have hn11:=λj u hu=>(jc c _).trans (lw M 62 (Sy vt (AS (some ⟨vq,0,none⟩))) j u hu)
     refine wpList_append_own_at _ rfl (Tw 14) (Tw 18) _ rfl w.heap.size 62 i0 SE 1 16 hNodes hi0 hz0 hz1 hz2 rfl (by decide) sl vs.length vs rfl (bt (w':=w11) I λb _ _=>by rw[c]) ⟨M.heap.size,0,none⟩ 1 1 [Sy vt (AS (some ⟨vq,0,none⟩))] rfl rfl hn11 (one_one H2.out.one) (by simp only[maxLen];omega) (by omega) (by rw[c];simp;omega) ?_;intro v' w10 B E _ hat;refine wpList_nil (Z.out _ _ ?_);obtain⟨va,vn,vc,rfl⟩:=slice_form B;simp only[Sz,zq0];refine lI (k:=10) (by decide+kernel) rfl λw12 W=> ?_
     simp only[SW,Td];have D:=H1.out.grow (by omega) (by omega) (Sv _) H2.out hqC hsC hC c H3.out hv2 hn3 H4.out B E hat W;have X:a7 w12 q 227 #[Su Sw id,sl]:=by
      refine a7.af ?_ W;exact(E.block q (by rw[c];have:=H1.out.blk.lt;simp;omega) λe=>hv2 e.symm).trans ((congrArg (·[q]?) c).trans ((Below.heap_alloc _ _ _ H1.out.blk.lt).trans H1.out.blk))
     have hc12:w12.cell? ⟨q,1,none⟩=some sl:=X.cell 1;have hf12:w12.frozen? ⟨q,1,none⟩=false:=X.frozen 1;have D:=AI D;go_wp2;refine hK.out _ _ ?_;generalize SQ .. =w13 at D ⊢;dsimp only[bN]at l;refine ac λK hK=> ?_
     by_cases h6:s1.t.kind=6
     .rw[if_pos h6]at l;refine ag λw14 n=> ?_
      have g:=AI (D.out.af n);have t:=g.out.ps.blk;have c1_:w14.cell? ⟨p,1,none⟩=some (Su Sw s1.t.kind):=t.cell 1;have h6':(s1.t.kind==6)=true:=by simpa using h6
      go_wp2;refine hK.out _ _ ?_;refine ao ?_;show aV _ _ _ (SD 0 (1+1)) ..;refine aW 0 1 1 (λN Z w15 he15=> ?_) (by decide);simp only[zq1];have I15:=AI (g.out.af he15);go_wp2;refine Z.out _ _ ?_;obtain⟨z,hz,hxz⟩:∃z,cy s1=some z/\bN (some z) (λ_ s=>il m d id (ks++[k]) s)=some x:=by
       cases hp:cy s1 with
       |none=>rw[hp]at l;cases l
       |some z=>rw[hp]at l;exact⟨z,rfl,l⟩
      refine bF (f:=76) (i:=1) (rest:=[]) rfl rfl λu=>by simp[go_sem] trivial (mf hz I15.out.ps) (λu w16 G=> ?_) λch w16 G=> ?_
      .obtain⟨S,G⟩:=G;cases z with
       |err e2 s2=>obtain⟨_,_,h⟩:=G;cases h
       |ok _ s2=>
        refine az ?_;simp only[Sz,zq0];exact⟨m,SK m,ks++[k],s2,_,q,_,_,_,_,_,_,_,_,_,_,_,_,_,_,_,_,_,_,_,_,_,_,_,_,_,_,rfl,hxz,I15.out.call (by omega) (by omega) (Sv _) G.1 S,by omega⟩
      .obtain⟨S,G⟩:=G;cases z with
       |ok _ s2=>obtain⟨_,h⟩:=G;cases h
       |err e2 s2=>
        obtain⟨rfl,hP16,hch⟩:=G;cases hch;cases Option.some.inj hxz;exact⟨rfl,_,rfl,hP16,I15.out.kp.trans (S.mono I15.out.kp.1 λx hx _=>hx),rfl⟩
     .rw[if_neg h6]at l;cases Option.some.inj l;refine ag λw14 n=> ?_
      have g:=AI (D.out.af n);have t:=g.out.ps.blk;have c1_:w14.cell? ⟨p,1,none⟩=some (Su Sw s1.t.kind):=t.cell 1;have h6':(s1.t.kind==6)=false:=by simpa using h6
      go_wp2;go_ret;exact⟨_,rfl,g.out.ps,g.out.kp,g.out.kids.alt g.out.lt g.out.blk⟩
  .cases y with
   |ok k s1=>have⟨_,h,_⟩:=G;cases h
   |err e1 s1=>
    have⟨a,ha,hP8,hK8,hE8⟩:=G;cases ha;cases Option.some.inj l;exact⟨rfl,_,rfl,hP8,I0.kp.trans (hK8.mono I0.kp.1 λx hx _=>hx),hE8.mono I0.kp.1⟩
structure vu(p r e cap:Nat)(tm:Bool)(B:Nat)(w0:SH)(k:Nd)(s:g7)(v:SV)(w:SH):Prop where
 ps:jf p r e cap tm w s
 kp:Kp B [p,r] w0 w
 rep:Repr w (λb=>B<=b) v k
def vu.af{p r e a f B d w w' k s v}(h:vu p r e a f B d k s v w)(c:w'.heap=w.heap):vu p r e a f B d k s v w':=
 ⟨h.ps.af c,h.kp.af c,h.rep.keep λb _ _=>by rw[c]⟩
def eD{B p r a w b}(h:Kp B [p,r] a w)(c:Kp w.heap.size [p,r] w b)(e:B<=a.heap.size):Kp B [p,r] a b:=h.trans (c.mono (T8 e h.1) λx d _=>d)
def Az{B p r w c k v}(h:Repr w (λb=>B<=b) v k)(d:Kp w.heap.size [p,r] w c)(f:p<B)(e:r<B):Repr c (λb=>B<=b) v k:=
 h.keep λb i a=>d.2 b a λg=>by
  grind
def PS.part{p r e a c w b s}(h:jf p r e a c w s)(hB:a7 b p 166 #[SR (some r),Su Sw s.t.kind,Su Sw s.t.at_,Su SC s.t.b0,Su SC s.t.b1,Su SC s.t.b2,Su SC s.t.b3,Su Sw s.t.least,Su Sw s.t.most,AS (gH e s.t.bad),Su Sw (s.n+1),Su Sw s.g])(i:Kp w.heap.size [p] w b):jf p r e a c b ⟨s.ts,s.t,s.n+1,s.g⟩:=⟨hB,by
 have⟨g,d,f⟩:=h.chan;exact⟨g,d,(i.2 r h.lt.2.1 λj=>h.lt.2.2 (Sx.1 j).symm).trans f⟩⟩
def M8{p r e l G f}(hq:∀f'<f,Does T 161 p r e l G (ik f')):Does T 143 p r e l G (gm f):=by
 intro d s w x g hP;cases f with
 |zero=>simp[gm]at g
 |succ f=>
 unfold gm at g;obtain⟨y,hy,hxy⟩:∃y,ik f d s=some y/\bN (some y) (λk s=>fP f k s)=some x:=by
  cases hp:ik f d s with
  |none=>rw[hp]at g;cases g
  |some y=>rw[hp]at g;exact⟨y,rfl,g⟩
 have hlt:=hP.lt;refine bu trivial (λ_=>Post.no) (PA.func Tryz.func143 (by decide)) rfl ?_;simp only[Tryz.ntmps143,SS,SL,T4,Tb,Ta,SN,SM,SU,SP,T0,SX];refine ac λK hK=> ?_
 refine ag λw1 he=> ?_
 have hP1:=AI (hP.af he);have hK1:=AI ((Kp.refl w:Kp w.heap.size [p,r] w w).af he);go_wp2;refine hK.out _ _ ?_;refine ac λK hK=> ?_
 refine ao ?_;show aV _ _ _ (SD 0 (2+2)) ..;refine aW 0 2 2 (λN hN w2 he2=> ?_) (by decide);simp only[zq1];have hP2:=AI (hP1.out.af he2);have C:=AI (hK1.out.af he2);go_wp2;refine hN.out _ _ ?_;refine bF (f:=161) (R:=Post p r e l G w2.heap.size w2 y) (i:=2) (rest:=SD 3 (1+0)) rfl rfl λu=>by simp[go_sem] trivial (hq f (by omega) d s w2 y hy hP2.out) (λv w3 j=> ?_) λch w3 j=> ?_
 rotate_left
 .cases y with
  |ok k W=>obtain⟨_,h,_⟩:=j;cases h
  |err e1 W=>
   obtain⟨a,ha,hP8,hK8,hE8⟩:=j;cases ha;cases Option.some.inj hxy;exact⟨rfl,_,rfl,hP8,eD C.out hK8 (Sv _),hE8.mono C.out.1⟩
 cases y with
 |err e1 W=>obtain⟨_,h,_⟩:=j;cases h
 |ok k W=>
 obtain⟨v',hv',hP3,hK3,M⟩:=j;cases hv';have I3:vu p r e l G w.heap.size w k W v w3:=⟨hP3,eD C.out hK3 (Sv _),M.mono λb P _=>T8 C.out.1 P⟩;simp only[Sz,zq0];refine aW 3 1 0 (λN hN w4 he4=> ?_) (by decide);simp only[zq1];have I4:=AI (I3.af he4);go_wp2;refine hN.out _ _ (az (hK.out _ _ ?_));refine ac λK hK=> ?_
 refine ec (m9 (λm a w'=>∃k c v,(∃u6 u7 u8 u9 u10 u11 u12 u13 u14 u15 u16 u17 u18 u19 u20 u21 u22 u23 u24 u25 u26 u27 u28 u29 u30 u31 u32 u33 u34 u35 u36 u37 u38 u39 u40 u41 u42 u43 u44 u45,a=⟨#[AS (some ⟨p,0,none⟩),Su Sw d,undef,undef,SE,v,u6,u7,u8,u9,u10,u11,u12,u13,u14,u15,u16,u17,u18,u19,u20,u21,u22,u23,u24,u25,u26,u27,u28,u29,u30,u31,u32,u33,u34,u35,u36,u37,u38,u39,u40,u41,u42,u43,u44,u45],[]⟩)/\fP m k c=some x/\vu p r e l G w.heap.size w k c v w'/\m<=f) f ⟨_,_,_,⟨_,_,_,_,_,_,_,_,_,_,_,_,_,_,_,_,_,_,_,_,_,_,_,_,_,_,_,_,_,_,_,_,_,_,_,_,_,_,_,_,rfl⟩,hxy,I4.out,Sv _⟩ ?_);rintro m a w5 ⟨k,c,v,⟨u6,u7,u8,u9,u10,u11,u12,u13,u14,u15,u16,u17,u18,u19,u20,u21,u22,u23,u24,u25,u26,u27,u28,u29,u30,u31,u32,u33,u34,u35,u36,u37,u38,u39,u40,u41,u42,u43,u44,u45,rfl⟩,g,I5,hm⟩;cases m with
 |zero=>simp[fP]at g
 |succ m=>
 unfold fP at g;refine ac λL hL=> ?_
 by_cases h7:c.t.kind=7
 .rw[if_pos h7]at g;have b7:(c.t.kind==7)=true:=by simp[h7]
  refine ag λw6 I=> ?_
  have X:=AI (I5.af I);have D:=X.out.ps.blk;have c1_:w6.cell? ⟨p,1,none⟩=some (Su Sw c.t.kind):=D.cell 1;go_wp2;refine hL.out _ _ ?_;refine ec ?_;refine ac λL hL=> ?_
  by_cases P:c.t.bad=true
  .rw[if_pos P]at g;cases Option.some.inj g;refine ag λw7 q=> ?_
   have A:=AI (X.out.af q);have E:=A.out.ps.blk;have c9_:w7.cell? ⟨p,9,none⟩=some (AS (some ⟨e,0,none⟩)):=by have:=E.cell 9;rw[P]at this;exact this
   go_wp2;exact⟨rfl,_,rfl,A.out.ps,A.out.kp,by rw[P];rfl⟩
  .rw[if_neg P]at g;have hb':c.t.bad=false:=by simpa using P
   refine ag λw7 q=> ?_
   have A:=AI (X.out.af q);have E:=A.out.ps.blk;have c9_:w7.cell? ⟨p,9,none⟩=some (AS none):=by have:=E.cell 9;rw[hb']at this;exact this
   go_wp2;refine hL.out _ _ ?_;rcases kD g with⟨e1,W,Q,_⟩|⟨id,W,Q,g⟩
   .exact absurd (fM Q).1 (by simp)
   obtain⟨Q,hn1,hn2⟩:=fM Q;simp only[eJ.ok.injEq]at Q;obtain⟨rfl,rfl⟩:=Q;refine ac λL hL=> ?_
   refine ag λw8 he8=> ?_
   have S:=AI (A.out.af he8);have H:=S.out.ps.blk;have c7_:w8.cell? ⟨p,7,none⟩=some (Su Sw c.t.least):=H.cell 7;have c8_:w8.cell? ⟨p,8,none⟩=some (Su Sw c.t.most):=H.cell 8;have hB8':=AI H;obtain⟨vt,vq,rfl⟩:=S.out.rep.form;go_region_held3 (λw'=>w'.cell? ⟨p,7,none⟩=some (Su Sw c.t.least)/\w'.cell? ⟨p,8,none⟩=some (Su Sw c.t.most)) (first |go_keep|exact⟨F.cell 7,F.cell 8⟩) (first |(go_at_call 101;refine(jU p _ c.n _ _ _ _ _ _ _ _ _ _ _ hn1 (by omega) (a7.drew hB8'.out)).mono ?_;rintro e9 w9 ⟨rfl,F,hK9⟩))
   refine hL.out _ _ ?_;have Z:jf p r e l G w9 ⟨c.ts,c.t,c.n+1,c.g⟩:=PS.part (hB:=F) (h:=S.out.ps) (hK9.mono (Sv _) λx g _=>g);have t:Kp w8.heap.size [p,r] w8 w9:=hK9.mono (Sv _) λx g _=>SI.2 (.inl (Sx.1 g))
   have hl9:=Z.lt;have hz9:=(eD S.out.kp t (Sv _)).1;have I9:vu p r e l G w.heap.size w (.rep (c.n+1) k c.t.least c.t.most) ⟨c.ts,c.t,c.n+1,c.g⟩ (Sy 277 (AS (some ⟨w9.heap.size,0,none⟩))) (w9.alloc (SG #[Su Sw (c.n+1),Sy vt (AS (some ⟨vq,0,none⟩)),Su Sw c.t.least,Su Sw c.t.most] 279)):=
    ⟨Z.keep (Below.heap_alloc _ _ _ hl9.1) (Below.heap_alloc _ _ _ hl9.2.1),(eD S.out.kp t (Sv _)).alloc (Sv _) _,
     .rep hz9 (a7.new ..) ((Az S.out.rep t (by omega) (by omega)).keep λb _ hlt=>Below.heap_alloc _ _ _ hlt)⟩
   generalize w9.alloc _=w10 at I9 ⊢;refine ao ?_;show aV _ _ _ (SD 0 (1+1)) ..;refine aW 0 1 1 (λN hN w11 he11=> ?_) (by decide);simp only[zq1];have B:=AI (I9.af he11);go_wp2;refine hN.out _ _ ?_;obtain⟨z,hz,hxz⟩:∃z,cy ⟨c.ts,c.t,c.n+1,c.g⟩=some z/\bN (some z) (λ_ s2=>fP m (.rep (c.n+1) k c.t.least c.t.most) s2)=some x:=by
    cases hp:cy ⟨c.ts,c.t,c.n+1,c.g⟩with
    |none=>rw[hp]at g;cases g
    |some z=>rw[hp]at g;exact⟨z,rfl,g⟩
   refine bF (f:=76) (i:=1) (rest:=[]) rfl rfl λu=>by simp[go_sem] trivial (mf hz B.out.ps) (λu w12 j=> ?_) λch w12 j=> ?_
   .obtain⟨n,j⟩:=j;cases z with
    |err e2 s2=>obtain⟨_,_,h⟩:=j;cases h
    |ok _ s2=>
     refine az ?_;simp only[Sz,zq0];exact⟨m,SK m,_,_,_,⟨_,_,_,_,_,_,_,_,_,_,_,_,_,_,_,_,_,_,_,_,_,_,_,_,_,_,_,_,_,_,_,_,_,_,_,_,_,_,_,_,rfl⟩,hxz,⟨j.1,eD B.out.kp n (Sv _),Az B.out.rep n (by omega) (by omega)⟩,by omega⟩
   .obtain⟨n,j⟩:=j;cases z with
    |ok _ s2=>have⟨_,h⟩:=j;cases h
    |err e2 s2=>
     obtain⟨rfl,hP12,hch⟩:=j;cases hch;cases Option.some.inj hxz;exact⟨rfl,_,rfl,hP12,eD B.out.kp n (Sv _),rfl⟩
 .rw[if_neg h7]at g;cases Option.some.inj g;have b7:(c.t.kind==7)=false:=by simpa using h7
  refine ag λw6 I=> ?_
  have X:=AI (I5.af I);have D:=X.out.ps.blk;have c1_:w6.cell? ⟨p,1,none⟩=some (Su Sw c.t.kind):=D.cell 1;go_wp2;refine hK.out _ _ ?_;refine ag λw7 q=> ?_
  have A:=AI (X.out.af q);go_wp2;go_ret;exact⟨_,rfl,A.out.ps,A.out.kp,A.out.rep⟩
def NX{p r e P tm f}(hq:∀f'<f,Does T 175 p r e P tm (iy f')):Does T 161 p r e P tm (ik f):=by
 intro d s w x c hP;cases f with
 |zero=>simp[ik]at c
 |succ f=>
 unfold ik at c;have hlt:=hP.lt;refine bu trivial (λ_=>Post.no) (PA.func Tryz.func161 (by decide)) rfl ?_;simp only[Tryz.ntmps161,SS,SL,T4,Tb,Ta,SN,SM,SU,SP,T0,SX];refine ac λK hK=> ?_
 refine ag λw1 he=> ?_
 have hP1:=AI (hP.af he);have hK1:=AI ((Kp.refl w:Kp w.heap.size [p,r] w w).af he);go_wp2;refine hK.out _ _ ?_;clear hK K;refine ac λK hK=> ?_
 refine ag λB he2=> ?_
 have hP2:=AI (hP1.out.af he2);have hK2:=AI (hK1.out.af he2);have l:=hP2.out.blk;have f_w2:∀i,B.frozen? ⟨p,i,none⟩=false:=l.frozen;have c0_w2:B.cell? ⟨p,0,none⟩=some (SR (some r)):=l.cell 0;have c1_w2:B.cell? ⟨p,1,none⟩=some _:=l.cell 1;have c2_w2:B.cell? ⟨p,2,none⟩=some _:=l.cell 2;have c3_w2:B.cell? ⟨p,3,none⟩=some _:=l.cell 3;have c4_w2:B.cell? ⟨p,4,none⟩=some _:=l.cell 4;have c5_w2:B.cell? ⟨p,5,none⟩=some _:=l.cell 5;have c6_w2:B.cell? ⟨p,6,none⟩=some _:=l.cell 6;have c7_w2:B.cell? ⟨p,7,none⟩=some _:=l.cell 7;have c8_w2:B.cell? ⟨p,8,none⟩=some _:=l.cell 8;have c9_w2:B.cell? ⟨p,9,none⟩=some _:=l.cell 9;have c10_w2:B.cell? ⟨p,10,none⟩=some _:=l.cell 10;have c11_w2:B.cell? ⟨p,11,none⟩=some _:=l.cell 11;clear he2 he hP1 hK1 hP l;go_wp2;refine hK.out _ _ ?_;clear f_w2 c0_w2 c1_w2 c2_w2 c3_w2 c4_w2 c5_w2 c6_w2 c7_w2 c8_w2 c9_w2 c10_w2 c11_w2;clear hK K;have hl2:=hP2.out.lt;have hz2:=hK2.out.1;have hP3:jf p r e P tm (B.alloc (SG #[Su Sw s.t.kind,Su Sw s.t.at_,Su SC s.t.b0,Su SC s.t.b1,Su SC s.t.b2,Su SC s.t.b3,Su Sw s.t.least,Su Sw s.t.most,AS (gH e s.t.bad)] 164)) s:=hP2.out.keep (Below.heap_alloc _ _ _ hl2.1) (Below.heap_alloc _ _ _ hl2.2.1);have hK3:=hK2.out.alloc (Sv _) (SG #[Su Sw s.t.kind,Su Sw s.t.at_,Su SC s.t.b0,Su SC s.t.b1,Su SC s.t.b2,Su SC s.t.b3,Su Sw s.t.least,Su Sw s.t.most,AS (gH e s.t.bad)] 164);have X:=a7.new B 164 #[Su Sw s.t.kind,Su Sw s.t.at_,Su SC s.t.b0,Su SC s.t.b1,Su SC s.t.b2,Su SC s.t.b3,Su Sw s.t.least,Su Sw s.t.most,AS (gH e s.t.bad)];have hq3:w.heap.size<=B.heap.size:=hz2;clear hP2 hK2 hl2 hz2;generalize B.alloc _=w3 at hP3 hK3 X ⊢;generalize B.heap.size=q at X hq3 ⊢;refine ac λK hK=> ?_
 by_cases h4:s.t.kind=4
 .rw[if_pos h4]at c;have b4:(s.t.kind==4)=true:=by simp[h4]
  refine ac λL hL=> ?_
  refine ag λw4 A=> ?_
  have hP4:=AI (hP3.af A);have hK4:=AI (hK3.af A);have c0_:w4.cell? ⟨q,0,none⟩=some (Su Sw s.t.kind):=(X.af A).cell 0;clear A hP3 hK3 X;go_wp2;refine hL.out _ _ ?_;clear hL L c0_;refine bG rfl ?_;refine ac λL hL=> ?_
  refine ao ?_;show aV _ _ _ (SD 0 (2+2)) ..;refine aW 0 2 2 (λN hN w5 H=> ?_) (by decide);simp only[zq1];have hP5:=AI (hP4.out.af H);have y:=AI (hK4.out.af H);clear H hP4 hK4;go_wp2;refine hN.out _ _ ?_;clear hN N;refine bF (f:=175) (R:=Post p r e P tm w5.heap.size w5 x) (i:=2) (rest:=SD 3 (1+0)) rfl rfl λu=>by simp[go_sem] trivial (hq f (by omega) d s w5 x c hP5.out) (λv w6 Q=> ?_) λch w6 Q=> ?_
  .cases x with
   |err e1 s1=>obtain⟨_,h,_⟩:=Q;cases h
   |ok k s1=>
    obtain⟨v',hv',hP6,Z,hrep6⟩:=Q;cases hv';have I6:vu p r e P tm w.heap.size w k s1 v w6:=⟨hP6,eD y.out Z (Sv _),hrep6.mono λb hb _=>T8 y.out.1 hb⟩;clear hP6 Z hrep6 hP5 y;simp only[Sz,zq0];refine aW 3 1 0 (λN hN w7 he7=> ?_) (by decide);simp only[zq1];have I7:=AI (I6.af he7);clear he7 I6;go_wp2;refine hN.out _ _ (az (hL.out _ _ ?_));clear hN N hL L;refine ag λw8 he8=> ?_
    have I8:=AI (I7.out.af he8);clear he8 I7;go_wp2;go_ret;exact⟨_,rfl,I8.out.ps,I8.out.kp,I8.out.rep⟩
  .cases x with
   |ok k s1=>obtain⟨_,h,_⟩:=Q;cases h
   |err e1 s1=>
    obtain⟨a,ha,hP8,hK8,hE8⟩:=Q;cases ha;exact⟨rfl,_,rfl,hP8,eD y.out hK8 (Sv _),hE8.mono y.out.1⟩
 .rw[if_neg h4]at c;have b4:(s.t.kind==4)=false:=by simpa using h4
  refine ag λw4 A=> ?_
  have hP4:=AI (hP3.af A);have hK4:=AI (hK3.af A);have hB4:=AI (X.af A);have c0_:w4.cell? ⟨q,0,none⟩=some (Su Sw s.t.kind):=hB4.out.cell 0;clear A hP3 hK3 X;go_wp2;refine hK.out _ _ ?_;clear hK K c0_;refine ac λK hK=> ?_
  refine ao ?_;show aV _ _ _ (SD 0 (1+1)) ..;refine aW 0 1 1 (λN hN w5 H=> ?_) (by decide);simp only[zq1];have hP5:=AI (hP4.out.af H);have y:=AI (hK4.out.af H);have hB5:=AI (hB4.out.af H);clear H hP4 hK4 hB4;go_wp2;refine hN.out _ _ ?_;clear hN N;obtain⟨z,hz,hxz⟩:∃z,cy s=some z/\bN (some z) (λ_ s'=>bN (gn s') λid s'=>if s.t.kind=2 then some (.ok (.edge id false) s')else if s.t.kind=3 then some (.ok (.edge id true) s')else some (.ok (.set id s.t.b0 s.t.b1 s.t.b2 s.t.b3) s'))=some x:=by
   cases hp:cy s with
   |none=>rw[hp]at c;cases c
   |some z=>rw[hp]at c;exact⟨z,rfl,c⟩
  refine bF (f:=76) (i:=1) (rest:=[]) rfl rfl λu=>by simp[go_sem] trivial (mf hz hP5.out) (λu w6 Q=> ?_) λch w6 Q=> ?_
  rotate_left
  .obtain⟨hK12,Q⟩:=Q;cases z with
   |ok _ C=>obtain⟨_,h⟩:=Q;cases h
   |err e2 C=>
    obtain⟨rfl,hP12,hch⟩:=Q;cases hch;cases Option.some.inj hxz;exact⟨rfl,_,rfl,hP12,eD y.out hK12 (Sv _),rfl⟩
  obtain⟨Z,Q⟩:=Q;cases z with
  |err e2 C=>obtain⟨_,_,h⟩:=Q;cases h
  |ok _ C=>
  refine az ?_;simp only[Sz,zq0];refine hK.out _ _ ?_;clear hK K;have hP6:=Q.1;have hB6:a7 w6 q 164 _:=hB5.out.kp Z hB5.out.lt (by
   intro c;rcases SI.1 c with rfl|c
   .omega
   .have:=Sx.1 c;omega)
  have hK6':=eD y.out Z (Sv _);clear Q Z hP5 y hB5 hz c;dsimp only[bN]at hxz;rcases kD hxz with⟨e1,s1,h1,_⟩|⟨id,s1,h1,c⟩
  .exact absurd (fM h1).1 (by simp)
  have⟨h1,hn1,hn2⟩:=fM h1;simp only[eJ.ok.injEq]at h1;obtain⟨rfl,rfl⟩:=h1;refine ag λw7 he7=> ?_
  have hP7:=AI (hP6.af he7);have W:=AI (hK6'.af he7);have g:=AI (hB6.af he7);have hT7:=AI hP7.out.blk;have d0_:w7.cell? ⟨q,0,none⟩=some (Su Sw s.t.kind):=g.out.cell 0;have d2_:w7.cell? ⟨q,2,none⟩=some (Su SC s.t.b0):=g.out.cell 2;have d3_:w7.cell? ⟨q,3,none⟩=some (Su SC s.t.b1):=g.out.cell 3;have d4_:w7.cell? ⟨q,4,none⟩=some (Su SC s.t.b2):=g.out.cell 4;have d5_:w7.cell? ⟨q,5,none⟩=some (Su SC s.t.b3):=g.out.cell 5;have F:p≠q:=by omega
  by_cases h2:s.t.kind=2
  .rw[if_pos h2]at c;cases Option.some.inj c;have b2:(s.t.kind==2)=true:=by simp[h2]
   have b3:(s.t.kind==3)=false:=by simp[h2]
   clear h2;go_wp2;go_region_held3 (λw'=>w'.cell? ⟨q,0,none⟩=some (Su Sw s.t.kind)/\w'.cell? ⟨q,2,none⟩=some (Su SC s.t.b0)) (first |go_keep|exact⟨(g.out.drew.kp j g.out.lt λc=>F (Sx.1 c).symm).cell 0,(g.out.drew.kp j g.out.lt λc=>F (Sx.1 c).symm).cell 2⟩) (first |(go_at_call 101;refine(jU p _ C.n _ _ _ _ _ _ _ _ _ _ _ hn1 (by omega) (a7.drew hT7.out)).mono ?_;rintro e9 S ⟨rfl,hB9,j⟩))
   have D:jf p r e P tm S ⟨C.ts,C.t,C.n+1,C.g⟩:=PS.part (hB:=hB9) (h:=hP7.out) (j.mono (Sv _) λx c _=>c);have m:Kp w7.heap.size [p,r] w7 S:=j.mono (Sv _) λx c _=>SI.2 (.inl (Sx.1 c))
   have M:=D.lt;have hz9:=(eD W.out m (Sv _)).1;have I:=λo=>D.keep (Below.heap_alloc S o _ M.1) (Below.heap_alloc S o _ M.2.1)
   have E:=λo=>(eD W.out m (Sv _)).alloc (Sv _) o
   have t:=AI I;have n:=AI E;have G:=AI hz9
   (try simp only[Exit.then,TV])
   go_wp2;go_ret;exact⟨_,rfl,t.out _,n.out _,.edge G.out (a7.new ..)⟩
  .rw[if_neg h2]at c;by_cases h3:s.t.kind=3
   .rw[if_pos h3]at c;cases Option.some.inj c;have b2:(s.t.kind==2)=false:=by simp[h3]
    have b3:(s.t.kind==3)=true:=by simp[h3]
    clear h3 h2;go_wp2;go_region_held3 (λw'=>w'.cell? ⟨q,0,none⟩=some (Su Sw s.t.kind)/\w'.cell? ⟨q,2,none⟩=some (Su SC s.t.b0)) (first |go_keep|exact⟨(g.out.drew.kp j g.out.lt λc=>F (Sx.1 c).symm).cell 0,(g.out.drew.kp j g.out.lt λc=>F (Sx.1 c).symm).cell 2⟩) (first |(go_at_call 101;refine(jU p _ C.n _ _ _ _ _ _ _ _ _ _ _ hn1 (by omega) (a7.drew hT7.out)).mono ?_;rintro e9 S ⟨rfl,hB9,j⟩))
    have D:jf p r e P tm S ⟨C.ts,C.t,C.n+1,C.g⟩:=PS.part (hB:=hB9) (h:=hP7.out) (j.mono (Sv _) λx c _=>c);have m:Kp w7.heap.size [p,r] w7 S:=j.mono (Sv _) λx c _=>SI.2 (.inl (Sx.1 c))
    have M:=D.lt;have hz9:=(eD W.out m (Sv _)).1;have I:=λo=>D.keep (Below.heap_alloc S o _ M.1) (Below.heap_alloc S o _ M.2.1)
    have E:=λo=>(eD W.out m (Sv _)).alloc (Sv _) o
    have t:=AI I;have n:=AI E;have G:=AI hz9
    (try simp only[Exit.then,TV])
    go_wp2;go_ret;exact⟨_,rfl,t.out _,n.out _,.edge G.out (a7.new ..)⟩
   .rw[if_neg h3]at c;cases Option.some.inj c;have b2:(s.t.kind==2)=false:=by simpa using h2
    have b3:(s.t.kind==3)=false:=by simpa using h3
    go_wp2;go_region_held3 (λw'=>w'.cell? ⟨q,2,none⟩=some (Su SC s.t.b0)/\w'.cell? ⟨q,3,none⟩=some (Su SC s.t.b1)/\w'.cell? ⟨q,4,none⟩=some (Su SC s.t.b2)/\w'.cell? ⟨q,5,none⟩=some (Su SC s.t.b3)) (first |go_keep|exact⟨(g.out.drew.kp j g.out.lt λc=>F (Sx.1 c).symm).cell 2,(g.out.drew.kp j g.out.lt λc=>F (Sx.1 c).symm).cell 3,(g.out.drew.kp j g.out.lt λc=>F (Sx.1 c).symm).cell 4,(g.out.drew.kp j g.out.lt λc=>F (Sx.1 c).symm).cell 5⟩) (first |(go_at_call 101;refine(jU p _ C.n _ _ _ _ _ _ _ _ _ _ _ hn1 (by omega) (a7.drew hT7.out)).mono ?_;rintro e9 S ⟨rfl,hB9,j⟩))
    have D:jf p r e P tm S ⟨C.ts,C.t,C.n+1,C.g⟩:=PS.part (hB:=hB9) (h:=hP7.out) (j.mono (Sv _) λx c _=>c);have m:Kp w7.heap.size [p,r] w7 S:=j.mono (Sv _) λx c _=>SI.2 (.inl (Sx.1 c))
    have M:=D.lt;have hz9:=(eD W.out m (Sv _)).1;have I:=λo=>D.keep (Below.heap_alloc S o _ M.1) (Below.heap_alloc S o _ M.2.1)
    have E:=λo=>(eD W.out m (Sv _)).alloc (Sv _) o
    have t:=AI I;have n:=AI E;have G:=AI hz9
    (try simp only[Exit.then,TV])
    go_wp2;go_ret;exact⟨_,rfl,t.out _,n.out _,.set G.out (a7.new ..)⟩
def Gt{w:SH}{d e b n v j}(h:w.ownsRow d e b v n j):∃a c,v=Ts a n c:=by
 rcases h.2 with⟨rfl,rfl⟩|⟨g,i,f,rfl,_⟩<;>exact⟨_,_,rfl⟩
def Nq{p r e cap tm f}(hq:∀f'<f,Does T 143 p r e cap tm (gm f')):Does T 102 p r e cap tm (kS f):=by
 intro d s w x G hP;cases f with
 |zero=>simp[kS]at G
 |succ f=>
 unfold kS at G;rcases kD G with⟨e1,s1,h1,_⟩|⟨id,s1,h1,G⟩
 .exact absurd (fM h1).1 (by simp)
 obtain⟨h1,hn1,hn2⟩:=fM h1;simp only[eJ.ok.injEq]at h1;obtain⟨rfl,rfl⟩:=h1;refine bu trivial (λ_=>Post.no) (PA.func Tryz.func102 (by decide)) rfl ?_;simp only[Tryz.ntmps102,SS,SL,T4,Tb,Ta,SN,SM,SU,SP,T0,SX];refine ac (λK hK=> ?_);refine ag (λw1 he=> ?_);have hP1:=AI (hP.af he);have hK1:=AI ((Kp.refl w:Kp w.heap.size [p,r] w w).af he);go_wp2;refine hK.out _ _ ?_;clear hK K;refine ac (λK hK=> ?_);refine ag (λw2 he2=> ?_);have hP2:=AI (hP1.out.af he2);have hK2:=AI (hK1.out.af he2);go_wp2_with (go_at_call 101;refine(jU p w2 s.n _ _ _ _ _ _ _ _ _ _ _ hn1 (by omega) hP2.out.blk).mono ?_;rintro e2 w3 ⟨rfl,hB3,hK3⟩)
 refine hK.out _ _ ?_;clear hK K;have D:=hP2.out.lt;have e1:=congrArg SY he;have e2:=congrArg SY he2;have hKA:Kp w.heap.size [p,r] w w3:=hK2.out.trans (hK3.mono (by omega) (λx G _=>SI.2 (.inl (Sx.1 G))));have hsz:=hKA.1;have hP3:jf p r e cap tm w3 ⟨s.ts,s.t,s.n+1,s.g⟩:=⟨hB3,by
  obtain⟨sn,rc,hc⟩:=hP2.out.chan;exact⟨sn,rc,(hK3.2 r D.2.1 (λh=>D.2.2 (Sx.1 h).symm)).trans hc⟩⟩
 have hpr:=hP3.lt;have H:lQ 260 p r e cap tm w.heap.size w (s.n+1) w3.heap.size [] ⟨s.ts,s.t,s.n+1,s.g⟩ (Ts none 0 0) (w3.alloc (SG #[Su Sw (s.n+1),Ts none 0 0] 260)):=
  ⟨hP3.keep (Below.heap_alloc _ _ _ hpr.1) (Below.heap_alloc _ _ _ hpr.2.1),hKA.alloc (Sv _) _,hsz,a7.new _ _ _,Kids.nil _ _ _⟩
 clear hP hP1 hP2 hK1 hK2 hK3 hB3 hP3 hKA;generalize w3.alloc (SG #[Su Sw (s.n+1),Ts none 0 0] 260)=w4 at H ⊢;generalize w3.heap.size=q at H ⊢;generalize s.n+1=id at G H;refine ec (m9 (λm a w'=>∃ks t sl q,(∃u6 u7 u8 u9 u10 u11 u12 u13 u14 u15 u16 u17 u18 u19 u20 u21 u22 u23 u24 u25 u26 u27 u28 u29 u30 u31 u32 u33 u34 u35 u36 u37 u38 u39 u40 u41 u42 u43 u44 u45 u46 u47 u48 u49 u50 u51 u52 u53 u54 u55 u56 u57 u58 u59 u60 u61 u62 u63 u64 u65 u66 u67 u68 u69 u70 u71,a=⟨#[AS (some ⟨p,0,none⟩),Su Sw d,undef,undef,SE,AS (some ⟨q,0,none⟩),u6,u7,u8,u9,u10,u11,u12,u13,u14,u15,u16,u17,u18,u19,u20,u21,u22,u23,u24,u25,u26,u27,u28,u29,u30,u31,u32,u33,u34,u35,u36,u37,u38,u39,u40,u41,u42,u43,u44,u45,u46,u47,u48,u49,u50,u51,u52,u53,u54,u55,u56,u57,u58,u59,u60,u61,u62,u63,u64,u65,u66,u67,u68,u69,u70,u71],[]⟩)/\jP m d id ks t=some x/\lQ 260 p r e cap tm w.heap.size w id q ks t sl w'/\m<=f) f ⟨_,_,_,_,⟨_,_,_,_,_,_,_,_,_,_,_,_,_,_,_,_,_,_,_,_,_,_,_,_,_,_,_,_,_,_,_,_,_,_,_,_,_,_,_,_,_,_,_,_,_,_,_,_,_,_,_,_,_,_,_,_,_,_,_,_,_,_,_,_,_,_,rfl⟩,G,H,Sv _⟩ ?_);clear G H hn1 hn2;rintro m a w5 ⟨ks,t,sl,q,⟨u6,u7,u8,u9,u10,u11,u12,u13,u14,u15,u16,u17,u18,u19,u20,u21,u22,u23,u24,u25,u26,u27,u28,u29,u30,u31,u32,u33,u34,u35,u36,u37,u38,u39,u40,u41,u42,u43,u44,u45,u46,u47,u48,u49,u50,u51,u52,u53,u54,u55,u56,u57,u58,u59,u60,u61,u62,u63,u64,u65,u66,u67,u68,u69,u70,u71,rfl⟩,G,H,hm⟩;cases m with
 |zero=>simp[jP]at G
 |succ m=>
 unfold jP at G;obtain⟨i0,hi0,hz0,hz1,hz2⟩:=info_parts AZ;have hNodes:=AY;refine ec ?_;refine vy (λK hK hKr=> ?_);obtain⟨vs,M,hv2,hv3,hv4⟩:=H.kids;obtain⟨sa,sc,hsl⟩:=Gt M;subst hsl;by_cases Z:t.t.kind=0\/t.t.kind=6\/t.t.kind=5
 .rw[if_pos Z]at G;have hK0:(t.t.kind==0)=true\/((t.t.kind==0)=false/\(t.t.kind==6)=true)\/((t.t.kind==0)=false/\(t.t.kind==6)=false/\(t.t.kind==5)=true):=by
   rcases Z with h|h|h<;>simp[h]
  by_cases h5:t.t.kind=5/\d=0
  .rw[if_pos h5]at G;cases Option.some.inj G;have b0:(t.t.kind==0)=false:=by simp[h5.1]
   have b6:(t.t.kind==6)=false:=by simp[h5.1]
   have b5:(t.t.kind==5)=true:=by simp[h5.1]
   have bd:(d==0)=true:=by simp[h5.2]
   clear hK0 Z hv4 G M hv3;refine ag (λE n=> ?_);have c:=AI (H.af n);have g:=c.out.ps.blk;have c1_:E.cell? ⟨p,1,none⟩=some (Su Sw t.t.kind):=g.cell 1;have c2_:E.cell? ⟨p,2,none⟩=some (Su Sw t.t.at_):=g.cell 2;have cq_:E.cell? ⟨q,1,none⟩=some _:=c.out.blk.cell 1;clear g n H;go_wp2_with (go_at_call 142;refine(jX _ _ _ _).mono ?_;rintro e7 w7 ⟨rfl,rfl⟩)
   exact⟨rfl,_,rfl,c.out.ps.keep (Below.heap_alloc _ _ _ c.out.ps.lt.1) (Below.heap_alloc _ _ _ c.out.ps.lt.2.1),c.out.kp.alloc (Sv _) _,_,rfl,c.out.kp.1,a7.new _ _ _⟩
  .rw[if_neg h5]at G;have bd:(t.t.kind==5)=false\/(d==0)=false:=by
    rcases Classical.not_and_iff_not_or_not.1 h5 with h|h
    .exact .inl (by simpa using h)
    .exact .inr (by simpa using h)
   by_cases hks:ks.length=0
   .rw[if_pos hks]at G;cases Option.some.inj G;have hvl:vs.length=0:=by omega
    rw[hvl]at H;clear Z hv4 G M hv3 h5;rcases hK0 with b0|⟨b0,b6⟩|⟨b0,b6,b5⟩
    .have b5:(t.t.kind==5)=false:=by simp[show t.t.kind=0 by simpa using b0]
     clear bd;refine ag (λE n=> ?_);have c:=AI (H.af n);have g:=c.out.ps.blk;have c1_:E.cell? ⟨p,1,none⟩=some (Su Sw t.t.kind):=g.cell 1;have c2_:E.cell? ⟨p,2,none⟩=some (Su Sw t.t.at_):=g.cell 2;have cq_:E.cell? ⟨q,1,none⟩=some _:=c.out.blk.cell 1;clear g n H;go_wp2_with (go_at_call 142;refine(jX _ _ _ _).mono ?_;rintro e7 w7 ⟨rfl,rfl⟩)
     exact⟨rfl,_,rfl,c.out.ps.keep (Below.heap_alloc _ _ _ c.out.ps.lt.1) (Below.heap_alloc _ _ _ c.out.ps.lt.2.1),c.out.kp.alloc (Sv _) _,_,rfl,c.out.kp.1,a7.new _ _ _⟩
    .have b5:(t.t.kind==5)=false:=by simp[show t.t.kind=6 by simpa using b6]
     clear bd;refine ag (λE n=> ?_);have c:=AI (H.af n);have g:=c.out.ps.blk;have c1_:E.cell? ⟨p,1,none⟩=some (Su Sw t.t.kind):=g.cell 1;have c2_:E.cell? ⟨p,2,none⟩=some (Su Sw t.t.at_):=g.cell 2;have cq_:E.cell? ⟨q,1,none⟩=some _:=c.out.blk.cell 1;clear g n H;go_wp2_with (go_at_call 142;refine(jX _ _ _ _).mono ?_;rintro e7 w7 ⟨rfl,rfl⟩)
     exact⟨rfl,_,rfl,c.out.ps.keep (Below.heap_alloc _ _ _ c.out.ps.lt.1) (Below.heap_alloc _ _ _ c.out.ps.lt.2.1),c.out.kp.alloc (Sv _) _,_,rfl,c.out.kp.1,a7.new _ _ _⟩
    .have bd':(d==0)=false:=bd.resolve_left (by simp[b5]);clear bd;refine ag (λE n=> ?_);have c:=AI (H.af n);have g:=c.out.ps.blk;have c1_:E.cell? ⟨p,1,none⟩=some (Su Sw t.t.kind):=g.cell 1;have c2_:E.cell? ⟨p,2,none⟩=some (Su Sw t.t.at_):=g.cell 2;have cq_:E.cell? ⟨q,1,none⟩=some _:=c.out.blk.cell 1;clear g n H;go_wp2_with (go_at_call 142;refine(jX _ _ _ _).mono ?_;rintro e7 w7 ⟨rfl,rfl⟩)
     exact⟨rfl,_,rfl,c.out.ps.keep (Below.heap_alloc _ _ _ c.out.ps.lt.1) (Below.heap_alloc _ _ _ c.out.ps.lt.2.1),c.out.kp.alloc (Sv _) _,_,rfl,c.out.kp.1,a7.new _ _ _⟩
   .rw[if_neg hks]at G;cases Option.some.inj G;have hvl:((vs.length:Int)==0)=false:=by
     have:(vs.length:Int)≠0:=by omega
     simpa using this
    have hvl2:(vs.length==0)=false:=by
     have:vs.length≠0:=by omega
     simpa using this
    clear Z hv4 G M hv3 h5;rcases hK0 with b0|⟨b0,b6⟩|⟨b0,b6,b5⟩
    .have b5:(t.t.kind==5)=false:=by simp[show t.t.kind=0 by simpa using b0]
     clear bd;refine ag (λE n=> ?_);have c:=AI (H.af n);have g:=c.out.ps.blk;have c1_:E.cell? ⟨p,1,none⟩=some (Su Sw t.t.kind):=g.cell 1;have c2_:E.cell? ⟨p,2,none⟩=some (Su Sw t.t.at_):=g.cell 2;have cq_:E.cell? ⟨q,1,none⟩=some _:=c.out.blk.cell 1;clear g n H;go_wp2;go_ret;exact⟨_,rfl,c.out.ps,c.out.kp,c.out.kids.seq c.out.lt c.out.blk⟩
    .have b5:(t.t.kind==5)=false:=by simp[show t.t.kind=6 by simpa using b6]
     clear bd;refine ag (λE n=> ?_);have c:=AI (H.af n);have g:=c.out.ps.blk;have c1_:E.cell? ⟨p,1,none⟩=some (Su Sw t.t.kind):=g.cell 1;have c2_:E.cell? ⟨p,2,none⟩=some (Su Sw t.t.at_):=g.cell 2;have cq_:E.cell? ⟨q,1,none⟩=some _:=c.out.blk.cell 1;clear g n H;go_wp2;go_ret;exact⟨_,rfl,c.out.ps,c.out.kp,c.out.kids.seq c.out.lt c.out.blk⟩
    .have bd':(d==0)=false:=bd.resolve_left (by simp[b5]);clear bd;refine ag λE n=> ?_
     have c:=AI (H.af n);have g:=c.out.ps.blk;have c1_:E.cell? ⟨p,1,none⟩=some (Su Sw t.t.kind):=g.cell 1;have c2_:E.cell? ⟨p,2,none⟩=some (Su Sw t.t.at_):=g.cell 2;have cq_:E.cell? ⟨q,1,none⟩=some _:=c.out.blk.cell 1;clear g n H;go_wp2;go_ret;exact⟨_,rfl,c.out.ps,c.out.kp,c.out.kids.seq c.out.lt c.out.blk⟩
 .rw[if_neg Z]at G;have b0:(t.t.kind==0)=false:=by simpa usingλh=>Z (.inl h)
  have b6:(t.t.kind==6)=false:=by simpa usingλh=>Z (.inr (.inl h))
  have b5:(t.t.kind==5)=false:=by simpa usingλh=>Z (.inr (.inr h))
  clear Z hv4 M;by_cases h7:t.t.kind=7
  .rw[if_pos h7]at G;cases Option.some.inj G;have b7:(t.t.kind==7)=true:=by simp[h7]
   clear G hv3;refine ag λE n=> ?_
   have c:=AI (H.af n);have g:=c.out.ps.blk;have c1_:E.cell? ⟨p,1,none⟩=some (Su Sw t.t.kind):=g.cell 1;have c2_:E.cell? ⟨p,2,none⟩=some (Su Sw t.t.at_):=g.cell 2;have cq_:E.cell? ⟨q,1,none⟩=some _:=c.out.blk.cell 1;clear g n H;go_wp2_with (go_at_call 142;refine(jX _ _ _ _).mono ?_;rintro e7 w7 ⟨rfl,rfl⟩)
   exact⟨rfl,_,rfl,c.out.ps.keep (Below.heap_alloc _ _ _ c.out.ps.lt.1) (Below.heap_alloc _ _ _ c.out.ps.lt.2.1),c.out.kp.alloc (Sv _) _,_,rfl,c.out.kp.1,a7.new _ _ _⟩
  .rw[if_neg h7]at G;have b7:(t.t.kind==7)=false:=by simpa using h7
   refine ag λE n=> ?_
   have c:=AI (H.af n);have g:=c.out.ps.blk;have c1_:E.cell? ⟨p,1,none⟩=some (Su Sw t.t.kind):=g.cell 1;clear g n H hv3;go_wp2;refine hK.out _ _ ?_;clear hK K hKr c1_ b0 b6 b5 b7 hv2;split at G;case isFalse=>cases G
   rename_i hlen;obtain⟨y,hy,hxy⟩:∃y,gm m d t=some y/\bN (some y) (λk s=>jP m d id (ks++[k]) s)=some x:=by
    cases hp:gm m d t with
    |none=>rw[hp]at G;cases G
    |some y=>rw[hp]at G;exact⟨y,rfl,G⟩
   clear G;have H:=c.out;clear c;generalize E=w5 at H ⊢;generalize Ts sa vs.length sc=sl at H ⊢;clear vs;refine IZ (λa w Y d ⟨m',h1,ks,t,sl,q,h2,h3,h4,h5⟩=>⟨m',h1,ks,t,sl,q,h2,h3,h4.af rfl,h5⟩) λK hK hKr=> ?_
   refine qg rfl ?_;show iL _ _ _ _ 13 #[false,false,false,false,false,false,false,false,false,false,false,false,false] ..;refine eI (i:=0) (v:=AS (some ⟨q,0,none⟩)) rfl (by decide+kernel) (by decide+kernel) (by decide+kernel) (λ_ _ _ h=>h) hKr.out (.inl ⟨rfl,λu=>by simp[go_sem]⟩) ?_;simp only[Sz,zq0];refine eI (i:=1) (v:=AS (some ⟨q,0,none⟩)) rfl (by decide+kernel) (by decide+kernel) (by decide+kernel) (λ_ _ _ h=>h) hKr.out (.inl ⟨rfl,λu=>by simp[go_sem]⟩) ?_;simp only[Sz,zq0];refine eI (i:=2) (v:=AS (some ⟨q,0,none⟩)) rfl (by decide+kernel) (by decide+kernel) (by decide+kernel) (λ_ _ _ h=>h) hKr.out (.inl ⟨rfl,λu=>by simp[go_sem]⟩) ?_;simp only[Sz,zq0];refine eI (i:=3) (v:=AS (some ⟨q,1,none⟩)) rfl (by decide+kernel) (by decide+kernel) (by decide+kernel) (λ_ _ _ h=>h) hKr.out (.inl ⟨rfl,λu=>by simp[go_sem]⟩) ?_;simp only[Sz,zq0];refine eI (i:=5) (v:=AS (some ⟨p,0,none⟩)) rfl (by decide+kernel) (by decide+kernel) (by decide+kernel) (λ_ _ _ h=>h) hKr.out (.inl ⟨rfl,λu=>by simp[go_sem]⟩) ?_;simp only[Sz,zq0];refine eI (i:=6) (v:=Su Sw d) rfl (by decide+kernel) (by decide+kernel) (by decide+kernel) (λ_ _ _ h=>h) hKr.out (.inl ⟨rfl,λu=>by simp[go_sem]⟩) ?_;simp only[Sz,zq0];try simp only[Sz,zq0]
   refine dr (rs:=[4,7]) (by decide+kernel) (by simp) ?_;intro i hi;simp only[SI,T9,or_false]at hi;rcases hi with rfl|rfl
   .refine jg.walk rfl λN hN E n=> ?_
    have c:=AI (H.af n);have c1:E.cell? ⟨q,1,none⟩=some sl:=c.out.blk.cell 1;go_wp2;refine hN.out _ _ ?_;clear hN N c1;try simp only[Sz,zq0]
    refine dr (rs:=[7]) (by decide+kernel) (by simp) ?_;intro i hi;simp only[SI,T9,or_false]at hi;subst hi;refine jg.call (f:=143) (R:=Post p r e cap tm E.heap.size E y) rfl rfl λu=>by simp[go_sem] trivial (hq m (by omega) d t E y hy c.out.ps) (λv w8 hr=> ?_) λch w8 hr=> ?_
    .cases y with
     |err e1 s1=>obtain⟨_,h,_⟩:=hr;cases h
     |ok k s1=>
      obtain⟨v',hv',hP7,hK7,L⟩:=hr;cases hv';have I7:=c.out.call (by omega) (by omega) (Sv _) hP7 hK7;have hC:=c.out.kp.1;have hqC:=c.out.blk.lt;have hsC:∀b,sl.ownBlock=some b->b<E.heap.size:=by
       obtain⟨vs,M,_⟩:=c.out.kids;exactλb e=>(eU M e).1
      generalize E.heap.size=C at hC hqC hsC L;clear hK7 hP7 c hy hq;have I8:=I7;have z:=L;clear I7 L;obtain⟨vs,M,hv2,hv3,hv4⟩:=I8.kids;obtain⟨vt,vq,rfl⟩:=z.form;try simp only[Sz,zq0]
      refine dr (rs:=[8]) (by decide+kernel) (by simp) ?_;intro i hi;obtain rfl:=Sx.1 hi;refine jg.walk rfl λN hN P F=> ?_
      have I9:=I8.af F;have Q:=z.keep (w':=P) λb _ _=>by rw[F]
      have S:=bt (w':=P) M λb _ _=>by rw[F]
      have hv49:∀(i:Nat) u x,vs[i]?=some u->ks[i]?=some x->Repr P _ u x:=λi u x h1 h2=>(hv4 i u x h1 h2).keep (w':=P) λb _ _=>by rw[F]
      have hsz9:P.heap.size=w8.heap.size:=congrArg SY F;have H1:=AI I9;have H2:=AI Q;have H3:=AI S;have H4:=AI hv49;have H5:=AI hsz9;have H6:=AI hv3;clear M hv4 z I8 F I9 Q S hv49 hsz9 hv3;go_wp2;refine hN.out _ _ ?_;clear hN N;have hn3:=H6.out;have hsz:=H1.out.kp.1;simp only[Sz,zq0];refine dr (rs:=[9]) (by decide+kernel) (by simp) ?_;intro i hi;obtain rfl:=Sx.1 hi;have I:=bt (w':=P.alloc (SG #[Sy vt (AS (some ⟨vq,0,none⟩))] 62)) H3.out λb _ D=>Below.heap_alloc _ _ b D
      have hv410:∀(i:Nat) u x,vs[i]?=some u->ks[i]?=some x->Repr (P.alloc (SG #[Sy vt (AS (some ⟨vq,0,none⟩))] 62)) _ u x:=λi u x h1 h2=>(H4.out i u x h1 h2).keep (w':=P.alloc (SG #[Sy vt (AS (some ⟨vq,0,none⟩))] 62)) λb _ D=>Below.heap_alloc _ _ b D
      have hrep10:=H2.out.keep (w':=P.alloc (SG #[Sy vt (AS (some ⟨vq,0,none⟩))] 62)) λb _ D=>Below.heap_alloc _ _ b D
      refine jg.walk rfl λN hN w11 l=> ?_
      have hn11:=λj u hu=>(jc l _).trans (lw P 62 (Sy vt (AS (some ⟨vq,0,none⟩))) j u hu)
      refine wpList_append_own_at _ rfl (Tw 64) (Tw 68) _ rfl w.heap.size 62 i0 SE 1 16 hNodes hi0 hz0 hz1 hz2 rfl (by decide) sl vs.length vs rfl (bt (w':=w11) I λb _ _=>by rw[l]) ⟨P.heap.size,0,none⟩ 1 1 [Sy vt (AS (some ⟨vq,0,none⟩))] rfl rfl hn11 (one_one H2.out.one) (by simp only[maxLen];omega) (by omega) (by rw[l];simp;omega) ?_;intro v' w10 B A _ hat;refine wpList_nil (hN.out _ _ ?_);clear hN N;obtain⟨va,vn,vc,rfl⟩:=slice_form B;simp only[Sz,zq0];refine lI (k:=10) (by decide+kernel) rfl λw12 X=> ?_
      simp only[SW,Td];have I13:=H1.out.grow (by omega) (by omega) (Sv _) H2.out hqC hsC hC l H3.out hv2 hn3 H4.out B A hat X;have W:a7 w12 q 260 #[Su Sw id,sl]:=by
       refine a7.af ?_ X;exact(A.block q (by rw[l];have:=H1.out.blk.lt;simp;omega) λe=>hv2 e.symm).trans ((congrArg (·[q]?) l).trans ((Below.heap_alloc _ _ _ H1.out.blk.lt).trans H1.out.blk))
      have hc12:w12.cell? ⟨q,1,none⟩=some sl:=W.cell 1;have hf12:w12.frozen? ⟨q,1,none⟩=false:=W.frozen 1;clear A B hat W hn11 I hv410 hrep10 X l H2 H3 H4 H5 H6 hv2 hn3 hsz H1 hqC hsC hC;have I13:=AI I13;go_wp2;refine hK.out _ _ ?_;clear hc12 hf12;generalize SQ .. =w13 at I13 ⊢;exact⟨m,SK m,_,_,_,_,⟨_,_,_,_,_,_,_,_,_,_,_,_,_,_,_,_,_,_,_,_,_,_,_,_,_,_,_,_,_,_,_,_,_,_,_,_,_,_,_,_,_,_,_,_,_,_,_,_,_,_,_,_,_,_,_,_,_,_,_,_,_,_,_,_,_,_,rfl⟩,hxy,I13.out,by omega⟩
    .cases y with
     |ok k s1=>obtain⟨_,h,_⟩:=hr;cases h
     |err e1 s1=>
      obtain⟨a,ha,hP8,hK8,hE8⟩:=hr;cases ha;cases Option.some.inj hxy;exact⟨rfl,_,rfl,hP8,c.out.kp.trans (hK8.mono c.out.kp.1 λx G _=>G),hE8.mono c.out.kp.1⟩
   .refine jg.call (f:=143) (R:=Post p r e cap tm w5.heap.size w5 y) rfl rfl λu=>by simp[go_sem] trivial (hq m (by omega) d t w5 y hy H.ps) (λv w7 hr=> ?_) λch w7 hr=> ?_
    .cases y with
     |err e1 s1=>obtain⟨_,h,_⟩:=hr;cases h
     |ok k s1=>
      obtain⟨v',hv',hP7,hK7,L⟩:=hr;cases hv';have I7:=H.call (by omega) (by omega) (Sv _) hP7 hK7;have hC:=H.kp.1;have hqC:=H.blk.lt;have hsC:∀b,sl.ownBlock=some b->b<w5.heap.size:=by
       obtain⟨vs,M,_⟩:=H.kids;exactλb e=>(eU M e).1
      generalize w5.heap.size=C at hC hqC hsC L;clear hK7 hP7 H hy hq;try simp only[Sz,zq0]
      refine dr (rs:=[4,8]) (by decide+kernel) (by simp) ?_;intro i hi;simp only[SI,T9,or_false]at hi;rcases hi with rfl|rfl
      .refine jg.walk rfl λN hN w8 he8=> ?_
       have I8:=I7.af he8;have z:=L.keep (w':=w8) λb _ _=>by rw[he8]
       have c1:w8.cell? ⟨q,1,none⟩=some sl:=I8.blk.cell 1;clear I7 L he8;have I8':=AI I8;have hrep':=AI z;clear I8 z;go_wp2;refine hN.out _ _ ?_;clear hN N c1;have I8:=I8'.out;have z:=hrep'.out;clear I8' hrep';obtain⟨vs,M,hv2,hv3,hv4⟩:=I8.kids;obtain⟨vt,vq,rfl⟩:=z.form;try simp only[Sz,zq0]
       refine dr (rs:=[8]) (by decide+kernel) (by simp) ?_;intro i hi;obtain rfl:=Sx.1 hi;refine jg.walk rfl λN hN P F=> ?_
       have I9:=I8.af F;have Q:=z.keep (w':=P) λb _ _=>by rw[F]
       have S:=bt (w':=P) M λb _ _=>by rw[F]
       have hv49:∀(i:Nat) u x,vs[i]?=some u->ks[i]?=some x->Repr P _ u x:=λi u x h1 h2=>(hv4 i u x h1 h2).keep (w':=P) λb _ _=>by rw[F]
       have hsz9:P.heap.size=w8.heap.size:=congrArg SY F;have H1:=AI I9;have H2:=AI Q;have H3:=AI S;have H4:=AI hv49;have H5:=AI hsz9;have H6:=AI hv3;clear M hv4 z I8 F I9 Q S hv49 hsz9 hv3;go_wp2;refine hN.out _ _ ?_;clear hN N;have hn3:=H6.out;have hsz:=H1.out.kp.1;simp only[Sz,zq0];refine dr (rs:=[9]) (by decide+kernel) (by simp) ?_;intro i hi;obtain rfl:=Sx.1 hi;have I:=bt (w':=P.alloc (SG #[Sy vt (AS (some ⟨vq,0,none⟩))] 62)) H3.out λb _ D=>Below.heap_alloc _ _ b D
       have hv410:∀(i:Nat) u x,vs[i]?=some u->ks[i]?=some x->Repr (P.alloc (SG #[Sy vt (AS (some ⟨vq,0,none⟩))] 62)) _ u x:=λi u x h1 h2=>(H4.out i u x h1 h2).keep (w':=P.alloc (SG #[Sy vt (AS (some ⟨vq,0,none⟩))] 62)) λb _ D=>Below.heap_alloc _ _ b D
       have hrep10:=H2.out.keep (w':=P.alloc (SG #[Sy vt (AS (some ⟨vq,0,none⟩))] 62)) λb _ D=>Below.heap_alloc _ _ b D
       refine jg.walk rfl λN hN w11 l=> ?_
       have hn11:=λj u hu=>(jc l _).trans (lw P 62 (Sy vt (AS (some ⟨vq,0,none⟩))) j u hu)
       refine wpList_append_own_at _ rfl (Tw 64) (Tw 68) _ rfl w.heap.size 62 i0 SE 1 16 hNodes hi0 hz0 hz1 hz2 rfl (by decide) sl vs.length vs rfl (bt (w':=w11) I λb _ _=>by rw[l]) ⟨P.heap.size,0,none⟩ 1 1 [Sy vt (AS (some ⟨vq,0,none⟩))] rfl rfl hn11 (one_one H2.out.one) (by simp only[maxLen];omega) (by omega) (by rw[l];simp;omega) ?_;intro v' w10 B A _ hat;refine wpList_nil (hN.out _ _ ?_);clear hN N;obtain⟨va,vn,vc,rfl⟩:=slice_form B;simp only[Sz,zq0];refine lI (k:=10) (by decide+kernel) rfl λw12 X=> ?_
       simp only[SW,Td];have I13:=H1.out.grow (by omega) (by omega) (Sv _) H2.out hqC hsC hC l H3.out hv2 hn3 H4.out B A hat X;have W:a7 w12 q 260 #[Su Sw id,sl]:=by
        refine a7.af ?_ X;exact(A.block q (by rw[l];have:=H1.out.blk.lt;simp;omega) λe=>hv2 e.symm).trans ((congrArg (·[q]?) l).trans ((Below.heap_alloc _ _ _ H1.out.blk.lt).trans H1.out.blk))
       have hc12:w12.cell? ⟨q,1,none⟩=some sl:=W.cell 1;have hf12:w12.frozen? ⟨q,1,none⟩=false:=W.frozen 1;clear A B hat W hn11 I hv410 hrep10 X l H2 H3 H4 H5 H6 hv2 hn3 hsz H1 hqC hsC hC;have I13:=AI I13;go_wp2;refine hK.out _ _ ?_;clear hc12 hf12;generalize SQ .. =w13 at I13 ⊢;exact⟨m,SK m,_,_,_,_,⟨_,_,_,_,_,_,_,_,_,_,_,_,_,_,_,_,_,_,_,_,_,_,_,_,_,_,_,_,_,_,_,_,_,_,_,_,_,_,_,_,_,_,_,_,_,_,_,_,_,_,_,_,_,_,_,_,_,_,_,_,_,_,_,_,_,_,rfl⟩,hxy,I13.out,by omega⟩
      .have I8:=I7;have z:=L;clear I7 L;obtain⟨vs,M,hv2,hv3,hv4⟩:=I8.kids;obtain⟨vt,vq,rfl⟩:=z.form;refine jg.walk rfl λN hN P F=> ?_
       have I9:=I8.af F;have Q:=z.keep (w':=P) λb _ _=>by rw[F]
       have S:=bt (w':=P) M λb _ _=>by rw[F]
       have hv49:∀(i:Nat) u x,vs[i]?=some u->ks[i]?=some x->Repr P _ u x:=λi u x h1 h2=>(hv4 i u x h1 h2).keep (w':=P) λb _ _=>by rw[F]
       have hsz9:P.heap.size=w7.heap.size:=congrArg SY F;have H1:=AI I9;have H2:=AI Q;have H3:=AI S;have H4:=AI hv49;have H5:=AI hsz9;have H6:=AI hv3;clear M hv4 z I8 F I9 Q S hv49 hsz9 hv3;go_wp2;refine hN.out _ _ ?_;have hn3:=H6.out;have hsz:=H1.out.kp.1;simp only[Sz,zq0];refine dr (rs:=[4]) (by decide+kernel) (by simp) ?_;intro i hi;obtain rfl:=Sx.1 hi;refine jg.walk rfl λN hN wm hem=> ?_
       have c1m:wm.cell? ⟨q,1,none⟩=some sl:=(jc hem _).trans ((TJ _ _ ⟨q,1,none⟩ H1.out.blk.lt).trans (H1.out.blk.cell 1));have hem':=AI hem;go_wp2;refine hN.out _ _ ?_;simp only[Sz,zq0];refine dr (rs:=[9]) (by decide+kernel) (by simp) ?_;intro i hi;obtain rfl:=Sx.1 hi;have I:=bt (w':=P.alloc (SG #[Sy vt (AS (some ⟨vq,0,none⟩))] 62)) H3.out λb _ D=>Below.heap_alloc _ _ b D
       have hv410:∀(i:Nat) u x,vs[i]?=some u->ks[i]?=some x->Repr (P.alloc (SG #[Sy vt (AS (some ⟨vq,0,none⟩))] 62)) _ u x:=λi u x h1 h2=>(H4.out i u x h1 h2).keep (w':=P.alloc (SG #[Sy vt (AS (some ⟨vq,0,none⟩))] 62)) λb _ D=>Below.heap_alloc _ _ b D
       have hrep10:=H2.out.keep (w':=P.alloc (SG #[Sy vt (AS (some ⟨vq,0,none⟩))] 62)) λb _ D=>Below.heap_alloc _ _ b D
       refine jg.walk rfl λN hN w11 he11'=> ?_
       have l:=he11'.trans hem'.out;have hn11:=λj u hu=>(jc l _).trans (lw P 62 (Sy vt (AS (some ⟨vq,0,none⟩))) j u hu)
       refine wpList_append_own_at _ rfl (Tw 64) (Tw 68) _ rfl w.heap.size 62 i0 SE 1 16 hNodes hi0 hz0 hz1 hz2 rfl (by decide) sl vs.length vs rfl (bt (w':=w11) I λb _ _=>by rw[l]) ⟨P.heap.size,0,none⟩ 1 1 [Sy vt (AS (some ⟨vq,0,none⟩))] rfl rfl hn11 (one_one H2.out.one) (by simp only[maxLen];omega) (by omega) (by rw[l];simp;omega) ?_;intro v' w10 B A _ hat;refine wpList_nil (hN.out _ _ ?_);obtain⟨va,vn,vc,rfl⟩:=slice_form B;simp only[Sz,zq0];refine lI (k:=10) (by decide+kernel) rfl λw12 X=> ?_
       simp only[SW,Td];have I13:=H1.out.grow (by omega) (by omega) (Sv _) H2.out hqC hsC hC l H3.out hv2 hn3 H4.out B A hat X;have W:a7 w12 q 260 #[Su Sw id,sl]:=by
        refine a7.af ?_ X;exact(A.block q (by rw[l];have:=H1.out.blk.lt;simp;omega) λe=>hv2 e.symm).trans ((congrArg (·[q]?) l).trans ((Below.heap_alloc _ _ _ H1.out.blk.lt).trans H1.out.blk))
       have hc12:w12.cell? ⟨q,1,none⟩=some sl:=W.cell 1;have hf12:w12.frozen? ⟨q,1,none⟩=false:=W.frozen 1;have I13:=AI I13;go_wp2;refine hK.out _ _ ?_;generalize SQ .. =w13 at I13 ⊢;exact⟨m,SK m,_,_,_,_,⟨_,_,_,_,_,_,_,_,_,_,_,_,_,_,_,_,_,_,_,_,_,_,_,_,_,_,_,_,_,_,_,_,_,_,_,_,_,_,_,_,_,_,_,_,_,_,_,_,_,_,_,_,_,_,_,_,_,_,_,_,_,_,_,_,_,_,rfl⟩,hxy,I13.out,by omega⟩
    .cases y with
     |ok k s1=>have⟨_,h,_⟩:=hr;cases h
     |err e1 s1=>
      have⟨a,ha,hP8,hK8,hE8⟩:=hr;cases ha;cases Option.some.inj hxy;exact⟨rfl,_,rfl,hP8,H.kp.trans (hK8.mono H.kp.1 λx G _=>G),hE8.mono H.kp.1⟩
def PS.groups{p r e a b w s}(h:jf p r e a b w s)(n):jf p r e a b (w.setCell ⟨p,11,none⟩ (Su Sw n)) ⟨s.ts,s.t,s.n,n⟩:=⟨by
 have:=h.blk.bI 11 (Su Sw n);simp_all,by
 have⟨f,c,d⟩:=h.chan;exact⟨f,c,BP d (p:=⟨p,11,none⟩) (SZ h.lt.2.2) _⟩⟩
def JC{p r e cap tm f}(hq:∀f'<f,Does T 77 p r e cap tm (im f')):Does T 175 p r e cap tm (iy f):=by
 intro d s w x n hP;cases f with
 |zero=>simp[iy]at n
 |succ f=>
 unfold iy at n;have hlt:=hP.lt;refine bu trivial (λ_=>Post.no) (PA.func Tryz.func175 (by decide)) rfl ?_;simp only[Tryz.ntmps175,SS,SL,T4,Tb,Ta,SN,SM,SU,SP,T0,SX];refine ac λK j=> ?_
 refine ag λw1 he=> ?_
 have hP1:=AI (hP.af he);have hK1:=AI ((Kp.refl w:Kp w.heap.size [p,r] w w).af he);go_wp2;refine j.out _ _ ?_;clear j K;refine ac λK j=> ?_
 refine ag λw2 he2=> ?_
 have hP2:=AI (hP1.out.af he2);have hK2:=AI (hK1.out.af he2);have c2_:w2.cell? ⟨p,2,none⟩=some (Su Sw s.t.at_):=hP2.out.blk.cell 2;clear he2 he hP1 hK1 hP;go_wp2;refine j.out _ _ ?_;clear j K c2_;refine ac λK j=> ?_
 by_cases h9:s.g=9
 .rw[if_pos h9]at n;cases Option.some.inj n;have b9:(s.g==9)=true:=by simp[h9]
  refine ag λw3 I=> ?_
  have F:=AI (hP2.out.af I);have hK3:=AI (hK2.out.af I);have D:w3.cell? ⟨p,11,none⟩=some (Su Sw s.g):=F.out.blk.cell 11;clear I hP2 hK2 h9;go_wp2_with (go_at_call 142;refine(jX _ _ _ _).mono ?_;rintro e7 w7 ⟨rfl,rfl⟩)
  exact⟨rfl,_,rfl,F.out.keep (Below.heap_alloc _ _ _ F.out.lt.1) (Below.heap_alloc _ _ _ F.out.lt.2.1),hK3.out.alloc (Sv _) _,_,rfl,hK3.out.1,a7.new _ _ _⟩
 rw[if_neg h9]at n;split at n;case isFalse=>cases n
 rename_i hd;obtain⟨hd1,hd2,hg1,hg2⟩:=hd;have b9:(s.g==9)=false:=by simpa using h9
 refine ag λw3 I=> ?_
 have F:=AI (hP2.out.af I);have hK3:=AI (hK2.out.af I);have D:w3.cell? ⟨p,11,none⟩=some (Su Sw s.g):=F.out.blk.cell 11;clear I hP2 hK2 h9;go_wp2;refine j.out _ _ ?_;clear j K D b9;refine ac λK j=> ?_
 refine ag λw4 he4=> ?_
 have hP4:=AI (F.out.af he4);have hK4:=AI (hK3.out.af he4);have D:w4.cell? ⟨p,11,none⟩=some (Su Sw s.g):=hP4.out.blk.cell 11;have f11_:w4.frozen? ⟨p,11,none⟩=false:=hP4.out.blk.frozen 11;clear he4 F hK3;go_wp2;refine j.out _ _ ?_;clear j K D f11_;have hP5:=hP4.out.groups (s.g+1);have hK5:=hK4.out.setCell (p:=⟨p,11,none⟩) (λ_=>TS) (Su Sw (s.g+1));clear hP4 hK4;generalize w4.setCell _ _=w5 at hP5 hK5 ⊢;rcases kD n with⟨e1,s1,h1,_⟩|⟨id,s1,h1,n⟩
 .exact absurd (fM h1).1 (by simp)
 obtain⟨h1,hn1,hn2⟩:=fM h1;simp only[eJ.ok.injEq]at h1;obtain⟨rfl,rfl⟩:=h1;dsimp only at hn1 hn2 n;refine ac λK j=> ?_
 refine ag λw6 he6=> ?_
 have hP6:=AI (hP5.af he6);have hK6:=AI (hK5.af he6);have hT6:=AI hP6.out.blk;have D:w6.cell? ⟨p,11,none⟩=some (Su Sw (s.g+1)):=hP6.out.blk.cell 11;have c0_:w6.cell? ⟨p,0,none⟩=some (SR (some r)):=hP6.out.blk.cell 0;clear he6 hP5 hK5;go_region_held3 (λw'=>w'.cell? ⟨p,11,none⟩=some (Su Sw (s.g+1))/\w'.cell? ⟨p,0,none⟩=some (SR (some r))) (first |go_keep|exact⟨hB9.cell 11,hB9.cell 0⟩) (first |(go_at_call 101;refine(jU p _ s.n _ _ _ _ _ _ _ _ _ _ _ hn1 (by omega) (a7.drew hT6.out)).mono ?_;rintro e9 w9 ⟨rfl,hB9,hK9⟩))
 refine j.out _ _ ?_;have hP9:jf p r e cap tm w9 ⟨s.ts,s.t,s.n+1,s.g+1⟩:=PS.part (s:=⟨s.ts,s.t,s.n,s.g+1⟩) (hB:=hB9) (h:=hP6.out) (hK9.mono (Sv _) λx n _=>n);have hK9':Kp w6.heap.size [p,r] w6 w9:=hK9.mono (Sv _) λx n _=>SI.2 (.inl (Sx.1 n))
 have hl9:=hP9.lt;have A:=eD hK6.out hK9' (Sv _);have hz9:=A.1;have hP10:=hP9.keep (Below.heap_alloc w9 (SG #[Su Sw (s.n+1),SE,Su Sw (s.g+1)] 303) _ hl9.1) (Below.heap_alloc w9 (SG #[Su Sw (s.n+1),SE,Su Sw (s.g+1)] 303) _ hl9.2.1);have A:=A.alloc (Sv _) (SG #[Su Sw (s.n+1),SE,Su Sw (s.g+1)] 303);have P:=a7.new w9 303 #[Su Sw (s.n+1),SE,Su Sw (s.g+1)];clear hB9 hK9 hP9 hK9' hl9 hP6 hK6 hT6 j K;generalize w9.alloc _=w10 at hP10 A P ⊢;generalize w9.heap.size=q at P hz9 ⊢;obtain⟨z,hz,t⟩:∃z,cy ⟨s.ts,s.t,s.n+1,s.g+1⟩=some z/\bN (some z) (λ_ s2=>bN (im f (d+1) s2) λk L=>if L.t.kind=5 then bN (cy L) λ_ s4=>some (.ok (.grp (s.n+1) k (s.g+1)) s4)else some (.err (.own 10 s.t.at_) L))=some x:=by
  cases hp:cy ⟨s.ts,s.t,s.n+1,s.g+1⟩with
  |none=>rw[hp]at n;cases n
  |some z=>rw[hp]at n;exact⟨z,rfl,n⟩
 clear n;refine ac λK j=> ?_
 refine ao ?_;show aV _ _ _ (SD 0 (1+1)) _ _;refine aW 0 1 1 (λN hN w11 X=> ?_) (by decide);simp only[zq1];have hP11:=AI (hP10.af X);have hK11:=AI (A.af X);have hB11:=AI (P.af X);clear X hP10 A P;go_wp2;refine hN.out _ _ ?_;clear hN N;refine bF (f:=76) (i:=1) (rest:=[]) rfl rfl λu=>by simp[go_sem] trivial (mf hz hP11.out) (λu w12 g=> ?_) λch w12 g=> ?_
 rotate_left
 .obtain⟨m,g⟩:=g;cases z with
  |ok _ s2=>obtain⟨_,h⟩:=g;cases h
  |err e2 s2=>
   obtain⟨rfl,hP12,hch⟩:=g;cases hch;cases Option.some.inj t;exact⟨rfl,_,rfl,hP12,eD hK11.out m (Sv _),rfl⟩
 obtain⟨m,g⟩:=g;cases z with
 |err e2 s2=>obtain⟨_,_,h⟩:=g;cases h
 |ok _ s2=>
 refine az ?_;simp only[Sz,zq0];refine j.out _ _ ?_;clear j K;have hqX:q∉[p,r]:=λn=>by
  rcases SI.1 n with rfl|n
  .omega
  .have:=Sx.1 n;omega
 have hP13:=g.1;have hB13:a7 w12 q 303 _:=hB11.out.kp m hB11.out.lt hqX;have hK13:=eD hK11.out m (Sv _);clear g m hP11 hK11 hB11 hz;dsimp only[bN]at t;obtain⟨y,hy,B⟩:∃y,im f (d+1) s2=some y/\bN (some y) (λk L=>if L.t.kind=5 then bN (cy L) λ_ s4=>some (.ok (.grp (s.n+1) k (s.g+1)) s4)else some (.err (.own 10 s.t.at_) L))=some x:=by
  cases hp:im f (d+1) s2 with
  |none=>rw[hp]at t;cases t
  |some z=>rw[hp]at t;exact⟨z,rfl,t⟩
 clear t;refine ac λK j=> ?_
 refine ao ?_;show aV _ _ _ (SD 0 (4+4)) _ _;refine aW 0 4 4 (λN hN w14 he14=> ?_) (by decide);simp only[zq1];have hP14:=AI (hP13.af he14);have H:=AI (hK13.af he14);have W:=AI (hB13.af he14);clear he14 hP13 hK13 hB13;go_wp2;refine hN.out _ _ ?_;clear hN N;refine bF (f:=77) (R:=Post p r e cap tm w14.heap.size w14 y) (i:=4) (rest:=SD 5 (3+0)) rfl rfl λu=>by simp[go_sem] trivial (hq f (by omega) (d+1) s2 w14 y hy hP14.out) (λv w15 g=> ?_) λch w15 g=> ?_
 rotate_left
 .cases y with
  |ok k s1=>obtain⟨_,h,_⟩:=g;cases h
  |err e1 s1=>
   obtain⟨a,ha,hP8,hK8,hE8⟩:=g;cases ha;cases Option.some.inj B;exact⟨rfl,_,rfl,hP8,eD H.out hK8 (Sv _),hE8.mono H.out.1⟩
 cases y with
 |err e1 s1=>obtain⟨_,h,_⟩:=g;cases h
 |ok k L=>
 obtain⟨v',hv',hP15,hK15,C⟩:=g;cases hv';dsimp only[bN]at B;have hB15:a7 w15 q 303 _:=W.out.kp hK15 W.out.lt hqX;have hq14:=W.out.lt;have hK15':=eD H.out hK15 (Sv _);have hz15:=H.out.1;obtain⟨vt,vq,rfl⟩:=C.form;clear hP14 H W hK15;simp only[Sz,zq0];refine aW 5 3 0 (λN hN G E=> ?_) (by decide);simp only[zq1];have S:=hB15.af E;have c1_:G.cell? ⟨q,1,none⟩=some SE:=S.cell 1;have f1_:G.frozen? ⟨q,1,none⟩=false:=S.frozen 1;have hB16':=AI S;have hP16:=AI (hP15.af E);have hK16:=AI (hK15'.af E);have hR16:=AI (C.keep (w':=G) λb _ _=>by rw[E]);clear E hP15 hK15' C hB15 S;go_wp2;refine hN.out _ _ (az (j.out _ _ ?_));clear hN N j K c1_ f1_;have hB17:a7 (G.setCell ⟨q,1,none⟩ (Sy vt (AS (some ⟨vq,0,none⟩)))) q 303 #[Su Sw (s.n+1),Sy vt (AS (some ⟨vq,0,none⟩)),Su Sw (s.g+1)]:=by
  have:=hB16'.out.bI 1 (Sy vt (AS (some ⟨vq,0,none⟩)));simpa only[Tu,TR,TQ]using this
 have hP17:=PS.keep (w':=G.setCell ⟨q,1,none⟩ (Sy vt (AS (some ⟨vq,0,none⟩)))) hP16.out (Below.heap_setCell _ ⟨q,1,none⟩ _ p (by show p≠q;omega)) (Below.heap_setCell _ ⟨q,1,none⟩ _ r (by show r≠q;omega));have Z:=hK16.out.setCell (p:=⟨q,1,none⟩) λh=>by have:q<w.heap.size:=h;omega (Sy vt (AS (some ⟨vq,0,none⟩)))
 have hR17:Repr (G.setCell ⟨q,1,none⟩ (Sy vt (AS (some ⟨vq,0,none⟩)))) (λb=>w.heap.size<=b) (Sy vt (AS (some ⟨vq,0,none⟩))) k:=(hR16.out.keep (w':=G.setCell ⟨q,1,none⟩ (Sy vt (AS (some ⟨vq,0,none⟩)))) λb hb _=>Below.heap_setCell _ ⟨q,1,none⟩ _ b (by show b≠q;omega)).mono λb hb _=>T8 hz15 hb
 clear hP16 hK16 hR16 hB16';generalize G.setCell _ _=w17 at hB17 hP17 Z hR17 ⊢;refine ac λK j=> ?_
 by_cases h5:L.t.kind=5
 .rw[if_pos h5]at B;have b5:(L.t.kind==5)=true:=by simp[h5]
  clear h5;refine ag λw18 c=> ?_
  have l:=AI (hP17.af c);have M:=AI (Z.af c);have hB18:=AI (hB17.af c);have hR18:=AI (hR17.keep (w':=w18) λb _ _=>by rw[c]);have c1_:w18.cell? ⟨p,1,none⟩=some (Su Sw L.t.kind):=l.out.blk.cell 1;go_wp2;refine j.out _ _ ?_;obtain⟨z,hz,t⟩:∃z,cy L=some z/\bN (some z) (λ_ s4=>some (.ok (.grp (s.n+1) k (s.g+1)) s4))=some x:=by
   cases hp:cy L with
   |none=>rw[hp]at B;cases B
   |some z=>rw[hp]at B;exact⟨z,rfl,B⟩
  refine ac λK j=> ?_
  refine ao ?_;show aV _ _ _ (SD 0 (1+1)) _ _;refine aW 0 1 1 (λN hN w19 he19=> ?_) (by decide);simp only[zq1];have hP19:=AI (l.out.af he19);have hK19:=AI (M.out.af he19);have hB19:=AI (hB18.out.af he19);have hR19:=AI (hR18.out.keep (w':=w19) λb _ _=>by rw[he19]);go_wp2;refine hN.out _ _ ?_;refine bF (f:=76) (i:=1) (rest:=[]) rfl rfl λu=>by simp[go_sem] trivial (mf hz hP19.out) (λu w20 g=> ?_) λch w20 g=> ?_
  rotate_left
  .obtain⟨m,g⟩:=g;cases z with
   |ok _ s4=>obtain⟨_,h⟩:=g;cases h
   |err e2 s4=>
    obtain⟨rfl,hP12,hch⟩:=g;cases hch;cases Option.some.inj t;exact⟨rfl,_,rfl,hP12,eD hK19.out m (Sv _),rfl⟩
  have⟨hK20,g⟩:=g;cases z with
  |err e2 s4=>have⟨_,_,h⟩:=g;cases h
  |ok _ s4=>
  cases Option.some.inj t;refine az ?_;simp only[Sz,zq0];refine j.out _ _ ?_;have hP20:=g.1;have hB20:a7 w20 q 303 _:=hB19.out.kp hK20 hB19.out.lt hqX;have hR20:=Az hR19.out hK20 (by omega) (by omega);have hK20':=eD hK19.out hK20 (Sv _);refine ag λw21 Q=> ?_
  have hP21:=AI (hP20.af Q);have hK21:=AI (hK20'.af Q);have hB21:=AI (hB20.af Q);have hR21:=AI (hR20.keep (w':=w21) λb _ _=>by rw[Q]);go_wp2;go_ret;exact⟨_,rfl,hP21.out,hK21.out,.grp hz9 hB21.out hR21.out⟩
 .rw[if_neg h5]at B;cases Option.some.inj B;have b5:(L.t.kind==5)=false:=by simpa using h5
  refine ag λw18 c=> ?_
  have l:=AI (hP17.af c);have M:=AI (Z.af c);have c1_:w18.cell? ⟨p,1,none⟩=some (Su Sw L.t.kind):=l.out.blk.cell 1;clear c hP17 Z hB17 hR17;go_wp2_with (go_at_call 142;refine(jX _ _ _ _).mono ?_;rintro e7 w7 ⟨rfl,rfl⟩)
  exact⟨rfl,_,rfl,l.out.keep (Below.heap_alloc _ _ _ l.out.lt.1) (Below.heap_alloc _ _ _ l.out.lt.2.1),M.out.alloc (Sv _) _,_,rfl,M.out.1,a7.new ..⟩
def JF{p r e a c}:∀f,Does T 77 p r e a c (im f):=by
 have g:∀f,Does T 77 p r e a c (im f)/\Does T 102 p r e a c (kS f)/\Does T 143 p r e a c (gm f)/\Does T 161 p r e a c (ik f)/\Does T 175 p r e a c (iy f):=by
  intro f;induction f using Nat.strongRecOn with
  |_ f d=>exact⟨Ns λb h=>(d b h).2.1,Nq λb h=>(d b h).2.2.1,M8 λb h=>(d b h).2.2.2.1,NX λb h=>(d b h).2.2.2.2,JC λb h=>(d b h).1⟩
 grind
end
abbrev cS:=Nat->Bool
def yf(S:cS)(i:Nat):Nat->Nat
 |0=>0
 |n+1=>2^n*(S (64*i+n)).toNat+yf S i n
def wd(S:cS)(i:Nat):Nat:=yf S i 64
theorem G7(S i n):yf S i n<2^n:=by
 induction n with
 |zero=>simp[yf]
 |succ n b=>
  have:(S (64*i+n)).toNat<=1:=Bool.toNat_le _;have a:2^n*(S (64*i+n)).toNat<=2^n*1:=Nat.mul_le_mul_left _ this;grind [yf]
def LF(S i n j):(yf S i n).testBit j=(decide (j<n)&&S (64*i+j)):=by
 induction n with
 |zero=>simp[yf]
 |succ n a=>
  grind [yf,Nat.testBit_two_pow_mul_add,G7]
def gi(S i):wd S i<2^64:=G7 S i 64
def jC(S i j):(wd S i).testBit j=(decide (j<64)&&S (64*i+j)):=LF S i 64 j
attribute [irreducible] wd
def oN(S i n)(b:n<2^64)(h:∀j,j<64->n.testBit j=S (64*i+j)):n=wd S i:=by
 apply Nat.eq_of_testBit_eq;intro j;rw[jC];by_cases a:j<64;simp[a,h j a];simp[a];exact TF (Th b (TK (by decide) (by omega)))
def wz(S:cS)(i:Nat):Int:=(wd S i:Int)
def lh(S i):0<=wz S i/\wz S i<18446744073709551616:=by
 have:=gi S i;unfold wz;omega
def wraps_u64(n)(b:0<=n)(a:n<2^64):IntKind.u64.wrap n=n:=by rw[IntKind.wrap_u64];omega
def u64_and(a b:Nat)(d:a<2^64)(c:b<2^64):bits .and SC (a:Int) (b:Int)=((a&&&b:Nat):Int):=(bits_nat SC 64 (by decide) wraps_u64 a b d c).1
def u64_or(a b:Nat)(d:a<2^64)(c:b<2^64):bits .or SC (a:Int) (b:Int)=((a|||b:Nat):Int):=(bits_nat SC 64 (by decide) wraps_u64 a b d c).2
def u64_xor(a b:Nat)(f:a<2^64)(e:b<2^64):bits .xor SC (a:Int) (b:Int)=((a^^^b:Nat):Int):=by
 have d:a%2^IntKind.u64.bits=a:=Tk f;have c:b%2^IntKind.u64.bits=b:=Tk e;simp[bits,d,c];exact wraps_u64 _ (TU _) (by have:=Nat.xor_lt_two_pow f e;omega)
def u64_andNot(a b:Nat)(f:a<2^64)(e:b<2^64):bits .andNot SC (a:Int) (b:Int)=((a&&& (b^^^2^64-1):Nat):Int):=by
 have c:a%2^IntKind.u64.bits=a:=Tk f;have g:b%2^IntKind.u64.bits=b:=Tk e;have h:(~~~ BitVec.ofNat IntKind.u64.bits b).toNat=b^^^2^64-1:=by
  apply Nat.eq_of_testBit_eq;intro j;rw[BitVec.testBit_toNat];rw[Tz,Te];by_cases d:j<64<;>first |(have:j<IntKind.u64.bits:=d;rw[BitVec.getLsbD_not,BitVec.getLsbD_ofNat];grind)|(have k:¬ j<IntKind.u64.bits:=d;grind)
 simp only[bits,BitVec.ofInt_natCast,BitVec.toNat_and,BitVec.toNat_ofNat,c,h];exact wraps_u64 _ (TU _) (by have i:a&&& (b^^^2^64-1)<=a:=Nat.and_le_left;omega)
def ins(S:cS)(k:Nat):cS:=λx=>S x||x==k
def del(S:cS)(k:Nat):cS:=λx=>S x&&x !=k
def comp(S:cS):cS:=λx=> !S x
def jd(S:cS)(lo hi:Nat):cS:=λx=>S x||(decide (lo<=x)&&decide (x<=hi))
def co:cS:=λ_=>false
def pm(S:cS):cS:=λx=>S x||(decide (65<=x/\x<=90)&&S (x+32))||(decide (97<=x/\x<=122)&&S (x-32))
def qd(i):wz co i=0:=by
 have:0=wd co i:=oN _ _ 0 (by decide) (by intro j a;simp[co]);unfold wz;omega
def nL{S T i}(h:∀j,j<64->S (64*i+j)=T (64*i+j)):wz S i=wz T i:=by
 have:wd S i=wd T i:=oN _ _ _ (gi ..) (by simp_all[jC]);simp[wz,this]
def G4(S i j)(b:j<64):bits .or SC (wz S i) ((2^j:Nat):Int)=wz (ins S (64*i+j)) i:=by
 have a:2^j<2^64:=Nat.pow_lt_pow_right (by decide) b;rw[wz,u64_or _ _ (gi ..) a];congr 1
 refine oN _ _ _ (Tc (gi ..) a) ?_;intro k c;simp[jC,ins];grind
def s8(S i a j)(b:j<64)(h:a≠i):wz (ins S (64*i+j)) a=wz S a:=nL (by
 grind [ins])
def N5(S):bits .andNot SC (wz S 0) 1024=wz (del S 10) 0:=by
 rw[wz,show(1024:Int)=(1024:Nat)from rfl,u64_andNot _ _ (gi ..) (by decide)];congr 1
 refine oN _ _ _ (Tt Nat.and_le_left (gi ..)) ?_;intro k a;simp only[TC,jC,Tz,Te,show 1024=2^10 from rfl,Nat.testBit_two_pow,del];grind
def nM(S i)(h:i≠0):wz (del S 10) i=wz S i:=nL (by
 grind [del])
def LA(S i):bits .xor SC 18446744073709551615 (wz S i)=wz (comp S) i:=by
 rw[wz,show(18446744073709551615:Int)=(18446744073709551615:Nat)from rfl,u64_xor _ _ (by decide) (gi ..)];congr 1
 refine oN _ _ _ (Nat.xor_lt_two_pow (by decide) (gi ..)) ?_;intro k a;rw[Tz,jC,show 18446744073709551615=2^64-1 from rfl,Te];simp[a,comp]
def Dp(S T i):bits .or SC (wz S i) (wz T i)=wz (λx=>S x||T x) i:=by
 rw[wz,wz,u64_or _ _ (gi ..) (gi ..)];congr 1
 refine oN _ _ _ (Tc (gi ..) (gi ..)) ?_;simp_all[jC]
def G5(S i j)(b:j<64):bits .and SC (wz S i/ ((2^j:Nat):Int)) 1=if S (64*i+j)then 1 else 0:=by
 have a:wz S i/ (2^j:Nat)=(wd S i/2^j:Nat):=by norm_cast
 rw[a,show(1:Int)=(1:Nat)from rfl,u64_and _ _ (Tt (Nat.div_le_self ..) (gi ..)) (by decide)];have c:=jC S i j;grind
def Lz(S):bits .or SC (wz S 1) (bits .or SC (IntKind.u64.wrap (bits .and SC (wz S 1) 134217726*4294967296)) (bits .and SC (wz S 1/4294967296) 134217726))=wz (pm S) 1:=by
 have g:(134217726:Int)=((134217726:Nat):Int):=rfl;have c:∀j,(134217726:Nat).testBit j=decide (1<=j/\j<=26):=by
  intro j;by_cases m:j<27;have:∀j,j<27->(134217726:Nat).testBit j=decide (1<=j/\j<=26):=by decide
  grind
  rw[TF (Th (by decide:134217726<2^27) (TK (by decide) (by omega)))];grind
 have e:bits .and SC (wz S 1) 134217726=((wd S 1&&&134217726:Nat):Int):=by rw[wz,g,u64_and _ _ (gi ..) (by decide)]
 have l:wd S 1&&&134217726<2^27:=TP _ (by decide);have f:IntKind.u64.wrap (((wd S 1&&&134217726:Nat):Int)*4294967296)=(((wd S 1&&&134217726)<<<32:Nat):Int):=by
  rw[Nat.shiftLeft_eq,wraps_u64];exact(Int.natCast_mul _ 4294967296).symm;omega;omega
 have b:(wd S 1&&&134217726)<<<32<2^64:=by omega
 have d:bits .and SC (wz S 1/4294967296) 134217726=((wd S 1>>>32&&&134217726:Nat):Int):=by
  have:wz S 1/ (4294967296:Int)=((wd S 1>>>32:Nat):Int):=by simp[wz,Tv]
  rw[this,g,u64_and _ _ _ (by decide)];rw[Tv];exact Tt (Nat.div_le_self ..) (gi ..)
 have a:wd S 1>>>32&&&134217726<2^64:=Th (TP _ (by decide:134217726<2^27)) (by decide);rw[e,f,d,u64_or _ _ b a,wz,u64_or _ _ (gi ..) (Tc b a),wz];congr 1
 refine oN _ _ _ (Tc (gi ..) (Tc b a)) ?_;intro k h;simp[Nat.testBit_or,Nat.testBit_or,Nat.testBit_shiftLeft,TC,TC,Nat.testBit_shiftRight,jC,jC,jC,c,pm];by_cases i:1<=k/\k<=26;grind
 grind
def mw(S i)(h:i≠1):wz (pm S) i=wz S i:=nL (by
 grind [pm])
def words(S:cS):Array SV:=#[Su SC (wz S 0),Su SC (wz S 1),Su SC (wz S 2),Su SC (wz S 3)]
def r9(v:Nat):List UInt8->Option Nat
 |[]=>some v
 |c::b=>if c.toNat<48\/57<c.toNat then none else r9 (min (10*v+(c.toNat-48)) 21) b
def iJ(l:List UInt8):Nat×Bool:=match r9 0 l with|none=>(0,false)|some v=>(v,!l.isEmpty&&decide (v<=20))
def Mi{v l n}(h:r9 v l=some n)(a:v<=21):n<=21:=by
 induction l generalizing v with
 |nil=>simp[r9]at h;omega
 |cons c d b=>
  grind [r9]
def Mh(l):(iJ l).1<=21:=by
 unfold iJ;split;simp;next v h=>exact Mi h (by decide)
def fG(c:Nat):Int:=if c=40 then 4 else if c=41 then 5 else if c=124 then 6 else if c=94 then 2 else if c=36 then 3 else -1
def eN:List (List UInt8×List UInt8):=[
 ([97,108,110,117,109],[97,122,65,90,48,57]),
 ([97,108,112,104,97],[97,122,65,90]),
 ([98,108,97,110,107],[32,32,9,9]),
 ([99,110,116,114,108],[0,31,127,127]),
 ([100,105,103,105,116],[48,57]),
 ([103,114,97,112,104],[33,126]),
 ([108,111,119,101,114],[97,122]),
 ([112,114,105,110,116],[32,126]),
 ([112,117,110,99,116],[33,47,58,64,91,96,123,126]),
 ([115,112,97,99,101],[9,13,32,32]),
 ([117,112,112,101,114],[65,90]),
 ([120,100,105,103,105,116],[48,57,97,102,65,70])]
def px(S:cS):List UInt8->cS
 |c::b::t=>px (jd S c.toNat b.toNat) t
 |_=>S
structure mP where
 t:Tok
 wr:Option (Int×Int)
 more:Bool
 p:Nat
def ly(k a:Int):Tok:=⟨k,a,0,0,0,0,0,0,false⟩
def iI(a:Int)(S:cS):Tok:=⟨1,a,wz S 0,wz S 1,wz S 2,wz S 3,0,0,false⟩
def od(c a b:Int)(d:Bool):Tok:=⟨7,c,0,0,0,0,a,b,d⟩
def Fy(a:Int):Tok:=⟨8,a,0,0,0,0,0,0,true⟩
def ez(k a:Int)(p:Nat):mP:=⟨Fy a,some (k,a),false,p⟩
def dU(rest:List UInt8):Int×Int×Bool×Nat:=
 if T5 rest 125<0 then(0,0,false,0)else
  let c:=TI (rest.take (T5 rest 125).toNat) [44]
  let n:=(T5 rest 125).toNat+1
  if c.2.2=false then((iJ c.1).1,(iJ c.1).1,(iJ c.1).2,n)
  else if c.2.1=[]then((iJ c.1).1,-1,(iJ c.1).2,n)
  else((iJ c.1).1,(iJ c.2.1).1,(iJ c.1).2&& (iJ c.2.1).2&&decide ((iJ c.1).1<=(iJ c.2.1).1),n)
def dS(c p:Nat)(rest:List UInt8):mP:=
 if c=42 then⟨od p 0 (-1) false,none,true,p+1⟩
 else if c=43 then⟨od p 1 (-1) false,none,true,p+1⟩
 else if c=63 then⟨od p 0 1 false,none,true,p+1⟩
 else
  let b:=dU rest
  ⟨od p b.1 b.2.1 (!b.2.2.1),if b.2.2.1 then none else some (7,p),b.2.2.1,p+1+b.2.2.2⟩
def jE(S:cS)(rest:List UInt8):Option (cS×Nat):=
 let c:=TI (rest.drop 2) [58,93]
 if rest.getD 1 0≠58\/c.2.2=false then none else
  match eN.find? (λx=>x.1==c.1)with
  |none=>none
  |some x=>some (px S x.2,c.1.length+4)
def uK(c a d:Bool)(S:cS):cS:=
 let b:=if a then pm S else S
 if d then(if c then del (comp b) 10 else comp b)else b
def jk(h c:Bool)(l:List UInt8)(g:Bool)(d:Nat):Nat->Bool->cS->Nat->Option mP
 |0,_,_,_=>none
 |f+1,e,S,p=>
  match l.drop p with
  |[]=>some (ez 4 d p)
  |a::r=>
   if a=93/\e=false then some ⟨iI d (uK h c g S),none,true,p+1⟩
   else if 0<r.length/\a=91/\0<=T5 [58,46,61] (r.getD 0 0)then
    match jE S (a::r)with
    |none=>some (ez 5 p p)
    |some x=>jk h c l g d f false x.1 (p+x.2)
   else if 1<r.length/\r.getD 0 0=45/\r.getD 1 0≠93 then
    if(r.getD 1 0).toNat<a.toNat then some (ez 6 p p)
    else jk h c l g d f false (jd S a.toNat (r.getD 1 0).toNat) (p+3)
   else jk h c l g d f false (jd S a.toNat a.toNat) (p+1)
def ET(d a:Bool)(l:List UInt8)(b p:Nat):Option mP:=
 let c:=Tj (l.drop p) [94]
 jk d a l c b (l.length+1) true co (if c then p+1 else p)
def wH(a:Bool)(S:cS):cS:=if a then del S 10 else S
def yP(a:Bool)(S:cS):cS:=if a then pm S else S
def Km:List UInt8:=[40,41,91,46,94,36,92,124,42,43,63,123,93,125]
def eB(b a:Bool)(l:List UInt8)(p:Nat):Option mP:=
 match l.drop p with
 |[]=>some ⟨ly 0 p,none,false,p⟩
 |c::r=>
  if 0<=fG c.toNat then some ⟨ly (fG c.toNat) p,none,true,p+1⟩
  else if c=42\/c=43\/c=63\/c=123 then some (dS c.toNat p r)
  else if c=91 then ET b a l p (p+1)
  else if c=46 then some ⟨iI p (wH b (jd co 0 255)),none,true,p+1⟩
  else if c=92 then
   match r with
   |[]=>some (ez 2 p (p+1))
   |d::_=>
    if 49<=d.toNat/\d.toNat<=57 then some (ez 3 p (p+2))
    else if T5 Km d<0 then some (ez 2 p (p+2))
    else some ⟨iI p (yP a (jd co d.toNat d.toNat)),none,true,p+2⟩
  else some ⟨iI p (yP a (jd co c.toNat c.toNat)),none,true,p+1⟩
def ew(c a:Bool)(l:List UInt8):Nat->Nat->Option (List Tok×Option (Int×Int))
 |0,_=>none
 |f+1,p=>match eB c a l p with
  |none=>none
  |some x=>if x.more then(ew c a l f x.p).map (λy=>(x.t::y.1,y.2))else some ([x.t],x.wr)
def HE{l c}(h:¬ T5 l c<0):(T5 l c).toNat<l.length:=by
 have a:=(Lib.indexByte_some (l:=l) (c:=c) (o:=(T5 l c).toNat) (by omega)).1;grind
def EU(rest):(dU rest).2.2.2<=rest.length:=by
 unfold dU;split;exact Ti _;next h=>
 have a:=HE h;grind
def DW(s a)(h:(TI s a).2.2=true):(TI s a).1.length+a.length<=s.length:=by
 unfold TI at *;split at h
 .next b=>
  have:=Lib.index_room s a b;grind
 .cases h
def yq{S rest x}(h:jE S rest=some x)(b:2<=rest.length):x.2<=rest.length/\0<x.2:=by
 simp only[jE]at h;split at h;cases h;next d=>
 have a:(TI (rest.drop 2) [58,93]).2.2=true:=by
  grind
 have c:=DW _ _ a;grind
def rl{l r:List UInt8}{p a}(h:l.drop p=a::r):p+1+r.length=l.length:=by
 have:=congrArg List.length h;grind
structure tf(p:Nat)(x:mP):Prop where
 wrn:x.more=true->x.wr=none
 bad:x.t.bad=x.wr.isSome
 k8:x.t.kind=8->x.t.bad=true
 bk:x.t.bad=true->x.t.kind=8\/x.t.kind=7
 last:x.more=false->x.t.kind=0\/x.t.bad=true
 endk:x.t.kind=0->x.more=false
 atp:x.t.kind≠8->x.t.at_=p
def tf.wrong(q k a:Int)(p b):tf p (ez k a b):=⟨λh=>by(cases h),rfl,λ_=>rfl,λ_=>.inl rfl,λ_=>.inr rfl,λh=>by(cases h),λh=>absurd rfl h⟩
def tf.set(p a S):tf p ⟨iI p S,none,true,a⟩:=⟨λ_=>rfl,rfl,λh=>by(cases h),λh=>by(cases h),λh=>by(cases h),λh=>by(cases h),λ_=>rfl⟩
def CJ{c}(h:0<=fG c):fG c=2\/fG c=3\/fG c=4\/fG c=5\/fG c=6:=by
 grind [fG]
def tf.sign(p a c)(h:0<=fG c):tf p ⟨ly (fG c) p,none,true,a⟩:=by
 have:=CJ h;refine⟨λ_=>rfl,rfl,λh=> ?_,λh=>by(cases h),λh=>by(cases h),λh=> ?_,λ_=>rfl⟩;dsimp only[ly]at h;omega;simp_all[ly]
def tf.rep(p c rest):tf p (dS c p rest):=by
 unfold dS;split;exact⟨λ_=>rfl,rfl,λh=>by(cases h),λh=>by(cases h),λh=>by(cases h),λh=>by(cases h),λ_=>rfl⟩;split;exact⟨λ_=>rfl,rfl,λh=>by(cases h),λh=>by(cases h),λh=>by(cases h),λh=>by(cases h),λ_=>rfl⟩;split;exact⟨λ_=>rfl,rfl,λh=>by(cases h),λh=>by(cases h),λh=>by(cases h),λh=>by(cases h),λ_=>rfl⟩;dsimp only;cases a:(dU rest).2.2.1;exact⟨λh=>by(cases h),rfl,λh=>by(cases h),λh=>.inr rfl,λh=>.inr rfl,λh=>by(cases h),λ_=>rfl⟩;exact⟨λ_=>rfl,rfl,λh=>by(cases h),λh=>by(cases h),λh=>by(cases h),λh=>by(cases h),λ_=>rfl⟩
def Aw(m c l n b):∀f first S p,p<=l.length->l.length<f+p->∃x,jk m c l n b f first S p=some x/\p<=x.p/\x.p<=l.length/\tf b x:=by
 intro f;induction f with
 |zero=>omega
 |succ f d=>
  intro first S p e u
  unfold jk;split;exact⟨_,rfl,Sv _,e,.wrong 0 ..⟩;next a r h=>
  have t:=rl h;split;exact⟨_,rfl,TG _,by grind,.set ..⟩;split
  .next s=>
   split;exact⟨_,rfl,Sv _,e,.wrong 0 ..⟩;next x q=>
   have:=yq q (by grind);simp[SL]at this;have⟨y,j,g,k,i⟩:=d false x.1 (p+x.2) (by omega) (by omega)<;>grind
  .split
   .next s=>
    split <;>first |exact⟨_,rfl,Sv _,e,.wrong 0 ..⟩|have⟨y,j,g,k,i⟩:=d false (jd S a.toNat (r.getD 1 0).toNat) (p+3) (by omega) (by omega)<;>grind
   .have⟨y,j,g,k,i⟩:=d false (jd S a.toNat a.toNat) (p+1) (by omega) (by omega)<;>grind
def qw{l:List UInt8}{p c}(h:Tj (l.drop p) [c]=true):p+1<=l.length:=by
 unfold Tj at h;cases b:l.drop p with
 |nil=>simp[b]at h
 |cons a r=>have:=rl b;omega
def ib(b a l p)(f:p<=l.length):∃x,eB b a l p=some x/\p<=x.p/\(x.more=true->p<x.p)/\x.p<=l.length/\tf p x:=by
 unfold eB;split;exact⟨_,rfl,Sv _,(λh=>by cases h),f,⟨λ_=>rfl,rfl,λh=>by(cases h),λh=>by(cases h),λ_=>.inl rfl,λ_=>rfl,λ_=>rfl⟩⟩;next c r h=>
 have n:=rl h;split;exact⟨_,rfl,TG _,λ_=>SK _,by grind,.sign _ _ _ (by assumption)⟩;split
 .have m:=EU r;refine⟨_,rfl,?_,λ_=> ?_,?_,.rep ..⟩;all_goals
   unfold dS;repeat(first |split |(dsimp only;omega))
 .split;simp[ET];split
  .next g=>
   have:=qw g;have⟨y,k,j,i,e⟩:=Aw b a l (Tj (l.drop (p+1)) [94]) p (l.length+1) true co (p+1+1) (by omega) (by omega)<;>grind
  .have⟨y,k,j,i,e⟩:=Aw b a l (Tj (l.drop (p+1)) [94]) p (l.length+1) true co (p+1) (by omega) (by omega)<;>grind
  split;exact⟨_,rfl,TG _,λ_=>SK _,by grind,.set ..⟩;split
  .split;exact⟨_,rfl,TG _,(λh=>by cases h),by simp_all[ez],.wrong 0 ..⟩;next d q=>
   split;exact⟨_,rfl,by simp only[ez];omega,(λh=>by cases h),by grind [ez],.wrong 0 ..⟩;split <;>first |exact⟨_,rfl,by simp only[ez];omega,(λh=>by cases h),by grind [ez],.wrong 0 ..⟩|exact⟨_,rfl,by simp,λ_=>by simp,by grind,.set ..⟩
  .exact⟨_,rfl,by simp,λ_=>by simp,by grind,.set ..⟩
def ES(b a l):∀f p,p<=l.length->l.length<f+p->∃x,ew b a l f p=some x/\x.1.length<=f/\x.1≠[]:=by
 intro f;induction f with
 |zero=>simp
 |succ f g=>
  intro p c h;have⟨x,d,i,j,e,_⟩:=ib b a l p c;simp[ew,d];split <;>grind
section
structure pD where
 p:Nat
 n:Int
 g:Int
inductive g8(α:Type) where
 |ok (a:α) (s:pD)
 |err (k at_:Int)
def mb{c b:Type}(x:Option (g8 c))(f:c->pD->Option (g8 b)):Option (g8 b):=match x with|none=>none|some (.err k a)=>some (.err k a)|some (.ok a s)=>f a s
section
variable(ln fold:Bool)(l:List UInt8)
mutual
def qY:Nat->Int->pD->Option (g8 Nd)
 |0,_,_=>none
 |f+1,d,s=>lV f d (s.n+1) [] ⟨s.p,s.n+1,s.g⟩
def lV:Nat->Int->Int->List Nd->pD->Option (g8 Nd)
 |0,_,_,_,_=>none
 |f+1,d,id,ks,s=>mb (sL f d s) λk s=>match eB ln fold l s.p with
  |none=>none
  |some x=>if x.t.kind=6 then lV f d id (ks++[k]) ⟨x.p,s.n,s.g⟩else some (.ok (.alt id (ks++[k])) s)
def sL:Nat->Int->pD->Option (g8 Nd)
 |0,_,_=>none
 |f+1,d,s=>lU f d (s.n+1) [] ⟨s.p,s.n+1,s.g⟩
def lU:Nat->Int->Int->List Nd->pD->Option (g8 Nd)
 |0,_,_,_,_=>none
 |f+1,d,id,ks,s=>match eB ln fold l s.p with
  |none=>none
  |some x=>
   if x.t.kind=0\/x.t.kind=6\/x.t.kind=5 then
    if x.t.kind=5/\d=0 then some (.err 11 x.t.at_)
    else if ks.length=0 then some (.err 9 x.t.at_)
    else some (.ok (.seq id ks) s)
   else if x.t.kind=7 then some (.err 8 x.t.at_)
   else mb (oe f d s) λk s=>lU f d id (ks++[k]) s
def oe:Nat->Int->pD->Option (g8 Nd)
 |0,_,_=>none
 |f+1,d,s=>mb (oU f d s) λk s=>iC f k s
def iC:Nat->Nd->pD->Option (g8 Nd)
 |0,_,_=>none
 |f+1,k,s=>match eB ln fold l s.p with
  |none=>none
  |some x=>if x.t.kind=7 then match x.wr with
   |some w=>some (.err w.1 w.2)
   |none=>iC f (.rep (s.n+1) k x.t.least x.t.most) ⟨x.p,s.n+1,s.g⟩
   else some (.ok k s)
def oU:Nat->Int->pD->Option (g8 Nd)
 |0,_,_=>none
 |f+1,d,s=>match eB ln fold l s.p with
  |none=>none
  |some x=>match x.wr with
   |some w=>some (.err w.1 w.2)
   |none=>if x.t.kind=4 then og f d s else
    if x.t.kind=2 then some (.ok (.edge (s.n+1) false) ⟨x.p,s.n+1,s.g⟩)
    else if x.t.kind=3 then some (.ok (.edge (s.n+1) true) ⟨x.p,s.n+1,s.g⟩)
    else some (.ok (.set (s.n+1) x.t.b0 x.t.b1 x.t.b2 x.t.b3) ⟨x.p,s.n+1,s.g⟩)
def og:Nat->Int->pD->Option (g8 Nd)
 |0,_,_=>none
 |f+1,d,s=>match eB ln fold l s.p with
  |none=>none
  |some x=>
   if s.g=9 then some (.err 12 x.t.at_)
   else mb (qY f (d+1) ⟨x.p,s.n+1,s.g+1⟩) λk s3=>match eB ln fold l s3.p with
    |none=>none
    |some y=>if y.t.kind=5 then some (.ok (.grp (s.n+1) k (s.g+1)) ⟨y.p,s3.n,s3.g⟩)else some (.err 10 x.t.at_)
end
end
section
variable{ln fold:Bool}{l:List UInt8}{wr:Option (Int×Int)}
def AtP(ln fold:Bool)(l:List UInt8)(wr:Option (Int×Int))(s:g7)(a:pD):Prop:=a.p<=l.length/\s.n=a.n/\s.g=a.g/\s.t.kind≠8/\∃f,ew ln fold l f a.p=some (s.t::s.ts,wr)
def gX(ln fold:Bool)(l:List UInt8)(wr:Option (Int×Int))(p:Nat):Prop:=∃x w,eB ln fold l p=some x/\x.t.kind=8/\x.wr=some w/\wr=some w
def Fz(wr:Option (Int×Int)):FX->Int->Int->Prop
 | .tok,k,a=>wr=some (k,a)
 | .own c b,k,a=>c=k/\b=a
def Rel(ln fold:Bool)(l:List UInt8)(wr:Option (Int×Int)){d:Type}:Option (eJ d)->Option (g8 d)->Prop
 |none,_=>True
 |some (.ok a s),r=>∃c,r=some (.ok a c)/\AtP ln fold l wr s c
 |some (.err e s),r=>∃k b,r=some (.err k b)/\Fz wr e k b
def y9(ln fold:Bool)(l:List UInt8)(wr:Option (Int×Int)){d:Type}:Option (eJ d)->Option (g8 d)->Prop
 |none,_=>True
 |some (.ok a s),r=>∃c,r=some (.ok a c)/\AtP ln fold l wr s c
 |some (.err e s),r=>(∃k b,r=some (.err k b)/\Fz wr e k b)\/(e= .tok/\∃a c,r=some (.ok a c)/\gX ln fold l wr c.p)
def y9.of{b}{x:Option (eJ b)}{r}(h:Rel ln fold l wr x r):y9 ln fold l wr x r:=by
 match x,h with
 |none,_=>trivial
 |some (.ok a s),h=>exact h
 |some (.err e s),h=>exact .inl h
def AtP.now{s a}(h:AtP ln fold l wr s a):∃x,eB ln fold l a.p=some x/\x.t=s.t/\tf a.p x/\x.p<=l.length/\
 ((x.more=true/\∃f,ew ln fold l f x.p=some (s.ts,wr))\/x.more=false/\s.ts=[]/\wr=x.wr):=by
 have⟨c,_,_,_,f,b⟩:=h;have⟨x,d,_,_,e,g⟩:=ib ln fold l a.p c;cases f with
 |zero=>cases b
 |succ f=>
  unfold ew at b;grind [TE]
theorem AtP.step{s v x}(h:AtP ln fold l wr s v)(E:eB ln fold l v.p=some x)(a:x.wr=none)(h0:x.t.kind≠0):
 ∃t b,s.ts=t::b/\((t.kind≠8/\∀n g,AtP ln fold l wr ⟨b,t,n,g⟩ ⟨x.p,n,g⟩)\/t.kind=8/\gX ln fold l wr x.p):=by
 have⟨y,C,D,c,d,i⟩:=h.now;cases E.symm.trans C;rcases i with⟨i,f,r⟩|⟨i,_,_⟩
 have⟨z,F,_,_,G,p⟩:=ib ln fold l x.p d;cases f with
 |zero=>cases r
 |succ f=>
  have k:=r;unfold ew at r;have m:∃b,s.ts=z.t::b/\(z.more=false->wr=z.wr):=by
   grind [TE]
  have⟨b,u,B⟩:=m;refine⟨z.t,b,u,?_⟩;by_cases e:z.t.kind=8;have A:=p.bad;rw[p.k8 e]at A;have⟨w,a⟩:=Tg.1 A.symm;have j:z.more=false:=by
   cases q:z.more<;>first |rfl|(have:=p.wrn q;rw[this]at a;cases a)
  exact .inr ⟨e,z,w,F,e,a,(B j).trans a⟩;exact .inl ⟨e,λn g=>⟨d,rfl,rfl,e,f+1,by rw[k,u]⟩⟩
 rcases c.last i with h|h<;>first |exact absurd h h0|(have:=c.bad;rw[h,a]at this;cases this)
def gX.Jn{p}(h:gX ln fold l wr p)(f d i e n g):∃k a,lU ln fold l (f+3) d i e ⟨p,n,g⟩=some (.err k a)/\wr=some (k,a):=by
 have⟨x,w,c,m,j,b⟩:=h;refine⟨w.1,w.2,?_,b⟩;simp[lU,c];rw[if_neg (by omega),if_neg (by omega)];simp[oe,oU,c,j];rfl
theorem gX.alt{p}(h:gX ln fold l wr p)(f d n g):∃k a,qY ln fold l (f+6) d ⟨p,n,g⟩=some (.err k a)/\wr=some (k,a):=by
 have⟨k,a,b,c⟩:=h.Jn f d (n+1+1) [] (n+1+1) g;refine⟨k,a,?_,c⟩;simp[qY,lV,sL,b];rfl
def gX.PP{p}(h:gX ln fold l wr p)(f d i c n g):∃k a,lV ln fold l (f+5) d i c ⟨p,n,g⟩=some (.err k a)/\wr=some (k,a):=by
 have⟨k,a,b,e⟩:=h.Jn f d (n+1) [] (n+1) g;refine⟨k,a,?_,e⟩;simp[lV,sL,b];rfl
def gX.GZ{p}(h:gX ln fold l wr p)(f k n g):iC ln fold l (f+1) k ⟨p,n,g⟩=some (.ok k ⟨p,n,g⟩):=by
 have⟨x,w,d,c,b,a⟩:=h;simp_all[iC]
def zo:∀f,
 (∀d s b,AtP ln fold l wr s b->Rel ln fold l wr (im f d s) (qY ln fold l (f+8) d b))/\
 (∀d E F s b,AtP ln fold l wr s b->Rel ln fold l wr (il f d E F s) (lV ln fold l (f+8) d E F b))/\
 (∀d s b,AtP ln fold l wr s b->Rel ln fold l wr (kS f d s) (sL ln fold l (f+8) d b))/\
 (∀d E F s b,AtP ln fold l wr s b->Rel ln fold l wr (jP f d E F s) (lU ln fold l (f+8) d E F b))/\
 (∀d s b,AtP ln fold l wr s b->s.t.kind≠0->s.t.kind≠7->y9 ln fold l wr (gm f d s) (oe ln fold l (f+8) d b))/\
 (∀k s b,AtP ln fold l wr s b->y9 ln fold l wr (fP f k s) (iC ln fold l (f+8) k b))/\
 (∀d s b,AtP ln fold l wr s b->s.t.kind≠0->s.t.kind≠7->y9 ln fold l wr (ik f d s) (oU ln fold l (f+8) d b))/\
 ∀d s b,AtP ln fold l wr s b->s.t.kind=4->y9 ln fold l wr (iy f d s) (og ln fold l (f+8) d b):=by
 intro f;induction f with
 |zero=>exact⟨λ_ _ _ _=>trivial,λ_ _ _ _ _ _=>trivial,λ_ _ _ _=>trivial,λ_ _ _ _ _ _=>trivial,λ_ _ _ _ _ _=>trivial,λ_ _ _ _=>trivial,λ_ _ _ _ _ _=>trivial,λ_ _ _ _ _=>trivial⟩
 |succ f ih=>
  have⟨iAlt,D,iSeq,G,I,u,W,L⟩:=ih;have T:∀{s:g7}{b:pD},AtP ln fold l wr s b->AtP ln fold l wr ⟨s.ts,s.t,s.n+1,s.g⟩ ⟨b.p,b.n+1,b.g⟩:=λ⟨m,q,i,X,h5⟩=>⟨m,by grind,i,X,h5⟩
  refine⟨λd s b h=> ?_,λd E F s b h=> ?_,λd s b h=> ?_,λd E F s b h=> ?_,λd s b h h0 M=> ?_,λk s b h=> ?_,λd s b h h0 M=> ?_,λd s b h X=> ?_⟩
  .rw[show f+1+8=f+8+1 from by omega];unfold im qY gn;split <;>first |(have:=D d (s.n+1) [] _ _ (T h);rw[<- h.2.1]at this ⊢;exact this)|trivial
  .rw[show f+1+8=f+8+1 from by omega];unfold il lV;split;have m:=iSeq d s b h;cases S:kS f d s with
   |none=>trivial
   |some r=>
    rw[S]at m;cases r with
    |err e H=>
     have⟨k,a,q,i⟩:=m;rw[q];exact⟨k,a,rfl,i⟩
    |ok k H=>
     have⟨g,q,i⟩:=m;rw[q];have⟨x,C,c,j,K,R⟩:=i.now;simp only[bN,mb];rw[C];dsimp only;rw[c];split
     .next h6=>
      have B:x.wr=none:=by
       have:=j.bk;cases z:x.t.bad;have:=j.bad;rw[z]at this;simp_all;grind
      have⟨t,ts,Q,M⟩:=i.step C B (by rw[c];omega);unfold cy;rw[Q];dsimp only;rcases M with⟨p,v⟩|⟨p,v⟩<;>first |(rw[if_neg p];have:=D d E (F++[k]) _ _ (v H.n H.g);rw[<- i.2.1,<- i.2.2.1];omega)|(rw[if_pos p];have⟨k',Z,n,A⟩:=v.PP (f+3) d E (F++[k]) g.n g.g;exact⟨k',Z,n,A⟩)
     .exact⟨g,rfl,i⟩
   trivial
  .rw[show f+1+8=f+8+1 from by omega];unfold kS sL gn;split <;>first |(have:=G d (s.n+1) [] _ _ (T h);rw[<- h.2.1]at this ⊢;exact this)|trivial
  .rw[show f+1+8=f+8+1 from by omega];have⟨x,C,c,j,K,R⟩:=h.now;unfold jP lU;rw[C];dsimp only;rw[c];split;split;exact⟨_,_,rfl,rfl,rfl⟩;split <;>first |exact⟨_,_,rfl,rfl,rfl⟩|exact⟨b,rfl,h⟩
   next hk=>
   split
   .exact⟨_,_,rfl,rfl,rfl⟩
   split
   .next M _=>
    have m:=I d s b h (by omega) M;cases S:gm f d s with
    |none=>trivial
    |some r=>
     rw[S]at m;cases r with
     |err e H=>
      rcases m with⟨k,a,q,i⟩|⟨rfl,k,g,q,i⟩<;>first |(rw[q];exact⟨k,a,rfl,i⟩)|(rw[q];have⟨k',Z,X,h5⟩:=i.Jn (f+5) d E (F++[k]) g.n g.g;exact⟨k',Z,X,h5⟩)
     |ok k H=>
      have⟨g,q,i⟩:=m;rw[q];exact G d E (F++[k]) H g i
   .trivial
  .rw[show f+1+8=f+8+1 from by omega];unfold gm oe;have m:=W d s b h h0 M;cases S:ik f d s with
   |none=>trivial
   |some r=>
    rw[S]at m;cases r with
    |err e H=>
     rcases m with⟨k,a,q,i⟩|⟨rfl,k,g,q,i⟩<;>first |(rw[q];exact .inl ⟨k,a,rfl,i⟩)|(rw[q];exact .inr ⟨rfl,k,g,i.GZ (f+7) k g.n g.g,i⟩)
    |ok k H=>
     have⟨g,q,i⟩:=m;rw[q];exact u k H g i
  .rw[show f+1+8=f+8+1 from by omega];have⟨x,C,c,j,K,R⟩:=h.now;unfold fP iC;rw[C];dsimp only;rw[c];split
   .next M=>
    split
    .next z=>
     have hbs:=j.bad;rw[c,z]at hbs;have⟨w,B⟩:=Tg.1 hbs.symm;rw[B];rcases R with⟨R,_⟩|⟨_,_,hwr⟩<;>first |(have:=j.wrn R;rw[this]at B;cases B)|exact .inl ⟨_,_,rfl,by show wr=_;rw[hwr,B]⟩
    .next z=>
     have B:x.wr=none:=by
      have:=j.bad;rw[c]at this;simp_all
     rw[B];dsimp only;unfold gn;split <;>first |(have⟨t,ts,Q,p⟩:=(T h).step C B (by rw[c];omega);simp only[bN,cy];rw[Q];dsimp only;rcases p with⟨p,v⟩|⟨p,v⟩<;>first |(rw[if_neg p];have:=u (.rep (s.n+1) k s.t.least s.t.most) _ _ (v (s.n+1) s.g);rw[<- h.2.1,<- h.2.2.1];omega)|(rw[if_pos p];exact .inr ⟨rfl,_,_,v.GZ (f+7) ..,v⟩))|trivial
   .exact⟨b,rfl,h⟩
  .rw[show f+1+8=f+8+1 from by omega];have⟨x,C,c,j,K,R⟩:=h.now;have B:x.wr=none:=by
    cases z:x.t.bad;have:=j.bad;rw[z]at this;simp_all;have m:=j.bk z;rw[c]at m;exact(m.elim h.2.2.2.1 M).elim
   unfold ik oU;rw[C];dsimp only;rw[B];dsimp only;rw[c];split;next X=>exact L d s b h X
   have⟨t,ts,Q,p⟩:=h.step C B (by rw[c];omega);unfold cy;rw[Q];dsimp only;rcases p with⟨p,v⟩|⟨p,v⟩
   rw[if_neg p];simp only[bN,gn];by_cases z:0<=s.n/\s.n<1000000;rw[if_pos z];dsimp only;have n:AtP ln fold l wr ⟨ts,t,s.n+1,s.g⟩ ⟨x.p,s.n+1,s.g⟩:=v (s.n+1) s.g;rw[<- h.2.1,<- h.2.2.1];split;exact⟨_,rfl,n⟩;split <;>exact⟨_,rfl,n⟩;rw[if_neg z];trivial;rw[if_pos p];refine .inr ⟨rfl,?_⟩;split;exact⟨_,_,rfl,v⟩;split <;>exact⟨_,_,rfl,v⟩
  .rw[show f+1+8=f+8+1 from by omega];have⟨x,C,c,j,K,R⟩:=h.now;have B:x.wr=none:=by
    cases z:x.t.bad<;>first |(have:=j.bad;rw[z]at this;simpa using this.symm)|(have m:=j.bk z;rw[c]at m;omega)
   unfold iy og;rw[C];dsimp only;rw[c,h.2.2.1,h.2.1];split;exact .inl ⟨_,_,rfl,rfl,rfl⟩;split;unfold gn;dsimp only;split;have⟨t,ts,Q,p⟩:=h.step C B (by rw[c];omega);simp only[bN,cy];rw[Q];dsimp only;rcases p with⟨p,v⟩|⟨p,v⟩
   rw[if_neg p];have m:=iAlt (d+1) _ _ (v (b.n+1) (b.g+1));dsimp only at m ⊢;cases S:im f (d+1) ⟨ts,t,b.n+1,b.g+1⟩with
   |none=>trivial
   |some r=>
    rw[S]at m;cases r with
    |err e H=>
     have⟨k,a,q,i⟩:=m;rw[q];exact .inl ⟨k,a,rfl,i⟩
    |ok k s3=>
     have⟨σ3,q,i⟩:=m;rw[q];have⟨y,hy,P,N,hley,hmy⟩:=i.now;simp only[mb];rw[hy];dsimp only;rw[P];split
     .next h5=>
      have hwy:y.wr=none:=by
       cases z:y.t.bad<;>first |(have:=N.bad;rw[z]at this;simpa using this.symm)|(have m:=N.bk z;rw[P]at m;omega)
      have⟨t2,ts2,ht2,n⟩:=i.step hy hwy (by rw[P];omega);rw[ht2];dsimp only;rcases n with⟨n,A⟩|⟨n,A⟩<;>first |(rw[if_neg n];rw[<- i.2.1,<- i.2.2.1];exact⟨_,rfl,A ..⟩)|(rw[if_pos n];exact .inr ⟨rfl,_,_,rfl,A⟩)
     .exact .inl ⟨_,_,rfl,rfl,rfl⟩
   rw[if_pos p];have⟨k',Z,n,A⟩:=v.alt (f+2) (d+1) (b.n+1) (b.g+1);refine .inl ⟨k',Z,?_,A⟩;rw[n];rfl;trivial;trivial
end
end
section
section
variable{ln fold:Bool}{l:List UInt8}{wr:Option (Int×Int)}
def ei(ln fold:Bool)(l:List UInt8)(wr:Option (Int×Int))(s:g7):Prop:=∃a,AtP ln fold l wr s a
structure Room(a:Int)(s:g7):Prop where
 n0:0<=s.n
 g0:0<=s.g
 n1:s.n+3*(s.ts.length:Int)+a<=1000
 g1:s.g+(s.ts.length:Int)<=500
structure Less(a:Int)(c:Nat)(s s':g7):Prop where
 k:s'.ts.length+c<=s.ts.length
 n:s'.n+3*(s'.ts.length:Int)<=s.n+3*(s.ts.length:Int)+a
 g:s'.g+(s'.ts.length:Int)<=s.g+(s.ts.length:Int)
 n0:s.n<=s'.n
 g0:s.g<=s'.g
def Tot(ln fold:Bool)(l:List UInt8)(wr:Option (Int×Int))(a:Int)(c:Nat)(s:g7){d:Type}(x:Option (eJ d)):Prop:=∃r,x=some r/\∀v b,r= .ok v b->ei ln fold l wr b/\Less a c s b
def Tot.err{a c s d}(e b):Tot ln fold l wr a c s (some (.err e b:eJ d)):=⟨_,rfl,λv b h=>by cases h⟩
def Tot.ok{a c s b α}{v:α}(h:ei ln fold l wr b)(d:Less a c s b):Tot ln fold l wr a c s (some (.ok v b)):=⟨_,rfl,λv b h=>by grind⟩
def Tot.thn{a b a':Int}{c c' d:Nat}{s j n x}{f:j->g7->Option (eJ n)}(h:Tot ln fold l wr a c s x)(k:∀v g,ei ln fold l wr g->Less a c s g->Tot ln fold l wr b d s (f v g)):Tot ln fold l wr b d s (bN x f):=by
 obtain⟨r,rfl,h⟩:=h;cases r with
 |err e g=>exact .err e g
 |ok v g=>have⟨i,m⟩:=h v g rfl;exact k v g i m
def Tot.from{a b e c d g s j k}{x:Option (eJ k)}(h:Tot ln fold l wr a c j x)(f:Less b d s j)(t:a+b<=e)(q:g<=c+d):Tot ln fold l wr e g s x:=by
 obtain⟨r,rfl,h⟩:=h;refine⟨r,rfl,λv m p=> ?_⟩;have⟨n,i⟩:=h v m p;refine⟨n,?_,?_,?_,?_,?_⟩;have:=i.k;have:=f.k;omega;have:=i.n;have:=f.n;omega;have:=i.g;have:=f.g;omega;have:=i.n0;have:=f.n0;omega;have:=i.g0;have:=f.g0;omega
def Less.refl(s):Less 0 0 s s:=⟨Sv _,by omega,by omega,by omega,by omega⟩
def ei.part{s}(h:ei ln fold l wr s)(n g):ei ln fold l wr ⟨s.ts,s.t,n,g⟩:=by
 have⟨c,a,f,e,d,b⟩:=h;exact⟨⟨c.p,n,g⟩,a,rfl,rfl,d,b⟩
def nR{s}(h:ei ln fold l wr s)(h0:0<=s.n)(a:s.n<1000000):gn s=some (.ok (s.n+1) ⟨s.ts,s.t,s.n+1,s.g⟩):=by
 simp_all[gn]
def nQ{s}(h:ei ln fold l wr s)(h0:s.t.kind≠0)(p:s.t.bad=false):∃r,cy s=some r/\∀v a,r= .ok v a->ei ln fold l wr a/\a.n=s.n/\a.g=s.g/\a.ts.length+1=s.ts.length:=by
 have⟨n,h⟩:=h;have⟨x,k,d,c,f,m⟩:=h.now;have i:x.wr=none:=by
  have:=c.bad;simp_all
 have⟨t,q,j,b⟩:=h.step k i (by rw[d];omega);simp only[cy,j];rcases b with⟨b,e⟩|⟨b,e⟩
 rw[if_neg b];refine⟨_,rfl,λv a g=> ?_⟩;cases g;exact⟨⟨_,e ..⟩,rfl,rfl,by simp⟩;grind
def ei.bad{s}(h:ei ln fold l wr s)(i:s.t.kind≠7):s.t.bad=false:=by
 have⟨g,h⟩:=h;have⟨x,e,a,b,c,f⟩:=h.now;cases d:s.t.bad;rfl;have:=b.bk (by rw[a];omega);rw[a]at this;exact absurd this (by have:=h.2.2.2.1;omega)
def vZ{s}(h:ei ln fold l wr s)(h0:s.t.kind≠0)(n:s.t.bad=false):1<=s.ts.length:=by
 have⟨p,h⟩:=h;have⟨x,e,c,a,m,b⟩:=h.now;rcases b with⟨_,f,k⟩|⟨b,_,_⟩
 cases j:s.ts with
 |nil=>
  cases f with
  |zero=>cases k
  |succ f=>
   have g:x.wr=none:=by
    have:=a.bad;simp_all
   have⟨t,i,q,_⟩:=h.step e g (by rw[c];omega)<;>grind
 |cons t i=>simp
 rcases a.last b with d|d<;>grind
def AO:∀f,
 (∀d s,ei ln fold l wr s->Room 2 s->0<=d->d+(s.ts.length:Int)<=500->7*s.ts.length+6<=f->Tot ln fold l wr 2 0 s (im f d s))/\
 (∀d z t s,ei ln fold l wr s->Room 1 s->0<=d->d+(s.ts.length:Int)<=500->7*s.ts.length+5<=f->t.length+s.ts.length<=1000->Tot ln fold l wr 1 0 s (il f d z t s))/\
 (∀d s,ei ln fold l wr s->Room 1 s->0<=d->d+(s.ts.length:Int)<=500->7*s.ts.length+4<=f->Tot ln fold l wr 1 0 s (kS f d s))/\
 (∀d z t s,ei ln fold l wr s->Room 0 s->0<=d->d+(s.ts.length:Int)<=500->7*s.ts.length+3<=f->t.length+s.ts.length<=1000->Tot ln fold l wr 0 0 s (jP f d z t s))/\
 (∀d s,ei ln fold l wr s->Room 0 s->0<=d->d+(s.ts.length:Int)<=500->7*s.ts.length+2<=f->s.t.kind≠0->s.t.kind≠7->Tot ln fold l wr 0 1 s (gm f d s))/\
 (∀k s,ei ln fold l wr s->Room 0 s->7*s.ts.length+1<=f->Tot ln fold l wr 0 0 s (fP f k s))/\
 (∀d s,ei ln fold l wr s->Room 0 s->0<=d->d+(s.ts.length:Int)<=500->7*s.ts.length+1<=f->s.t.kind≠0->s.t.kind≠7->Tot ln fold l wr 0 1 s (ik f d s))/\
 ∀d s,ei ln fold l wr s->Room 0 s->0<=d->d+(s.ts.length:Int)<=500->7*s.ts.length<=f->s.t.kind=4->Tot ln fold l wr 0 1 s (iy f d s):=by
 intro f;induction f with
 |zero=>
  refine⟨λd s _ _ _ _ h=>by omega,λd z t s _ _ _ _ h=>by omega,λd s _ _ _ _ h=>by omega,λd z t s _ _ _ _ h=>by omega,λd s _ _ _ _ h=>by omega,λk s _ _ h=>by omega,λd s _ _ _ _ h=>by omega,λd s y _ _ _ h R=> ?_⟩;have:=vZ y (by omega) (y.bad (by omega));omega
 |succ f ih=>
  obtain⟨M,u,K,w,A,j,F,C⟩:=ih;refine⟨λd s h i n c E=> ?_,λd z t s h i n c E hk=> ?_,λd s h i n c E=> ?_,λd z t s h i n c E hk=> ?_,λd s h i n c E P G=> ?_,λk s h i E=> ?_,λd s h i n c E P G=> ?_,λd s h i n c E R=> ?_⟩
  .have⟨m,p,x,q⟩:=i;unfold im;rw[nR h m (by omega)];exact(u d _ [] _ (h.part (s.n+1) s.g) ⟨by grind,p,by grind,q⟩ n c (by grind) (by grind)).from (b:=1) (d:=0) ⟨Sv _,by grind,Tf _,by grind,Tf _⟩ (by omega) (by omega)
  .have⟨m,p,x,q⟩:=i;unfold il;rw[if_pos (by omega)];refine Tot.thn (a':=0) (c':=0) (K d s h ⟨m,p,x,q⟩ n c (by omega)) λk N D g=> ?_
   split
   .next h6=>
    have⟨r,y,i⟩:=nQ D (by omega) (D.bad (by omega));rw[y];cases r with
    |err e a=>exact .err e a
    |ok v a=>
     have⟨B,I,H,L⟩:=i v a rfl;have:=g.k;have:=g.n;have:=g.g;have:=g.n0;have:=g.g0;exact(u d z (t++[k]) a B ⟨by omega,by omega,by omega,by omega⟩ n (by omega) (by omega) (by grind)).from (b:=0) (d:=0) ⟨by omega,by omega,by omega,by omega,by omega⟩ (by omega) (by omega)
   .exact .ok D g
  .have⟨m,p,x,q⟩:=i;unfold kS;rw[nR h m (by omega)];exact(w d _ [] _ (h.part (s.n+1) s.g) ⟨by grind,p,by dsimp only;omega,q⟩ n c (by grind) (by show 0+s.ts.length<=_;omega)).from (b:=1) (d:=0) ⟨Sv _,by dsimp only;omega,Tf _,by show s.n<=s.n+1;omega,Tf _⟩ (by omega) (by omega)
  .have⟨m,p,x,q⟩:=i;unfold jP;split;split;exact .err ..;split <;>first |exact .err .. |exact .ok h (Less.refl s)
   split;exact .err ..;next P G=>
   rw[if_pos (by omega)];refine Tot.thn (a':=0) (c':=0) (A d s h ⟨m,p,x,q⟩ n c (by omega) (by omega) G) λk N D g=> ?_
   have:=g.k;have:=g.n;have:=g.g;have:=g.n0;have:=g.g0;exact(w d z (t++[k]) N D ⟨by omega,by omega,by omega,by omega⟩ n (by omega) (by omega) (by simp;omega)).from g (by omega) (by omega)
  .have⟨m,p,x,q⟩:=i;unfold gm;refine Tot.thn (a':=0) (c':=0) (F d s h ⟨m,p,x,q⟩ n c (by omega) P G) λk N D g=> ?_
   have:=g.k;have:=g.n;have:=g.g;have:=g.n0;have:=g.g0;exact(j k N D ⟨by omega,by omega,by omega,by omega⟩ (by omega)).from g (by omega) (by omega)
  .have⟨m,p,x,q⟩:=i;unfold fP;split
   .next G=>
    split;exact .err ..;next Q=>
    have Q:s.t.bad=false:=by simp[*]
    have hp:=vZ h (by omega) Q;rw[nR h m (by omega)];have⟨r,y,i⟩:=nQ (h.part (s.n+1) s.g) (by simp[*]) Q;simp only[bN];rw[y];cases r with
    |err e a=>exact .err e a
    |ok v a=>
     have⟨B,I,H,L⟩:=i v a rfl;dsimp only at I H L ⊢;exact(j _ a B ⟨by omega,by omega,by omega,by omega⟩ (by omega)).from (b:=0) (d:=1) ⟨by omega,by omega,by omega,by omega,by omega⟩ (by omega) (by omega)
   .exact .ok h (Less.refl s)
  .have⟨m,p,x,q⟩:=i;unfold ik;split;next R=>exact C d s h ⟨m,p,x,q⟩ n c (by omega) R
   have⟨r,y,i⟩:=nQ h P (h.bad G);rw[y];cases r with
   |err e a=>exact .err e a
   |ok v a=>
    have⟨B,I,H,L⟩:=i v a rfl;simp only[bN];rw[nR B (by omega) (by omega)];have hL:Less 0 1 s ⟨a.ts,a.t,a.n+1,a.g⟩:=⟨by simp[*],by show a.n+1+3*(a.ts.length:Int)<=_;omega,by show a.g+(a.ts.length:Int)<=_;omega,by show _<=a.n+1;omega,by simp[*]⟩;dsimp only;split;exact .ok (B.part ..) hL;split <;>exact .ok (B.part ..) hL
  .have⟨m,p,x,q⟩:=i;unfold iy;split;exact .err ..;rw[if_pos (by omega),nR (h.part s.n (s.g+1)) m (by dsimp only;omega)];have⟨r,y,i⟩:=nQ (h.part (s.n+1) (s.g+1)) (by simp[*]) (h.bad (by omega));simp only[bN];rw[y];cases r with
   |err e a=>exact .err e a
   |ok v a=>
    have⟨B,I,H,L⟩:=i v a rfl;dsimp only at I H L ⊢;have⟨r3',S,hr3⟩:=M (d+1) a B ⟨by omega,by omega,by omega,by omega⟩ (by omega) (by omega) (by omega);rw[S];cases r3' with
    |err e Z=>exact .err e Z
    |ok k Z=>
     have⟨h3,g⟩:=hr3 k Z rfl;have:=g.n;have:=g.g;have:=g.n0;have:=g.g0;dsimp only;split
     .next h5=>
      have⟨X,hs4,T⟩:=nQ h3 (by omega) (h3.bad (by omega));rw[hs4];cases X with
      |err e s4=>exact .err e s4
      |ok v s4=>
       have⟨W,e4,e5,e6⟩:=T v s4 rfl;exact .ok W ⟨by omega,by omega,by omega,by omega,by omega⟩
     .exact .err ..
end
end
def deep:Nat:=2000
def pT(a:Tok)(b:List Tok):Option (eJ Nd):=bN (cy ⟨b,a,0,0⟩) λ_ s=>im deep 0 s
def xP(ln fold:Bool)(l:List UInt8):Option (g8 Nd):=qY ln fold l (deep+8) 0 ⟨0,0,0⟩
inductive Alike(wr:Option (Int×Int)):eJ Nd->g8 Nd->Prop
 |ok (a:Nd) (s:g7) (O:pD) (h:s.g=O.g):Alike wr (.ok a s) (.ok a O)
 |err (e:FX) (s:g7) (k at_:Int) (h:Fz wr e k at_):Alike wr (.err e s) (.err k at_)
def Gb(g b l)(h:l.length<=120)(I):
 ∃c d,ew g b l (l.length+1) 0=some (c,d)/\c.length<=121/\∃r K,pT I c=some r/\xP g b l=some K/\Alike d r K:=by
 have⟨⟨c,d⟩,C,m,q⟩:=ES g b l (l.length+1) 0 (Ti _) (by omega);refine⟨c,d,C,by grind,?_⟩;cases c with
 |nil=>exact absurd rfl q
 |cons t c=>
  simp only[SL]at m;by_cases D:t.kind=8;have⟨x,j,_,_,P,A⟩:=ib g b l 0 (Ti _);have f:=C;unfold ew at f;rw[j]at f;dsimp only at f;have i:x.t=t/\(x.more=false->x.wr=d):=by
   split at f<;>simp_all
  have F:=A.bad;rw[A.k8 (by rw[i.1];omega)]at F;have⟨w,n⟩:=Tg.1 F.symm;have y:x.more=false:=by
   cases B:x.more<;>first |rfl|(have:=A.wrn B;rw[this]at n;cases n)
  have N:gX g b l d 0:=⟨x,w,j,by rw[i.1];omega,n,(i.2 y).symm.trans n⟩;have⟨k,a,z,u⟩:=N.alt (deep+2) 0 0 0;refine⟨_,_,by unfold pT cy;dsimp only;rw[if_pos D];rfl,z,.err .tok _ _ _ u⟩;have G:AtP g b l d ⟨c,t,0,0⟩ ⟨0,0,0⟩:=⟨Ti _,rfl,rfl,D,_,C⟩;have⟨r,H,_⟩:=(AO (ln:=g) (fold:=b) (l:=l) (wr:=d) deep).1 0 ⟨c,t,0,0⟩ ⟨_,G⟩ ⟨Tf _,Tf _,by grind,by grind⟩ (Tf _) (by grind) (by dsimp only[deep];omega);have E:=(zo (ln:=g) (fold:=b) (l:=l) (wr:=d) deep).1 0 _ _ G;rw[H]at E;have e:pT I (t::c)=some r:=by
   unfold pT cy;simp[if_neg D];exact H
  cases r with
  |ok a s=>
   have⟨M,p,v⟩:=E;exact⟨_,_,e,p,.ok a s M v.2.2.1⟩
  |err L s=>
   have⟨k,a,p,v⟩:=E;exact⟨_,_,e,p,.err L s k a v⟩
section
open Go.Conc
section
variable{P:Program}{D:dZ P}{ops:Array Oper}{Q:Exit->Act->SH->Prop}{md:Region.Mode}
theorem go_step{g t a i}(hi:(SJ md ops a)[t% (SJ md ops a).length]?=some i):Region.linearise.go md ops (g+1) t a []=i::Region.linearise.go md ops g (t/ (SJ md ops a).length) (a.setIfInBounds i true) []:=by
 have e:Region.linearise.go md ops (g+1) t a []=(match(SJ md ops a)[t% (SJ md ops a).length]? with|some i=>Region.linearise.go md ops g (t/ (SJ md ops a).length) (a.setIfInBounds i true) [i]|none=>[].reverse):=rfl
 grind [linearise_go_acc]
def AK{t a}(h:SJ md ops a≠[]):∃i,(SJ md ops a)[t% (SJ md ops a).length]?=some i/\i∈SJ md ops a:=by
 have b:t% (SJ md ops a).length<(SJ md ops a).length:=Nat.mod_lt _ (List.length_pos_iff.2 h);simp_all
def NN:∀g k t a,Region.seqB md ops g k a=true->Region.linearise.go md ops g t a []=SD k g:=by
 intro g;induction g with
 |zero=>intro k t a _;rfl
 |succ g b=>
  intro k t a h;simp[Region.seqB]at h;rw[go_step (i:=k) (by grind),b (k+1) _ _ h.2];rfl
def zN{w n g L Q1}(c:∀b a,L b a->Q1 .normal a w):∀f t b a,wpAnyL P md ops w n L f b a->
 wpOps P ops Q1 ((Region.linearise.go md ops (f+g) t b []).take f) a w:=by
 intro f;induction f with
 |zero=>exactλt b a h=>c _ _ h
 |succ f j=>
  intro t b a h;have⟨i,k,d⟩:=AK (t:=t) h.1;rw[show f+1+g=f+g+1 by omega,go_step k];exact wpOp_of_stOp (λl e=>j _ _ _ e) (h.2 i d).2
def Ch{w n g L}:∀f t b a,wpAnyL P md ops w n L f b a->
 ∃c t' e,L c e/\(Region.linearise.go md ops (f+g) t b []).drop f=Region.linearise.go md ops g t' c []:=by
 intro f;induction f with
 |zero=>exactλt b a h=>⟨b,t,a,h,by simp⟩
 |succ f k=>
  intro t b a h;have⟨i,s,j⟩:=AK (t:=t) h.1;have⟨_,r,d,_⟩:=mem_ready.1 j;have⟨v,_,l⟩:=yieldsAt_of_stOp d (h.2 i j).2;have⟨p,t',e,m,q⟩:=k (t/ (SJ md ops b).length) _ _ l;grind [go_step]
def li{N a w}{l:List Oper}(n)(T:P.follows .mixedOrders=true)(E:TZ .any l.toArray n=true)
 (h:∀K,RowKit.Hid (∀b,aV D l.toArray Q (SD n (l.length-n)) b w->K b)->∀r,r.heap=w.heap->wpStill P l.toArray r K (l.take n) a):cL D (T7 N l.toArray true) Q a w:=by
 simp only[TZ,Bool.and_eq_true,decide_eq_true_eq]at E;have⟨⟨⟨⟨s,G⟩,W⟩,R⟩,C⟩:=E;have k:(l.take n).length=n:=by grind
 have u:HeadInv .any l.toArray n (TD l.toArray.size false):=
  ⟨by simp,λj oj _ F=>(by rw[getD_replicate_false]at F;cases F),λt _ M=>getD_in (by simpa using M) (getD_replicate_false ..)⟩
 have H:=λr(y:World.heap r=w.heap)=>wpAnyL_lex (md:= .any) (g:=l.toArray.size-n) s W R G (l.take n) 0 _ a (λj X=>by
  have B:j<n:=by omega
  simp[B]) (by simpa using k) u (by rw[k];omega) ((h (λb=>aV D l.toArray Q (SD n (l.length-n)) b w) (AI λ_ h=>h)) r y)
 refine oM λt=> ?_
 simp only[Region.schedule,T,Bool.true_or,if_true];have e:(l.take n).length+(l.toArray.size-n)=l.toArray.size:=by omega
 generalize c:Region.linearise.go .any l.toArray l.toArray.size t (TD l.toArray.size false) []=f;have m:Region.linearise .any l.toArray t=f:=c;rw[m];have z:∀i d,wpOps P l.toArray (λe b p=>e= .normal/\aV D l.toArray Q (SD n (l.length-n)) b w/\∃i d,p=ah w i d) (f.take n) a (ah w i d):=λi d=>by
  have:=zN (g:=l.toArray.size-n) (Q1:=λe b p=>e= .normal/\aV D l.toArray Q (SD n (l.length-n)) b w/\∃i d,p=ah w i d) (λv a S=>⟨rfl,S.2,i,d,rfl⟩) _ t _ _ (H (ah w i d) rfl);rw[e,k,c]at this;omega
 have L:f.drop n=SD n (l.length-n):=by
  have⟨l',t',b,x,I⟩:=Ch (g:=l.toArray.size-n) _ t _ _ (H w rfl);rw[e,k,c,NN _ _ _ _ x.1]at I;omega
 have A:f=f.take n++SD n (l.length-n):=by rw[<- L];simp
 rw[A];exact r7 z (λb p q=>by
  obtain⟨_,x,i,d,rfl⟩:=q;exact Mc x i d) (λZ b p q=>by cases q.1) λb p q=>by cases q.1
end
def bQ{P}{D:dZ P}{x y Q a w}(M)(b:cL D x (Exit.then M Q) a w)(c:∀a w,M a w->cL D y Q a w):cL D (SF x y) Q a w:=
 xo (zK b λe a w h=>by cases e<;>first |exact c _ _ h|exact h)
def dp(n a)(h:a.size=n):a=((List.range n).map λi=>a.getD i undef).toArray:=by
 apply Array.ext;simp[h];simp_all
end
section
open Go.RowKit
attribute [local instance] dJ
variable{T:bz PA}
def qJ:Tok:=⟨0,0,0,0,0,0,0,0,false⟩
structure oJ where
 nb:Nat
 gb:Nat
 eb:Nat
 r:Nat
 e:Nat
 cap:Nat
 tm:Bool
 B:Nat
structure Rs(E:oJ)(w:SH)(n g er:SV):Prop where
 n:a7 w E.nb 62 #[n]
 g:a7 w E.gb 3 #[g]
 e:a7 w E.eb 81 #[er]
def Rs.af{E w w' n g b}(h:Rs E w n g b)(a:w'.heap=w.heap):Rs E w' n g b:=⟨h.n.af a,h.g.af a,h.e.af a⟩
def Rs.keep{E w w' n g c}(h:Rs E w n g c)(a:∀b,b=E.nb\/b=E.gb\/b=E.eb->w'.heap[b]?=w.heap[b]?):Rs E w' n g c:=⟨(a _ (.inl rfl)).trans h.n,(a _ (.inr (.inl rfl))).trans h.g,(a _ (.inr (.inr rfl))).trans h.e⟩
def xh(E:oJ)(b:SV)(c:List Deferred)(a:Act):Prop:=a.defers=c/\a.tmps.size=29/\a.tmps.getD 4 undef=AS (some ⟨E.nb,0,none⟩)/\a.tmps.getD 5 undef=AS (some ⟨E.gb,0,none⟩)/\a.tmps.getD 6 undef=AS (some ⟨E.eb,0,none⟩)/\a.tmps.getD 7 undef=b
def xh.out{E d e a}(h:xh E d e a):∃u:Nat->SV,a= {tmps:=#[u 0,u 1,u 2,u 3,AS (some ⟨E.nb,0,none⟩),AS (some ⟨E.gb,0,none⟩),AS (some ⟨E.eb,0,none⟩),d,u 8,u 9,u 10,u 11,u 12,u 13,u 14,u 15,u 16,u 17,u 18,u 19,u 20,u 21,u 22,u 23,u 24,u 25,u 26,u 27,u 28],defers:=e}:=by
 have⟨k,l,g,j,f,m⟩:=h;have⟨b,c⟩:=a;subst k;refine⟨λi=>b.getD i undef,?_⟩;rw[<- g,<- j,<- f,<- m];have:b=((List.range 29).map λi=>b.getD i undef).toArray:=by
  apply Array.ext;simp[l];simp_all
 exact congrArg (λt=>({tmps:=t,defers:=c}:Act)) this
def Im(E:oJ)(a:Nat):Deferred:= {target:= .fn (.func 75) #[AS (some ⟨E.nb,0,none⟩),AS (some ⟨E.gb,0,none⟩),AS (some ⟨E.eb,0,none⟩),AS (some ⟨a,0,none⟩)],args:=#[]}
structure PI(E:oJ)(pb p:Nat)(w0:SH)(s:g7)(w:SH):Prop where
 ps:jf p E.r E.e E.cap E.tm w s
 bx:w.cell? ⟨pb,0,none⟩=some (AS (some ⟨p,0,none⟩))
 kp:Kp E.B [E.nb,E.gb,E.eb,E.r] w0 w
 lt:E.B<=p/\E.B<=pb/\pb≠p
def PI.af{E c p b w w' s}(h:PI E c p b s w)(a:w'.heap=w.heap):PI E c p b s w':=⟨h.ps.af a,by simp[Tq,a];exact h.bx,h.kp.af a,h.lt⟩
def BQ{w a:SH}{b}(h:a.heap[b]?=w.heap[b]?)(i):a.cell? ⟨b,i,none⟩=w.cell? ⟨b,i,none⟩:=by simp[Tq,h]
def KJ{w:SH}{b i v}(h:w.cell? ⟨b,i,none⟩=some v):b<w.heap.size:=by
 grind [Tq]
theorem PI.call{E b p f w c s g}(h:PI E b p f s w)(i:E.r<E.B)(d:jf p E.r E.e E.cap E.tm c g)(e:Kp w.heap.size [p,E.r] w c):PI E b p f g c:=by
 have⟨j,l,m⟩:=h.lt;have a:=KJ h.bx;refine⟨d,(BQ (e.2 b a (by grind)) 0).trans h.bx,h.kp.trans (e.mono (by omega) λx k a=> ?_),h.lt⟩;grind
def PI.set{E c p b i v e u s}(hI:PI E c p e s u)(d:b=E.nb\/b=E.gb\/b=E.eb)(f:E.nb<E.B/\E.gb<E.B/\E.eb<E.B)(g:E.r≠E.nb/\E.r≠E.gb/\E.r≠E.eb):PI E c p e s (u.setCell ⟨b,i,none⟩ v):=by
 have⟨j,k,l⟩:=hI.lt;have a:∀x,x≠b->(u.setCell ⟨b,i,none⟩ v).heap[x]?=u.heap[x]?:=λx h=>Below.heap_setCell u _ _ x h
 refine⟨hI.ps.keep (a p (by omega)) (a E.r (by rcases d with rfl|rfl|rfl<;>omega)),(BQ (a c (by omega)) 0).trans hI.bx,hI.kp.setCell λ_=>by rcases d with rfl|rfl|rfl<;>simp v,hI.lt⟩
theorem Rs.call{E w c n g b p}(h:Rs E w n g b)(a:Kp w.heap.size [p,E.r] w c)(e:E.nb<E.B/\E.gb<E.B/\E.eb<E.B)(f:E.B<=p)(d:E.r≠E.nb/\E.r≠E.gb/\E.r≠E.eb):Rs E c n g b:=by
 refine⟨(a.2 _ h.n.lt ?_).trans h.n,(a.2 _ h.g.lt ?_).trans h.g,(a.2 _ h.e.lt ?_).trans h.e⟩<;>(simp;omega)
def Came(E:oJ)(w:SH)(x:eJ Nd)(n g a:SV):Prop:=match x with| .ok c s=>a=SE/\g=Su Sw s.g/\Repr w (λb=>E.B<=b) n c| .err y s=>n=SE/\g=Su Sw 0/\∃q,a=Sy 120 (AS q)/\ErrAt E.e E.B w s.t.bad y q
def PQ(E:oJ)(c p:Nat)(d:SH)(x:eJ Nd)(e:Exit)(a:Act)(w:SH):Prop:=match x with| .ok h s=>e= .ret/\xh E (AS (some ⟨c,0,none⟩)) [Im E c] a/\PI E c p d s w/\∃n,Rs E w n (Su Sw s.g) SE/\Repr w (λb=>E.B<=b) n h| .err y s=>xh E (AS (some ⟨c,0,none⟩)) [Im E c] a/\PI E c p d s w/\∃q,e= .panic (thrown q)/\ErrAt E.e E.B w s.t.bad y q/\∃n g f,Rs E w n g f
theorem F2{p0 p1 p2 p4 p5 p6 p7 p8}(hc:(Tryz.f53).body=some (SF p0 (SF p1 (SF p2 (SF p4 (SF p5 (SF p6 (SF p7 p8))))))))
 {E L p w0 w ts x n0 g0 e0 a} (hx:pT qJ ts=some x) (I:xh E (AS (some ⟨L,0,none⟩)) [] a) (hI:PI E L p w0 ⟨ts,qJ,0,0⟩ w) (hR:Rs E w n0 g0 e0)
 (Z:E.nb≠E.gb/\E.nb≠E.eb/\E.gb≠E.eb) (W:E.nb<E.B/\E.gb<E.B/\E.eb<E.B) (hrB:E.r<E.B) (Q:E.r≠E.nb/\E.r≠E.gb/\E.r≠E.eb):
 cL (aH T) (SF p4 (SF p5 (SF p6 (SF p7 p8)))) (PQ E L p w0 x) a w:=by
 cases hc;obtain⟨u,rfl⟩:=I.out;clear I;replace hI:=AI hI;replace hR:=AI hR;refine bQ (λa' w'=>xh E (AS (some ⟨L,0,none⟩)) [Im E L] a'/\PI E L p w0 ⟨ts,qJ,0,0⟩ w'/\Rs E w' n0 g0 e0) ?_ ?_
 .refine ag λw1 c=> ?_
  replace hI:=AI (hI.out.af c);replace hR:=AI (hR.out.af c);clear c;go_wp2;exact⟨⟨rfl,rfl,rfl,rfl,rfl,rfl⟩,hI.out,hR.out⟩
 intro a w1 ⟨I,e,A⟩;obtain⟨u,rfl⟩:=I.out;clear I hI hR;replace e:=AI e;replace A:=AI A;have⟨z,hz,j⟩:∃z,cy ⟨ts,qJ,0,0⟩=some z/\bN (some z) (λ_ s=>im deep 0 s)=some x:=by
  unfold pT at hx;cases hp:cy ⟨ts,qJ,0,0⟩with
  |none=>rw[hp]at hx;cases hx
  |some z=>rw[hp]at hx;exact⟨z,rfl,hx⟩
 refine ac λK hK=> ?_
 refine ao ?_;show aV _ _ _ (SD 0 (1+1)) ..;refine aW 0 1 1 (λN hN w2 c=> ?_) (by decide);simp only[zq1];replace e:=AI (e.out.af c);replace A:=AI (A.out.af c);have c7:w2.cell? ⟨L,0,none⟩=some (AS (some ⟨p,0,none⟩)):=e.out.bx;replace j:=AI j;clear c;go_wp2;refine hN.out _ _ ?_;clear hN N c7;refine bF (f:=76) (i:=1) (rest:=[]) rfl rfl λu=>by simp[go_sem] trivial (mf hz e.out.ps) (λu2 w3 n=> ?_) λch w3 n=> ?_
 rotate_left
 .have⟨C,n⟩:=n;cases z with
  |ok _ G=>have⟨_,h⟩:=n;cases h
  |err e2 G=>
   obtain⟨rfl,hP3,hch⟩:=n;cases hch;cases Option.some.inj j.out;exact⟨⟨rfl,rfl,rfl,rfl,rfl,rfl⟩,e.out.call hrB hP3 C,_,rfl,rfl,_,_,_,A.out.call C W e.out.lt.1 Q⟩
 have⟨C,n⟩:=n;cases z with
 |err e2 G=>have⟨_,_,h⟩:=n;cases h
 |ok _ s1=>
 have g:=AI (e.out.call hrB n.1 C);have S:=AI (A.out.call C W e.out.lt.1 Q);have j:im deep 0 s1=some x:=j.out;clear e A C n;refine az (hK.out _ _ ?_);simp only[Sz,zq0];clear hK K;refine ac λK hK=> ?_
 refine ao ?_;show aV _ _ _ (SD 0 (1+2)) ..;refine aW 0 1 2 (λN hN w4 c=> ?_) (by decide);simp only[zq1];replace g:=AI (g.out.af c);replace S:=AI (S.out.af c);have c7:w4.cell? ⟨L,0,none⟩=some (AS (some ⟨p,0,none⟩)):=g.out.bx;replace j:=AI j;clear c;go_wp2;refine hN.out _ _ ?_;clear hN N c7;have hBw:E.B<=w4.heap.size:=by have:=g.out.ps.lt.1;have:=g.out.lt.1;omega
 refine bF (f:=77) (i:=1) (rest:=SD 2 (1+0)) rfl rfl λu=>by simp[go_sem] trivial (JF deep 0 s1 w4 x j.out g.out.ps) (λv w5 n=> ?_) λch w5 n=> ?_
 rotate_left
 .cases x with
  |ok nd G=>have⟨v,h,_⟩:=n;cases h
  |err y G=>
   have⟨q,h,hP5,D,hE⟩:=n;cases h;exact⟨⟨rfl,rfl,rfl,rfl,rfl,rfl⟩,g.out.call hrB hP5 D,_,rfl,hE.mono hBw,_,_,_,S.out.call D W g.out.lt.1 Q⟩
 cases x with
 |err y G=>have⟨q,h,_⟩:=n;cases h
 |ok nd G=>
 have⟨v',h,hP5,D,r⟩:=n;cases h;have hI5:=AI (g.out.call hrB hP5 D);have k:=AI (S.out.call D W g.out.lt.1 Q);replace r:=AI (r.mono (S':=λb=>E.B<=b) λb hb _=>T8 hBw hb);clear g S hP5 D j;simp only[Sz,zq0];obtain⟨X,H,rfl⟩:=r.out.form;refine aW 2 1 0 (λN hN w6 c=> ?_) (by decide);simp only[zq1];replace hI5:=AI (hI5.out.af c);replace k:=AI (k.out.af c);replace r:=AI (r.out.keep (w':=w6) λb _ _=>by rw[c]);have cn:w6.cell? ⟨E.nb,0,none⟩=some _:=k.out.n.cell 0;have fn:∀i,w6.frozen? ⟨E.nb,i,none⟩=false:=k.out.n.frozen;clear c;go_wp2;refine hN.out _ _ (az (hK.out _ _ ?_));clear hN N hK K cn fn;have B:=λ(b i:Nat)(v:SV)(u:SH)(hI:PI E L p w0 G u)(hb:b=E.nb\/b=E.gb\/b=E.eb)=>PI.set (b:=b) (i:=i) (v:=v) hI hb W Q
 have t:=AI (B E.nb 0 (Sy X (AS (some ⟨H,0,none⟩))) w6 hI5.out (.inl rfl));have d:Rs E (w6.setCell ⟨E.nb,0,none⟩ (Sy X (AS (some ⟨H,0,none⟩)))) (Sy X (AS (some ⟨H,0,none⟩))) g0 e0:=⟨k.out.n.bI 0 _,k.out.g.far (SZ Z.1) _,k.out.e.far (SZ Z.2.1) _⟩;have m:Repr (w6.setCell ⟨E.nb,0,none⟩ (Sy X (AS (some ⟨H,0,none⟩)))) (λb=>E.B<=b) (Sy X (AS (some ⟨H,0,none⟩))) nd:=r.out.keep λb hb _=>Below.heap_setCell _ _ _ b (by dsimp only;omega)
 replace d:=AI d;replace m:=AI m;clear hI5 k r;generalize w6.setCell ⟨E.nb,0,none⟩ (Sy X (AS (some ⟨H,0,none⟩)))=w7 at *;clear w6;refine ac λM hM=> ?_
 refine ag λF c=> ?_
 have c7:F.cell? ⟨L,0,none⟩=some (AS (some ⟨p,0,none⟩)):=(t.out.af c).bx;have cp:F.cell? ⟨p,11,none⟩=some (Su Sw G.g):=(t.out.af c).ps.blk.cell 11;replace t:=AI (t.out.af c);replace d:=AI (d.out.af c);replace m:=AI (m.out.keep (w':=F) λb _ _=>by rw[c]);have cn:F.cell? ⟨E.nb,0,none⟩=some _:=d.out.n.cell 0;have fn:∀i,F.frozen? ⟨E.nb,i,none⟩=false:=d.out.n.frozen;have cg:F.cell? ⟨E.gb,0,none⟩=some _:=d.out.g.cell 0;have fg:∀i,F.frozen? ⟨E.gb,i,none⟩=false:=d.out.g.frozen;have ce:F.cell? ⟨E.eb,0,none⟩=some _:=d.out.e.cell 0;have fe:∀i,F.frozen? ⟨E.eb,i,none⟩=false:=d.out.e.frozen;have n1:=Z.1;have n2:=Z.2.1;have n3:=Z.2.2;have n4:=SZ n1;have n5:=SZ n2;have n6:=SZ n3;have hpn:p≠E.nb:=by have:=t.out.lt.1;omega
 have hqn:L≠E.nb:=by have:=t.out.lt.2.1;omega
 clear c;go_wp2;go_region
 go_wp2;refine hM.out _ _ ?_;have P:=B E.eb 0 SE _ (B E.gb 0 (Su Sw G.g) _ (B E.nb 0 (Sy X (AS (some ⟨H,0,none⟩))) F t.out (.inl rfl)) (.inr (.inl rfl))) (.inr (.inr rfl));have R:Rs E (((F.setCell ⟨E.nb,0,none⟩ (Sy X (AS (some ⟨H,0,none⟩)))).setCell ⟨E.gb,0,none⟩ (Su Sw G.g)).setCell ⟨E.eb,0,none⟩ SE) (Sy X (AS (some ⟨H,0,none⟩))) (Su Sw G.g) SE:=
  ⟨((d.out.n.bI 0 _).far n1 _).far n2 _,((d.out.g.far n4 _).bI 0 _).far n3 _,((d.out.e.far n5 _).far n6 _).bI 0 _⟩
 have l:Repr (((F.setCell ⟨E.nb,0,none⟩ (Sy X (AS (some ⟨H,0,none⟩)))).setCell ⟨E.gb,0,none⟩ (Su Sw G.g)).setCell ⟨E.eb,0,none⟩ SE) (λb=>E.B<=b) (Sy X (AS (some ⟨H,0,none⟩))) nd:=
  m.out.keep λb hb _=>(Below.heap_setCell _ _ _ b (by dsimp only;omega)).trans ((Below.heap_setCell _ _ _ b (by dsimp only;omega)).trans (Below.heap_setCell _ _ _ b (by dsimp only;omega)))
 replace P:=AI P;replace R:=AI R;replace l:=AI l;generalize SQ (SQ (SQ ..) ..) .. =w9 at *;refine ag λwa c=> ?_
 replace P:=AI (P.out.af c);replace R:=AI (R.out.af c);replace l:=AI (l.out.keep (w':=wa) λb _ _=>by rw[c];rfl);go_wp2;exact⟨rfl,⟨rfl,rfl,rfl,rfl,rfl,rfl⟩,P.out,_,R.out,l.out⟩
def Jy{P}{b:Tp}{a c i rest o k e d v w}(m:b.kind=Ty)(n:b.roundOf=none)(j:c[i]?=some o)(q:Region.wanted o (yielded c a.tmps)=true)
 (p:(execOp a.eval o).run P w= .ok .recover w) (h:recoverD e=some (v,d)\/recoverD e=none/\v=SE/\d=e):
 step P (lone (b.at a (SO c (i::rest)::k)) e w)= .next (lone (b.at (a.put o.dst v) (SO c rest::k)) d w):=by
 have g:∀v,(b.at a (SO c (i::rest)::k)).finish v=b.at (a.put o.dst v) (SO c rest::k):=λv=>by simp[U2,j]
 have l:(b.at a (SO c (i::rest)::k)).kind=Ty:=m;have f:=tryRecover_deferred l e;refine step_lone_go ?_;rw[stepG_op (P:=P) (b:=b) (k:=k) (cs:=e) (w:=w) (rest:=rest) j q,<- g];simp[Frame.at]at f ⊢;rcases h with h|⟨h,rfl,rfl⟩
 simp[stepG.apply,p,f,h];simp_all[stepG.apply]
section
variable{P:Program}{D:dZ P}{K:Goroutine->SH->Prop}{c:Code}{a:Act}{w:SH}{b:Tp}{k:List Item}{cs:List Tp}{ops:Array Oper}{l:List Nat}
def s9{M:Act->SH->Prop}(h:cL D c (λe a w=>e= .normal/\M a w) a w)(d:D.okF b.fn)(i:b.kind≠.early)(j:∀a w,M a w->D.H K (bO (b.at a k) cs) w):D.H K (bO (b.at a (Tn c::k)) cs) w:=
 h b k cs K d i λe m n ⟨g,f⟩=>by subst g;exact j _ _ f
def r6{M:Act->SH->Prop}(h:aV D ops (λe a w=>e= .normal/\M a w) l a w)(d:D.okF b.fn)(f:b.kind≠.early)(i:∀a w,M a w->D.H K (bO (b.at a k) cs) w):D.H K (bO (b.at a (SO ops l::k)) cs) w:=
 h b k cs K d f λe m n ⟨g,j⟩=>by subst g;exact i _ _ j
end
def QF(b d v2 c:SV)(a:Act):Prop:=a.defers=[]/\a.tmps.size=17/\a.tmps.getD 0 undef=b/\a.tmps.getD 1 undef=d/\a.tmps.getD 2 undef=v2/\a.tmps.getD 3 undef=c
def QF.out{e b v2 d a}(h:QF e b v2 d a):∃u:Nat->SV,a= {tmps:=(e::b::v2::d::u 4::u 5::u 6::u 7::u 8::u 9::u 10::u 11::u 12::u 13::u 14::u 15::u 16::[]).toArray,defers:=[]}:=by
 have⟨g,f,rfl,rfl,rfl,rfl⟩:=h;have⟨c,j⟩:=a;subst g;exact⟨λi=>c.getD i undef,congrArg (λt=>({tmps:=t,defers:=[]}:Act)) (dp 17 c f)⟩
def QG(c e v2 d b:SV)(a:Act):Prop:=a.defers=[]/\a.tmps.size=17/\a.tmps.getD 0 undef=c/\a.tmps.getD 1 undef=e/\a.tmps.getD 2 undef=v2/\a.tmps.getD 3 undef=d/\a.tmps.getD 14 undef=b
def QG.out{e c v2 f b a}(h:QG e c v2 f b a):∃u:Nat->SV,a= {tmps:=(e::c::v2::f::u 4::u 5::u 6::u 7::u 8::u 9::u 10::u 11::u 12::u 13::b::u 15::u 16::[]).toArray,defers:=[]}:=by
 have⟨j,g,rfl,rfl,rfl,rfl,rfl⟩:=h;have⟨d,k⟩:=a;subst j;exact⟨λi=>d.getD i undef,congrArg (λt=>({tmps:=t,defers:=[]}:Act)) (dp 17 d g)⟩
abbrev vp(b:Nat):SV:=AS (some ⟨b,0,none⟩)
structure KU(E:oJ)(PF:Tp):Prop where
 fn:PF.fn=53
 kind:PF.kind= .normal
 round:PF.roundOf=none
 defers:PF.defers=[]
 mode:PF.mode= .returning\/∃v,PF.mode= .panicking [{v:=v,recovered:=true}]
 size:PF.tmps.size=29
 s4:PF.tmps.getD 4 undef=vp E.nb
 s5:PF.tmps.getD 5 undef=vp E.gb
 s6:PF.tmps.getD 6 undef=vp E.eb
structure Fin(E:oJ)(w0:SH)(x:eJ Nd)(w:SH):Prop where
 kp:Kp E.B [E.nb,E.gb,E.eb,E.r] w0 w
 came:∃n g er,Rs E w n g er/\Came E w x n g er
def ErrAt.keep{e B w w' c x q}(h:ErrAt e B w c x q)(i:∀b,B<=b->b<w.heap.size->w'.heap[b]?=w.heap[b]?):ErrAt e B w' c x q:=by
 cases x with
 |tok=>exact h
 |own k a=>have⟨q,g,f,d⟩:=h;exact⟨q,g,f,(i q f d.lt).trans d⟩
def Came.keep{E w w' x n g d}(h:Came E w x n g d)(c:∀b,E.B<=b->b<w.heap.size->w'.heap[b]?=w.heap[b]?):Came E w' x n g d:=by
 cases x with
 |ok l s=>exact⟨h.1,h.2.1,h.2.2.keep λb e a=>c b e a⟩
 |err y s=>have⟨k,j,q,f,i⟩:=h;exact⟨k,j,q,f,i.keep c⟩
def Fin.af{E c w w' x}(h:Fin E c x w)(a:w'.heap=w.heap):Fin E c x w':=by
 have⟨n,g,e,d,f⟩:=h.came;exact⟨h.kp.af a,n,g,e,d.af a,f.keep λb _ _=>by rw[a]⟩
def Fin.ay{E i w x}(h:Fin E i x w){o}(m:w.heap[E.r]?=some o)(p:E.r<E.B)(d)(a:E.r≠E.nb/\E.r≠E.gb/\E.r≠E.eb):Fin E i x (ay w E.r d):=by
 have⟨n,g,k,j,l⟩:=h.came;have f:∀b,b≠E.r->(Go.Proofs.YtkgohmcmmcpigabGreatDoor.ay w E.r d).heap[b]?=w.heap[b]?:=λb c=>by
  show(w.heap.setIfInBounds E.r d)[b]?=_;rw[Tm (SZ c)]
 exact⟨h.kp.ay λ_=>by simp d,n,g,k,j.keep λb c=>f b (c.elim (λe=>e▸SZ a.1) λc=>c.elim (λe=>e▸SZ a.2.1) λe=>e▸SZ a.2.2),l.keep λb c _=>f b (by omega)⟩
def rW:Tp:= {(default:Tp)with fn:=75,kind:=Ty}
def pG(E:oJ)(b:Array Oper)(k:List Item)(f:Tp)(h:SH)(x:eJ Nd)(g:Goroutine)(w:SH):Prop:=
 ∃a c d,g=bO (rW.at a (SO b [0,1]::k)) [c,f]/\QG (vp E.nb) (vp E.gb) (vp E.eb) (vp d) (SR (some E.r)) a/\KU E c/\(∃s e,w.heap[E.r]?=some (Tr E.cap #[] false s e E.tm))/\Fin E h x w
theorem drain{B F G K h i j d}(P:(Tryz.f75).body=some (SF (SF B (SF F G)) (SF K (.block i (.loop (SF (T7 j d false) h))))))
 {E A l q r x} (p:KU E l) (L:E.r<E.B) (y:E.r≠E.nb/\E.r≠E.gb/\E.r≠E.eb):∀(f:List Tok) a w s g,QG (vp E.nb) (vp E.gb) (vp E.eb) (vp q) (SR (some E.r)) a->w.heap[E.r]?=some (Tr E.cap (f.map (Tok.val E.e)).toArray false s g E.tm)->Fin E r x w->
 (aH T).H (pG E d [Tn h,TH (SF (T7 j d false) h),Tx i] A r x) (bO (rW.at a (Tn (SF (T7 j d false) h)::[TH (SF (T7 j d false) h),Tx i])) [l,A]) w:=by
 cases P;intro f;induction f with
 |nil=>
  intro a w s g k c n;exact(aH T).one (λu=>step_seq) trivial ((aH T).one (λu=>step_region) trivial ((aH T).stop _ _ _ ⟨a,l,q,rfl,k,p,⟨s,g,c⟩,n⟩))
 |cons t f Q=>
  intro a w s g k c n;refine(aH T).one (λu=>step_seq) trivial ((aH T).one (λu=>step_region) trivial ?_);obtain⟨u,rfl⟩:=k.out;have e:=n.ay c L (Tr E.cap (f.map (Tok.val E.e)).toArray false s (g+1) E.tm) y;refine r6 (M:=λa w=>QG (vp E.nb) (vp E.gb) (vp E.eb) (vp q) (SR (some E.r)) a/\a.tmps.getD 16 undef= .bool true/\w.heap[E.r]?=some (Tr E.cap (f.map (Tok.val E.e)).toArray false s (g+1) E.tm)/\Fin E r x w) ?_ trivial (by simp[rW]) ?_<;>first |(refine yy (i:=0) (rest:=SD 1 (1+0)) (v:=Tok.val E.e t) rfl rfl (PA.recv E.r rfl rfl) (by rw[c];rfl) ?_;refine aW 1 1 0 (λN I C z=> ?_) (by decide);have b:=(congrArg (·[E.r]?) z).trans (rq (o:=Tr E.cap (f.map (Tok.val E.e)).toArray false s (g+1) E.tm) c);replace e:=AI (e.af z);replace b:=AI b;go_wp2;exact I.out _ _ (az ⟨rfl,⟨⟨rfl,rfl,rfl,rfl,rfl,rfl,rfl⟩,rfl,b.out,e.out⟩⟩))|(intro a C ⟨k,m,b,D⟩;refine(aH T).one (λu=>step_seq) trivial ((aH T).one (λu=>step_cond (t:=true) m) trivial ((aH T).one (λu=>step_skip) trivial ?_));refine(aH T).one (λu=>step_block) trivial ((aH T).one (λu=>step_skip) trivial ((aH T).one (λu=>step_inBlock) trivial ((aH T).one (λu=>step_inLoop) trivial ?_)));grind)
def QR(b e v2 c d:SV)(a:Act):Prop:=a.defers=[]/\a.tmps.size=17/\a.tmps.getD 0 undef=b/\a.tmps.getD 1 undef=e/\a.tmps.getD 2 undef=v2/\a.tmps.getD 3 undef=c/\a.tmps.getD 4 undef=d
def QR.out{e f v2 d b a}(h:QR e f v2 d b a):∃u:Nat->SV,a= {tmps:=(e::f::v2::d::b::u 5::u 6::u 7::u 8::u 9::u 10::u 11::u 12::u 13::u 14::u 15::u 16::[]).toArray,defers:=[]}:=by
 have⟨j,g,rfl,rfl,rfl,rfl,rfl⟩:=h;have⟨c,k⟩:=a;subst j;exact⟨λi=>c.getD i undef,congrArg (λt=>({tmps:=t,defers:=[]}:Act)) (dp 17 c g)⟩
@[go_sem] theorem P6(q w):(TY (Sy 120 (AS q)) 20 120 false).run PA w= .ok (AS q) w:=by
 simp[TY,go_sem]
def gw:Tp:= {(default:Tp)with fn:=53,kind:= .normal}
theorem AP{E:oJ}{a c}(b:(Tryz.f75).body=some c):TX PA 75 #[vp E.nb,vp E.gb,vp E.eb,vp a] Ty=rW.at {tmps:=#[vp E.nb,vp E.gb,vp E.eb,vp a]++TD (17-4) undef,defers:=[]} [Tn c]:=by
 have d:=PA.func Tryz.func75 (by decide);simp_all[TX,Frame.at,rW]
theorem H0{q0 q1 q2 q3 cQ i iQ ops}(hc:(Tryz.f75).body=some (SF (SF q0 (SF q1 q2)) (SF q3 (.block i (.loop (SF (T7 iQ ops false) cQ))))))
 {E G z p W w x e a r} (hr:E.r<E.B) (I:E.r≠E.nb/\E.r≠E.gb/\E.r≠E.eb) (S:E.nb≠E.gb/\E.nb≠E.eb/\E.gb≠E.eb) (X:E.nb<E.B/\E.gb<E.B/\E.eb<E.B)
 (h:PQ E z p W x e a w) (L) (m:e= .ret/\r= {gw.at a L with mode:= .returning}\/∃ch,e= .panic ch/\r= {gw.at a L with mode:= .panicking ch}):
 (aH T).H (pG E ops [Tn cQ,TH (SF (T7 iQ ops false) cQ),Tx i] G W x) (bO r [G]) w:=by
 have hent:= @AP E z _ hc;have D:=λPF P=> @drain T _ _ _ _ _ _ _ _ hc E G PF z W x P hr I
 replace D:=AI D;cases hc;obtain⟨s,hPI,k,B⟩:∃s,PI E z p W s w/\xh E (vp z) [Im E z] a/\((∃R n,x= .ok R s/\e= .ret/\Rs E w n (Su Sw s.g) SE/\Repr w (λb=>E.B<=b) n R)\/∃y q n g l,x= .err y s/\e= .panic (thrown q)/\ErrAt E.e E.B w s.t.bad y q/\Rs E w n g l):=by
  cases x with
  |ok R s=>obtain⟨A,Z,h3,n,h4,h5⟩:=h;exact⟨s,h3,Z,.inl ⟨R,n,rfl,A,h4,h5⟩⟩
  |err y s=>obtain⟨Z,h3,q,A,h4,n,g,l,h5⟩:=h;exact⟨s,h3,Z,.inr ⟨y,q,n,g,l,rfl,A,h4,h5⟩⟩
 have hfa:r.fn=53/\r.kind= .normal/\r.roundOf=none/\r.defers=[Im E z]/\r.tmps=a.tmps/\r.mode≠.run:=by
  rcases m with⟨_,rfl⟩|⟨ch,_,rfl⟩<;>exact⟨rfl,rfl,rfl,k.1,rfl,by simp⟩
 obtain⟨f1,f2,f3,f4,K,f6⟩:=hfa;refine(aH T).one (fr':=TX PA 75 #[vp E.nb,vp E.gb,vp E.eb,vp z] Ty) (cs':= {r with defers:=[]}::[G]) (λu=>step_defer f6 f4 rfl ?_) trivial ?_
 .exact PA.call _ u rfl
 rw[hent];refine(aH T).one (λu=>step_seq) trivial ((aH T).one (λu=>step_seq) trivial ((aH T).one (λu=>step_region) trivial ?_));obtain⟨PF,v,P,hrec,hv⟩:∃PF v,KU E PF/\(recoverD [{r with defers:=[]},G]=some (v,[PF,G])\/recoverD [{r with defers:=[]},G]=none/\v=SE/\[PF,G]=[{r with defers:=[]},G])/\
  (e= .ret/\v=SE\/∃q,e= .panic (thrown q)/\v=Sy 120 (AS q)):=by
  rcases m with⟨d,m⟩|⟨ch,d,m⟩
  .refine⟨{r with defers:=[]},SE,⟨f1,f2,f3,rfl,.inl (by rw[m]),by rw[K];exact k.2.1,by rw[K];exact k.2.2.1,by rw[K];exact k.2.2.2.1,by rw[K];exact k.2.2.2.2.1⟩,.inr ⟨?_,rfl,rfl⟩,.inl ⟨d,rfl⟩⟩;rw[m];rfl
  .rcases B with⟨R,n,_,A,_⟩|⟨y,q,n,g,l,_,A,_⟩
   .rw[A]at d;cases d
   .rw[A]at d;cases d;refine⟨{r with defers:=[],mode:= .panicking [{v:=Sy 120 (AS q),recovered:=true}]},Sy 120 (AS q),⟨f1,f2,f3,rfl,.inr ⟨_,rfl⟩,by rw[K];exact k.2.1,by rw[K];exact k.2.2.1,by rw[K];exact k.2.2.2.1,by rw[K];exact k.2.2.2.2.1⟩,.inl ?_,.inr ⟨q,A,rfl⟩⟩;rw[m];rfl
 refine(aH T).one (λu=>Jy (i:=0) rfl rfl rfl rfl ?_ hrec) trivial ?_
 .simp[execOp,go_sem]
 refine r6 (M:=λa F=>QR (vp E.nb) (vp E.gb) (vp E.eb) (vp z) v a/\F.heap=w.heap) ?_ trivial (by simp[rW]) ?_
 .show aV _ _ _ (SD 1 (1+0)) ..;refine aW 1 1 0 (λN hN t d=> ?_) (by decide);simp only[zq1];simp only[SS,SL,T4,Tb,Ta,SN,SM,SU,SP,T0,SX,Sz,Tu,TR,TQ];go_wp2;refine hN.out _ _ (az ⟨rfl,⟨rfl,rfl,rfl,rfl,rfl,rfl,rfl⟩,d⟩)
 intro a1 w1 ⟨ha1,C⟩;obtain⟨u,rfl⟩:=ha1.out;have j:=AI (hPI.af C);replace D:=AI (D.out PF P);refine s9 (M:=λa F=>QF (vp E.nb) (vp E.gb) (vp E.eb) (vp z) a/\PI E z p W s F/\∃n g l,Rs E F n g l/\Came E F x n g l) ?_ trivial (by simp[rW]) ?_
 .rcases B with⟨R,n,hx,A,Z,h3⟩|⟨y,q,n,g,l,hx,A,Z,h3⟩
  .have hvn:v=SE:=by
    rcases hv with⟨_,h⟩|⟨q,h,_⟩
    .exact h
    .rw[A]at h;cases h
   subst hvn;subst hx;refine ag λt d=> ?_
   have Q:∃n g l,Rs E t n g l/\Came E t (.ok R s) n g l:=⟨n,_,_,Z.af (d.trans C),rfl,rfl,h3.keep λb _ _=>by rw[d,C]⟩;replace j:=AI (j.out.af d);replace Q:=AI Q;go_wp2;refine⟨?_,j.out,Q.out⟩;exact⟨rfl,rfl,rfl,rfl,rfl,rfl⟩
  .obtain⟨q',hq1,rfl⟩:∃q',Exit.panic (thrown q)= .panic (thrown q')/\v=Sy 120 (AS q'):=by
    rcases hv with⟨h,_⟩|⟨q',h,hv⟩
    .rw[A]at h;cases h
    .exact⟨q',A.symm.trans h,hv⟩
   obtain rfl:q=q':=by
    simp only[thrown,Exit.panic.injEq,List.cons.injEq,PanicEntry.mk.injEq,Value.iface.injEq,Value.pointer.injEq,true_and,and_true]at hq1;exact hq1
   subst hx;refine ag λt d=> ?_
   have c:=h3.af (d.trans C);have hE2:ErrAt E.e E.B t s.t.bad y q:=Z.keep λb _ _=>by rw[d,C]
   replace j:=AI (j.out.af d);have cn:t.cell? ⟨E.nb,0,none⟩=some _:=c.n.cell 0;have fn:∀i,t.frozen? ⟨E.nb,i,none⟩=false:=c.n.frozen;have cg:t.cell? ⟨E.gb,0,none⟩=some _:=c.g.cell 0;have fg:∀i,t.frozen? ⟨E.gb,i,none⟩=false:=c.g.frozen;have ce:t.cell? ⟨E.eb,0,none⟩=some _:=c.e.cell 0;have fe:∀i,t.frozen? ⟨E.eb,i,none⟩=false:=c.e.frozen;have n1:=S.1;have n2:=S.2.1;have n3:=S.2.2;have n4:=SZ n1;have n5:=SZ n2;have n6:=SZ n3;replace c:=AI c;replace hE2:=AI hE2;go_wp2;go_region
   go_wp2;have hI9:PI E z p W s (((t.setCell ⟨E.nb,0,none⟩ SE).setCell ⟨E.gb,0,none⟩ (Su Sw 0)).setCell ⟨E.eb,0,none⟩ (Sy 120 (AS q))):=((j.out.set (.inl rfl) X I).set (.inr (.inl rfl)) X I).set (.inr (.inr rfl)) X I;have hR9:Rs E (((t.setCell ⟨E.nb,0,none⟩ SE).setCell ⟨E.gb,0,none⟩ (Su Sw 0)).setCell ⟨E.eb,0,none⟩ (Sy 120 (AS q))) SE (Su Sw 0) (Sy 120 (AS q)):=
    ⟨((c.out.n.bI 0 _).far n1 _).far n2 _,((c.out.g.far n4 _).bI 0 _).far n3 _,((c.out.e.far n5 _).far n6 _).bI 0 _⟩
   have hE9:ErrAt E.e E.B (((t.setCell ⟨E.nb,0,none⟩ SE).setCell ⟨E.gb,0,none⟩ (Su Sw 0)).setCell ⟨E.eb,0,none⟩ (Sy 120 (AS q))) s.t.bad y q:=
    hE2.out.keep λb hb _=>(Below.heap_setCell _ _ _ b (by dsimp only;omega)).trans ((Below.heap_setCell _ _ _ b (by dsimp only;omega)).trans (Below.heap_setCell _ _ _ b (by dsimp only;omega)))
   refine⟨?_,hI9.af rfl,_,_,_,hR9.af rfl,rfl,rfl,q,rfl,hE9.keep λ_ _ _=>rfl⟩;exact⟨rfl,rfl,rfl,rfl,rfl,rfl⟩
 intro a2 t ⟨ha2,hPI2,hC2⟩;obtain⟨u,rfl⟩:=ha2.out;refine(aH T).one (λu=>step_seq) trivial ?_;refine s9 (M:=λa F=>QG (vp E.nb) (vp E.gb) (vp E.eb) (vp z) (SR (some E.r)) a/\PI E z p W s F/\∃n g l,Rs E F n g l/\Came E F x n g l) ?_ trivial (by simp[rW]) ?_
 .refine ag λw3 d=> ?_
  have Q:∃n g l,Rs E w3 n g l/\Came E w3 x n g l:=by
   have⟨n,g,l,k1,k2⟩:=hC2;exact⟨n,g,l,k1.af d,k2.keep λb _ _=>by rw[d]⟩
  have f:=AI (hPI2.af d);have c1:w3.cell? ⟨z,0,none⟩=some (AS (some ⟨p,0,none⟩)):=f.out.bx;have c2:w3.cell? ⟨p,0,none⟩=some (SR (some E.r)):=f.out.ps.blk.cell 0;replace Q:=AI Q;go_wp2;refine⟨?_,f.out,Q.out⟩;exact⟨rfl,rfl,rfl,rfl,rfl,rfl,rfl⟩
 intro a3 w3 ⟨ha3,f,hC3⟩;refine(aH T).one (λu=>step_block) trivial ((aH T).one (λu=>step_loop) trivial ?_);have⟨sn,rc,hch⟩:=f.ps.chan;exact D.out s.ts a3 w3 sn rc ha3 hch ⟨f.kp,hC3⟩
def IK(b:SV)(a:Act):Prop:=a.defers=[]/\a.tmps.size=18/\a.tmps.getD 5 undef=b
def IK.out{c a}(h:IK c a):∃u:Nat->SV,a= {tmps:=(u 0::u 1::u 2::u 3::u 4::c::u 6::u 7::u 8::u 9::u 10::u 11::u 12::u 13::u 14::u 15::u 16::u 17::[]).toArray,defers:=[]}:=by
 have⟨d,e,rfl⟩:=h;have⟨b,f⟩:=a;subst d;exact⟨λi=>b.getD i undef,congrArg (λt=>({tmps:=t,defers:=[]}:Act)) (dp 18 b e)⟩
def pu:Tp:= {(default:Tp)with fn:=74,kind:= .normal}
def Gf:PA.funcs[74]?=some (ax bA 74 Tryz.f74):=by
 simp[@ft Tryz.prog bA 74]
def xq(a):results (ax bA 74 Tryz.f74) a=results Tryz.f74 a:=by
 rfl
theorem Eo{i p m g f k a}(l:(Tryz.f74).body=some (SF i (SF p (SF m (SF (T7 k a false) (SF g f)))))){b r w h}(s:w.cell? ⟨b,0,none⟩=some (SR (some r)))(c:IK (vp b) h):
 cL (aH T) (SF g f) (bodyPost PA Tryz.f74 λe j=>e=Tl (SR (some r))/\j.heap=w.heap) h w:=by
 cases l;obtain⟨u,rfl⟩:=c.out;refine ag λn d=> ?_
 have q:n.cell? ⟨b,0,none⟩=some (SR (some r)):=by simp_all[Tq]
 replace d:=AI d;go_wp2;go_ret;exact⟨rfl,d.out⟩
def Hs{P}{D:dZ P}{K}{g b:Tp}{a c i rest k f w v o}(m:g.leaving P w (Tl v))(l:c[i]?=some o)(e:D.okF b.fn)
 (h:D.H K (bO (b.at (a.put o.dst v) (SO c rest::k)) f) w):D.H K (bO g (b.at a (SO c (i::rest)::k)::f)) w:=by
 refine D.go λj d=>dD (.one (step_leave_returned (ut m j d))) ⟨⟨rfl,e⟩,?_⟩
 have:(b.at a (SO c (i::rest)::k)).finish v=b.at (a.put o.dst v) (SO c rest::k):=by simp[U2,l]
 rw[this];exact D.er h j d
def F0{t0 t1 t2 t4 t5 p0 p1 p4 p5 p6 p7 p8 q0 q1 q2 q3 K i iT iP iQ G g d}
 (hT:(Tryz.f74).body=some (SF t0 (SF t1 (SF t2 (SF (T7 iT G false) (SF t4 t5))))))
 (hP:(Tryz.f53).body=some (SF p0 (SF p1 (SF (T7 iP g false) (SF p4 (SF p5 (SF p6 (SF p7 p8))))))))
 (hQ:(Tryz.f75).body=some (SF (SF q0 (SF q1 q2)) (SF q3 (.block i (.loop (SF (T7 iQ d false) K))))))
 {E D0 ob w x aT aP ts v7 n0 g0 e0 s rc} (hr:E.r<E.B) (S:E.r≠E.nb/\E.r≠E.gb/\E.r≠E.eb) (Z:E.nb≠E.gb/\E.nb≠E.eb/\E.gb≠E.eb) (P:E.nb<E.B/\E.gb<E.B/\E.eb<E.B)
 (hx:pT qJ ts=some x) (hB:E.B=w.heap.size) (ho:w.cell? ⟨ob,0,none⟩=some (SR (some E.r))) (W:w.heap[E.r]?=some (Tr E.cap (ts.map (Tok.val E.e)).toArray false s rc E.tm)) (hR:Rs E w n0 g0 e0)
 (Q:IK (vp ob) aT) (R:xh E v7 [] aP):
 (aH T).H (pG E d [Tn K,TH (SF (T7 iQ d false) K),Tx i] D0 w x) (bO (pu.at aT (SO G []::[Tn (SF t4 t5)])) [gw.at aP (SO g [2,3,4,5,6]::[Tn (SF p4 (SF p5 (SF p6 (SF p7 p8))))]),D0]) w:=by
 have k:=λpb p m a hI hR=> @F2 T _ _ _ _ _ _ _ _ hP E pb p w m ts x n0 g0 e0 a hx hI hR
 have t:=λpb p m e a fr=> @H0 T _ _ _ _ _ _ _ _ hQ E D0 pb p w m x e a fr hr S Z P
 replace k:=AI k;replace t:=AI t;refine(aH T).one (λu=>step_region_end) trivial ?_;have F:∀D:SH,D.heap=w.heap->(aH T).H (pG E d [Tn K,TH (SF (T7 iQ d false) K),Tx i] D0 w x) (bO (gw.at (aP.put (some 16) (SR (some E.r))) (SO g [3,4,5,6]::[Tn (SF p4 (SF p5 (SF p6 (SF p7 p8))))])) [D0]) D:=λD he=>by
  have hB1:E.B=D.heap.size:=by rw[hB,he]
  have z:=AI (hR.af he);have I:=AI ((Kp.refl (B:=E.B) (X:=[E.nb,E.gb,E.eb,E.r]) w).af he);have f:D.heap[E.r]?=some (Tr E.cap (ts.map (Tok.val E.e)).toArray false s rc E.tm):=by rw[he];exact W
  refine r6 (M:=λa j=>xh E (vp (D.heap.size+1)) [] a/\PI E (D.heap.size+1) D.heap.size w ⟨ts,qJ,0,0⟩ j/\Rs E j n0 g0 e0) ?_ trivial (by simp[gw]) ?_
  .cases hP;obtain⟨u,rfl⟩:=R.out;show aV _ _ _ (SD 3 (4+0)) ..;refine aW 3 4 0 (λN hN m n=> ?_) (by decide);simp only[zq1];simp only[Sz,zq0];replace z:=AI (z.out.af n);replace I:=AI (I.out.af n);have hz:=congrArg SY n;replace f:m.heap[E.r]?=some (Tr E.cap (ts.map (Tok.val E.e)).toArray false s rc E.tm):=by rw[n];exact f
   replace f:=AI f;replace hz:=AI hz;clear n he R Q ho W hR;go_wp2;refine hN.out _ _ (az ⟨rfl,?_⟩);have L:=hz.out;have hA:∀b,b<m.heap.size->((m.alloc (SG #[SR (some E.r),Su Sw 0,Su Sw 0,Su SC 0,Su SC 0,Su SC 0,Su SC 0,Su Sw 0,Su Sw 0,AS none,Su Sw 0,Su Sw 0] 166)).alloc (SG #[AS (some ⟨m.heap.size,0,none⟩)] 160)).heap[b]?=m.heap[b]?:=λb hb=>
    (Below.heap_alloc _ _ b (by simp;omega)).trans (Below.heap_alloc _ _ b hb)
   refine⟨⟨rfl,rfl,rfl,rfl,rfl,?_⟩,⟨⟨?_,s,rc,(hA _ (T6.1 f.out).1).trans f.out⟩,?_,(I.out.alloc (Nat.le_of_eq hB) _).alloc (Nat.le_of_eq hB) _,by omega,by omega,by omega⟩,z.out.keep λb hb=>hA b ?_⟩<;>first |(show vp (m.heap.size+1)=vp (D.heap.size+1);rw[L])|(rw[<- L];exact a7.alloc (a7.new m 166 #[SR (some E.r),Su Sw 0,Su Sw 0,Su SC 0,Su SC 0,Su SC 0,Su SC 0,Su Sw 0,Su Sw 0,AS none,Su Sw 0,Su Sw 0]) _)|(rw[<- L];exact(a7.new2 m (SG #[SR (some E.r),Su Sw 0,Su Sw 0,Su SC 0,Su SC 0,Su SC 0,Su SC 0,Su Sw 0,Su Sw 0,AS none,Su Sw 0,Su Sw 0] 166) 160 #[AS (some ⟨m.heap.size,0,none⟩)]).cell 0)|(have h1:=z.out.n.lt;have h2:=z.out.g.lt;have h3:=z.out.e.lt;rcases hb with rfl|rfl|rfl<;>assumption)
  .intro a m ⟨ha,hI2,hR2⟩;refine k.out _ _ m a ha hI2 hR2 Z P hr S gw [] [D0] _ trivial (by simp[gw]) λe C j A=> ?_
   have n:e= .ret\/∃ch,e= .panic ch:=by
    cases x with
    |ok nd s2=>exact .inl A.1
    |err y s2=>have⟨_,_,q,h,_⟩:=A;exact .inr ⟨_,h⟩
   rcases n with rfl|⟨ch,rfl⟩<;>first |exactλc=>t.out _ _ j _ C _ A c (.inl ⟨rfl,rfl⟩)|exactλc=>t.out _ _ j _ C _ A c (.inr ⟨ch,rfl,rfl⟩)
 have r:∀(C:Act)(j:SH)(c:List Item),bodyPost PA Tryz.f74 (λe j=>e=Tl (SR (some E.r))/\j.heap=w.heap) .ret C j->(aH T).H (pG E d [Tn K,TH (SF (T7 iQ d false) K),Tx i] D0 w x) (bO {pu.at C c with mode:= .returning} [gw.at aP (SO g [2,3,4,5,6]::[Tn (SF p4 (SF p5 (SF p6 (SF p7 p8))))]),D0]) j:=λC j c ⟨hd,v,hv,h1,h2⟩=>by
  cases h1;have⟨o,ho2,hd2⟩:∃o,g[2]?=some o/\o.dst=some 16:=by
   cases hP;exact⟨_,rfl,rfl⟩
  refine Hs (v:=SR (some E.r)) (o:=o) ⟨rfl,hd,rfl,_,Gf,?_⟩ ho2 trivial ?_;rw[xq];exact hv;rw[hd2];exact F j h2
 refine(@Eo T _ _ _ _ _ _ _ hT ob E.r w aT ho Q) pu [] _ _ trivial (by simp[pu]) λe C j A=> ?_
 cases e with
 |normal=>exact(aH T).one (λu=>step_end) trivial (r C j [] A)
 |ret=>exactλc=>r C j c A
 |panic ch=>have⟨_,h,_⟩:=A;cases h
 |exit id=>exact A.elim
 |goto l=>exact A.elim
 |outgrown=>exact nomatch A.1
end
end Go.Proofs.YtkgohmcmmcpigabGreatDoor
