/- A part of the proof that Within holds; no condition. -/
import Derived.Deep.QuietTactic
import Derived.BigQuiet
import Derived.Shelf.Strings.Cut
import Derived.Shelf.Strings.Prefix
import Derived.Shelf.Small.Strs
import Derived.Test.YtkgohmcmmcpigaaGreatDoorW05
import Derived.Test.YtkgohmcmmcpigaaGreatDoorW06
set_option linter.unusedSectionVars false
set_option linter.unusedSimpArgs false
set_option linter.unusedVariables false
set_option maxHeartbeats 4000000
set_option maxRecDepth 100000
namespace Go.Proofs.YtkgohmcmmcpigaaGreatDoor
open Go
open Go.Lib renaming hid->up,size_eq->Su,indexByte->Sw,cut->SU,toList_data->SX,hasPrefix->Ti
open Go renaming callFunc->x5,World->AS,Value->BY,execOp->SP,Program->SV,Frame->T9,Goroutine->Tv
open _root_.List renaming mem_singleton->AI,range'->AT,size_toArray->SD,append_toArray->SE,length_nil->SF,length_cons->SH,push_toArray->SI,length_drop->SJ,cons_append->SK,nil_append->SL,mem_cons_self->SO,length_take->SZ,getD_eq_getElem?_getD->T2,getElem?_cons_zero->T6,getElem?_cons_succ->T7,drop_eq_nil_of_le->T8,mem_cons_of_mem->Tb,take_succ_cons->Tc,mem_cons->Th,drop_eq_getElem_cons->Tk,getElem?_take_of_lt->Tm,getElem?_eq_getElem->Tn,take_zero->Tr,getElem?_toArray->Ts,range'_append_1->Tt,not_mem_nil->Tz,all_eq_true->TC
open _root_.Nat renaming le_refl->By,lt_or_ge->SN,reduceSub->SQ,reduceAdd->SR,le_trans->SW,lt_irrefl->T1,zero_le->T3,lt_of_lt_of_le->Tf,le_of_lt->Tu,lt_succ_self->Ty
open Go.Act renaming eval->If,put->SC
open Go.IntKind renaming wrap_i64->IN
open Go.Extern renaming find->IS,findNext->SY
open _root_.Array renaming getElem_push_lt->IT,replicate_succ->No,replicate_zero->Sv,getElem?_eq_some_iff->Sx,getElem?_push_lt->SM,getElem?_eq_getElem->SS,size->T0,replicate->T5,getElem?_push->Te,size_push->To,mem_iff_getElem?->Tp,ext_getElem?->Tw,toList_push->Tx,ofFn->TH
open _root_.Option renaming map_eq_some_iff->OF,isSome_iff_exists->Tl
open Go.World renaming cell?->Sy,size_setCell->SG,setCell->Tg
open _root_.Ne renaming symm->Sz
open Go.Frame renaming enter->T4,finish_at->TE
open _root_.UInt8 renaming toNat_inj->Ta
open Go.Calls renaming quiet_of_same->Td
open Go.Value renaming bool->Tj,ownBlock->Tq
open _root_.Bool renaming or_eq_true->TF,eq_iff_iff->TG
section
open Go.RowKit
def lB:List Nat:=[115,116,132,133,134,135,136,137,138,139,140,158,159,160,161,170,171,172,173,185,187,188,189,190,191]
def bB:Nat->Option Code:=only lB
noncomputable abbrev PB:SV:=alt Tryz.prog bB
theorem PB.func{f fn}(hf:Tryz.prog.funcs[f]?=some fn)(h:lB.contains f=true):PB.funcs[f]?=some fn:=ry hf (bP h)
@[go_sem] theorem PB.Rm(args w):(x5 115 args).run PB w= .ok (.enter 115 args) w:=a8 (PB.func Tryz.func115 (by decide)) (by kernel_rfl) rfl args w
@[go_sem] theorem PB.Rl(args w):(x5 116 args).run PB w= .ok (.enter 116 args) w:=a8 (PB.func Tryz.func116 (by decide)) (by kernel_rfl) rfl args w
@[go_sem] theorem PB.Rb(args w):(x5 132 args).run PB w= .ok (.enter 132 args) w:=a8 (PB.func Tryz.func132 (by decide)) (by kernel_rfl) rfl args w
@[go_sem] theorem PB.Ra(args w):(x5 133 args).run PB w= .ok (.enter 133 args) w:=a8 (PB.func Tryz.func133 (by decide)) (by kernel_rfl) rfl args w
@[go_sem] theorem PB.R9(args w):(x5 134 args).run PB w= .ok (.enter 134 args) w:=a8 (PB.func Tryz.func134 (by decide)) (by kernel_rfl) rfl args w
@[go_sem] theorem PB.R5(args w):(x5 135 args).run PB w= .ok (.enter 135 args) w:=a8 (PB.func Tryz.func135 (by decide)) (by kernel_rfl) rfl args w
@[go_sem] theorem PB.R4(args w):(x5 136 args).run PB w= .ok (.enter 136 args) w:=a8 (PB.func Tryz.func136 (by decide)) (by kernel_rfl) rfl args w
@[go_sem] theorem PB.R3(args w):(x5 137 args).run PB w= .ok (.enter 137 args) w:=a8 (PB.func Tryz.func137 (by decide)) (by kernel_rfl) rfl args w
@[go_sem] theorem PB.R2(args w):(x5 138 args).run PB w= .ok (.enter 138 args) w:=a8 (PB.func Tryz.func138 (by decide)) (by kernel_rfl) rfl args w
@[go_sem] theorem PB.R1(args w):(x5 139 args).run PB w= .ok (.enter 139 args) w:=a8 (PB.func Tryz.func139 (by decide)) (by kernel_rfl) rfl args w
@[go_sem] theorem PB.R0(args w):(x5 140 args).run PB w= .ok (.enter 140 args) w:=a8 (PB.func Tryz.func140 (by decide)) (by kernel_rfl) rfl args w
@[go_sem] theorem PB.QP(args w):(x5 158 args).run PB w= .ok (.enter 158 args) w:=a8 (PB.func Tryz.func158 (by decide)) (by kernel_rfl) rfl args w
@[go_sem] theorem PB.QO(args w):(x5 159 args).run PB w= .ok (.enter 159 args) w:=a8 (PB.func Tryz.func159 (by decide)) (by kernel_rfl) rfl args w
@[go_sem] theorem PB.QN(args w):(x5 160 args).run PB w= .ok (.enter 160 args) w:=a8 (PB.func Tryz.func160 (by decide)) (by kernel_rfl) rfl args w
@[go_sem] theorem PB.QM(args w):(x5 161 args).run PB w= .ok (.enter 161 args) w:=a8 (PB.func Tryz.func161 (by decide)) (by kernel_rfl) rfl args w
@[go_sem] theorem PB.QI(args w):(x5 170 args).run PB w= .ok (.enter 170 args) w:=a8 (PB.func Tryz.func170 (by decide)) (by kernel_rfl) rfl args w
@[go_sem] theorem PB.QH(args w):(x5 171 args).run PB w= .ok (.enter 171 args) w:=a8 (PB.func Tryz.func171 (by decide)) (by kernel_rfl) rfl args w
@[go_sem] theorem PB.QE(args w):(x5 172 args).run PB w= .ok (.enter 172 args) w:=a8 (PB.func Tryz.func172 (by decide)) (by kernel_rfl) rfl args w
@[go_sem] theorem PB.QA(args w):(x5 185 args).run PB w= .ok (.enter 185 args) w:=a8 (PB.func Tryz.func185 (by decide)) (by kernel_rfl) rfl args w
@[go_sem] theorem PB.Qy(args w):(x5 187 args).run PB w= .ok (.enter 187 args) w:=a8 (PB.func Tryz.func187 (by decide)) (by kernel_rfl) rfl args w
@[go_sem] theorem PB.Qx(args w):(x5 189 args).run PB w= .ok (.enter 189 args) w:=a8 (PB.func Tryz.func189 (by decide)) (by kernel_rfl) rfl args w
@[go_sem] theorem PB.Qw(args w):(x5 190 args).run PB w= .ok (.enter 190 args) w:=a8 (PB.func Tryz.func190 (by decide)) (by kernel_rfl) rfl args w
@[go_sem] theorem PB.Qv(args w):(x5 191 args).run PB w= .ok (.enter 191 args) w:=a8 (PB.func Tryz.func191 (by decide)) (by kernel_rfl) rfl args w
def Only(q:Nat)(w w':AS):Prop:=w'.heap.size=w.heap.size/\∀b,b≠q->w'.heap[b]?=w.heap[b]?
theorem Only.refl(q w):Only q w w:=⟨rfl,λ_ _=>rfl⟩
theorem Only.trans{q a b c}(h:Only q a b)(h2:Only q b c):Only q a c:=⟨h2.1.trans h.1,λx hx=>(h2.2 x hx).trans (h.2 x hx)⟩
theorem Only.set(q w i v):Only q w (w.setCell ⟨q,i,none⟩ v):=⟨SG w _ v,λb hb=>Below.heap_setCell w _ v b hb⟩
theorem eu{w q S i}(h:a7 w q 101 (words S))(hi:i<4):w.cell? ⟨q,i,none⟩=some (.int .u64 (wz S i)):=by
 have:=h.cell i;rw[this];match i,hi with
 |0,_=>rfl
 |1,_=>rfl
 |2,_=>rfl
 |3,_=>rfl
theorem yd{w q S T i}(h:a7 w q 101 (words S))(hi:i<4)(ho:∀j,j≠i->wz T j=wz S j):a7 (w.setCell ⟨q,i,none⟩ (.int .u64 (wz T i))) q 101 (words T):=by
 have:=h.bI i (.int .u64 (wz T i));have e:(words S).setIfInBounds i (.int .u64 (wz T i))=words T:=by
  match i,hi with
  |0,_=>simp[words,ho 1,ho 2,ho 3]
  |1,_=>simp[words,ho 0,ho 2,ho 3]
  |2,_=>simp[words,ho 0,ho 1,ho 3]
  |3,_=>simp[words,ho 0,ho 1,ho 2]
 rw[e]at this;omega
theorem add_any(q lo hi:Nat)(S w)(hl:lo<=255)(hh:hi<=255)(hB:a7 w q 101 (words S)):
 Calls PB 135 #[.pointer (some ⟨q,0,none⟩),.int .u8 lo,.int .u8 hi] w λe w'=>e= .returned (.tuple #[])/\a7 w' q 101 (words (jd S lo hi))/\Only q w w':=by
 go_enter PB.func Tryz.func135 (by decide),Tryz.ntmps135
 go_wp2;go_loopw [6] (λc wr=>∃k:Nat,(lo<=k/\(k<=hi+1\/k=lo))/\k<=256/\c= .int .i64 k/\a7 wr q 101 (words λx=>S x||decide (lo<=x)&&decide (x<k))/\Only q w wr) λc _=>256- (intOf c).toNat
 case atStart=>
  refine⟨lo,⟨By _,.inr rfl⟩,by omega,rfl,?_,.refl _ _⟩;have:(λx=>S x||decide (lo<=x)&&decide (x<lo))=S:=by
   funext x
   have:¬ (lo<=x/\x<lo):=by omega
   simp;omega
  rw[this];exact hB
 case round=>
  obtain⟨k,hk0,hk,rfl,hBk,hO⟩:=hrel;generalize hS:(λx=>S x||decide (lo<=x)&&decide (x<k))=S' at hBk;obtain⟨i,j,hj,rfl⟩:∃i j,j<64/\k=64*i+j:=⟨k/64,k%64,Nat.mod_lt _ (by decide),by omega⟩;have h2:=up hBk;have h3:=up hO;have hS':=up hS;clear hO hS;by_cases hlt:64*i+j<=hi
  .have hi4:i<4:=by omega
   have f0:∀i,wr.frozen? ⟨q,i,none⟩=false:=hBk.frozen;have c0:wr.cell? ⟨q,i,none⟩=some (.int .u64 (wz S' i)):=eu hBk hi4;have e1:((64:Int)*i+j)/64=i:=by omega
   have e2:bits .and .i64 (64*i+j) 63=j:=by
    have:=bits_mask .i64 63 (by decide) λn h0 h1=>by rw[IN];omega 6 (by decide) ((64:Int)*i+j) (by omega) (by omega)
    have h6:(2:Int)^6=64:=rfl;rw[h6,show(64:Int)-1=63 from rfl]at this;rw[this];omega
   have e3:bits .or .u64 (wz S' i) (IntKind.u64.wrap (2^j))=wz (ins S' (64*i+j)) i:=by
    have h6:(2:Int)^j=((2^j:Nat):Int):=by norm_cast
    have h7:(2:Nat)^j<2^64:=Nat.pow_lt_pow_right (by decide) hj;rw[h6,wraps_u64 _ (Int.natCast_nonneg _) (by exact_mod_cast h7),G4 S' i j hj]
   clear hBk;go_wp2;go_region
   go_wp2;go_roundw
   case rel=>
    have hBk:=h2.out;have hO:=h3.out;have hS:=hS'.out;refine⟨64*i+j+1,⟨by omega,.inl (by omega)⟩,by omega,by push_cast;rfl,?_,hO.trans (.set q wr i _)⟩;have hT:(λx=>S x||decide (lo<=x)&&decide (x<64*i+j+1))=ins S' (64*i+j):=by
     rw[<- hS];funext x;simp only[ins];cases S x
     .simp only[Bool.false_or];rw[TG];simp;omega
     .simp
    rw[hT];exact yd hBk hi4 λi' hi'=>s8 S' i i' j hj hi'
   case measure=>simp[intOf];omega
  .clear hBk;go_wp2;go_end0
   refine⟨rfl,?_,h3.out⟩;have hT:jd S lo hi=S':=by
    rw[<- hS'.out];funext x;simp only[jd];cases S x
    .simp only[Bool.false_or];rw[TG];simp;omega
    .simp
   rw[hT];exact h2.out
theorem tA:∀n:Nat,n<256->bits .and .u8 (n:Int) 2=if n/2%2=1 then 2 else 0:=by decide+kernel
theorem Dr:∀n:Nat,n<256->bits .and .u8 (n:Int) 1=if n%2=1 then 1 else 0:=by decide+kernel
def kL(S:cS):BY:=.agg #[.int .u64 (wz S 0),.int .u64 (wz S 1),.int .u64 (wz S 2),.int .u64 (wz S 3)]
def iR(s:ByteArray)(p:Nat)(fl:Nat)(c:Nat)(fold:Bool):Array BY:=#[.string s,.int .i64 p,.int .u8 fl,.chan (some c),.bool fold]
theorem Iy:(PB.info? 101).map (·.size)=some 4:=by kernel_rfl
theorem FL:∃n e,PB.underlying 101=some (.array n e):=⟨_,_,(congrFun (aK ..) _).trans Tryz.underlying101⟩
theorem tE{fn p}(h:fn.results=#[.cell p 101]){R a w g b0 b1 b2 b3}(hp:a.tmps.getD p undef= .pointer (some ⟨g,0,none⟩))(hg:a7 w g 101 #[b0,b1,b2,b3])(hd:a.defers=[])
 (hR:R (.returned (.agg #[b0,b1,b2,b3])) w):bodyPost PB fn R .ret a w:=by
 obtain⟨n,d,hu⟩:=FL;exact bodyPost_ret (results_cell_row h a.tmps w g _ _ _ _ hp hg hu rfl Iy) hd hR
theorem Kp.alloc2(w o p):Kp w.heap.size [] w ((w.alloc o).alloc p):=((Kp.refl w).alloc (By _) o).alloc (By _) p
theorem sP(x c s p fl fold S w)(hf:fl<256)(hB:a7 w x 243 (iR s p fl c fold)):
 Calls PB 137 #[.pointer (some ⟨x,0,none⟩),kL S] w λe w'=>e= .returned (kL (if fl/2%2=1 then del S 10 else S))/\Kp w.heap.size [] w w':=by
 have c2:w.cell? ⟨x,2,none⟩=some (.int .u8 fl):=hB.cell 2;have hlt:=hB.lt;have hB':=up hB;clear hB;unfold kL;by_cases h:fl/2%2=1
 .have e1:bits .and .u8 (fl:Int) 2=2:=by rw[tA fl hf,if_pos h]
  have e2:=N5 S;simp only[if_pos h,nM S 1 (by decide),nM S 2 (by decide),nM S 3 (by decide)];clear h;go_enter PB.func Tryz.func137 (by decide),Tryz.ntmps137
  go_wp2;exact tE rfl rfl (a7.new2 _ _ _ _) rfl ⟨rfl,.alloc2 _ _ _⟩
 .have e1:bits .and .u8 (fl:Int) 2=0:=by rw[tA fl hf,if_neg h]
  simp only[if_neg h];clear h;go_enter PB.func Tryz.func137 (by decide),Tryz.ntmps137
  go_wp2;exact tE rfl rfl (a7.new2 _ _ _ _) rfl ⟨rfl,.alloc2 _ _ _⟩
theorem wS(x c s p fl fold S w)(hB:a7 w x 243 (iR s p fl c fold)):
 Calls PB 140 #[.pointer (some ⟨x,0,none⟩),kL S] w λe w'=>e= .returned (kL (if fold then pm S else S))/\Kp w.heap.size [] w w':=by
 have c4:w.cell? ⟨x,4,none⟩=some (.bool fold):=hB.cell 4;have hlt:=hB.lt;have hB':=up hB;clear hB;unfold kL;cases fold with
 |true=>
  have e2:=Lz S;simp only[if_true,mw S 0 (by decide),mw S 2 (by decide),mw S 3 (by decide)];go_enter PB.func Tryz.func140 (by decide),Tryz.ntmps140
  go_wp2;exact tE rfl rfl (a7.new2 _ _ _ _) rfl ⟨rfl,.alloc2 _ _ _⟩
 |false=>
  simp only[if_neg Bool.false_ne_true];go_enter PB.func Tryz.func140 (by decide),Tryz.ntmps140
  go_wp2;exact tE rfl rfl (a7.new2 _ _ _ _) rfl ⟨rfl,.alloc2 _ _ _⟩
theorem Jk(c:Nat)(w):Calls PB 132 #[.int .u8 c] w λe w'=>e= .returned (.int .i64 (fG c))/\w'=w:=by
 unfold fG;by_cases h1:c=40
 .subst h1;go_enter PB.func Tryz.func132 (by decide),Tryz.ntmps132;go_wp2;go_ret;exact⟨rfl,rfl⟩
 by_cases h2:c=41
 .subst h2;go_enter PB.func Tryz.func132 (by decide),Tryz.ntmps132;go_wp2;go_ret;exact⟨rfl,rfl⟩
 by_cases h3:c=124
 .subst h3;go_enter PB.func Tryz.func132 (by decide),Tryz.ntmps132;go_wp2;go_ret;exact⟨rfl,rfl⟩
 by_cases h4:c=94
 .subst h4;go_enter PB.func Tryz.func132 (by decide),Tryz.ntmps132;go_wp2;go_ret;exact⟨rfl,rfl⟩
 by_cases h5:c=36
 .subst h5;go_enter PB.func Tryz.func132 (by decide),Tryz.ntmps132;go_wp2;go_ret;exact⟨rfl,rfl⟩
 rw[if_neg h1,if_neg h2,if_neg h3,if_neg h4,if_neg h5];have k1:(c:Int)≠40:=by omega
 have k2:(c:Int)≠41:=by omega
 have k3:(c:Int)≠124:=by omega
 have k4:(c:Int)≠94:=by omega
 have k5:(c:Int)≠36:=by omega
 clear h1 h2 h3 h4 h5;go_enter PB.func Tryz.func132 (by decide),Tryz.ntmps132
 go_wp2;go_ret;exact⟨rfl,rfl⟩
def chk(Q:SV)(l:List Nat)(p:Nat->Func->Bool):Bool:=l.all λf=>match Q.funcs[f]? with |some fn=>p f fn|none=>true
theorem AW{l f}(h:only l f=none):f∈l:=by
 simp_all[only]
theorem oC{Q l p}(h:chk Q l p=true){f fn}(hf:Q.funcs[f]?=some fn)(hb:only l f=none):p f fn=true:=by
 simp[chk]at h;have:=h f (AW hb);rw[hf]at this;omega
theorem O0{Q:SV}{p}(h:Q.funcs.all p=true){f:Nat}{fn}(hf:Q.funcs[f]?=some fn):p fn=true:=by
 grind
theorem fa(l):gS (only l):=λf c h=>by
 unfold only at h;grind
theorem qZ:∀(f:Nat) fn,Tryz.prog.funcs[f]?=some fn->(fn.name== "runtime.NumGoroutine")=false:=λf fn hf=>by
 have h:Tryz.prog.funcs.all (λfn=> ! fn.name== "runtime.NumGoroutine")=true:=by kernel_rfl
 have:=O0 h hf;simpa using this
section
variable[aD]{l:List Nat}
theorem sj(h0:Tryz.prog.follows .staticDataAhead=true)(h1:chk Tryz.prog l (λf fn=>match fn.body with |some c=>cT c&& (readies c).isEmpty|none=>true)=true)
 (hx:∀f fn,Tryz.prog.funcs[f]?=some fn->only l f=none->fn.body.isNone=true->SY fn=none/\∀e,IS fn=some e->∀args,bU (alt Tryz.prog (only l)) true false (e args)):bz (alt Tryz.prog (only l)):=by
 have hget:=λf=> @ft Tryz.prog (only l) f
 have hin:∀(f:Nat)(fn:Func),(alt Tryz.prog (only l)).funcs[f]?=some fn->(∃why,fn.body=some (.refuse why))\/only l f=none/\Tryz.prog.funcs[f]?=some fn:=λf fn hf=>by
  rw[hget]at hf;obtain⟨g,hg,rfl⟩:=OF.1 hf;cases hb:only l f with
  |some c=>
   obtain⟨why,rfl⟩:=fa l f c hb;simp_all[ax]
  |none=>exact .inr ⟨rfl,hg.trans (congrArg some (by unfold ax;rw[hb]))⟩
 refine{wait:=λg hg=> ?_,data:=h0,num:=λf fn hf=> ?_,next:=λf fn hf hn=> ?_,ext:=λf fn hf hn e he args=> ?_,nogo:=λf fn c hf hc=> ?_}
 .unfold Program.stepOf;rw[Array.findIdx?_eq_none_iff];intro fn hfn;obtain⟨f,hf⟩:=Tp.1 hfn;rcases hin f fn hf with⟨why,h⟩|⟨hb,hf⟩
  .simp[h,readies]
  .have:=oC h1 hf hb;cases hc:fn.body<;>simp_all
 .rcases hin f fn hf with⟨why,h⟩|⟨hb,hf⟩
  .rw[hget]at hf;obtain⟨g,hg,rfl⟩:=OF.1 hf;rw[j5];exact qZ f g hg
  .exact qZ f fn hf
 .grind
 .rcases hin f fn hf with⟨why,h⟩|⟨hb,hf⟩
  .rw[h]at hn;cases hn
  .exact(hx f fn hf hb hn).2 e he args
 .rcases hin f fn hf with⟨why,h⟩|⟨hb,hf⟩
  .rw[h]at hc;cases hc;rfl
  .have:=oC h1 hf hb;rw[hc]at this;rw[Bool.and_eq_true]at this;exact this.1
end
section
attribute [local instance] dJ
theorem KY:bz PA:=by
 refine sj (by kernel_rfl) (by kernel_rfl) λf fn hf hb hn=> ?_
 have h:chk Tryz.prog [93,94,117,118,141,142,162,174,92] (λf fn=>fn.body.isSome)=true:=by kernel_rfl
 have:=oC h hf hb;cases hc:fn.body<;>simp_all
instance Pk(P a):∀n acc,bU P true false (Extern.Bytes.loadBytes a n acc):=by
 intro n;induction n generalizing a with
 |zero=>intro acc;show bU P true false (pure acc);exact zq2
 |succ n ih=>
  intro acc;refine @aX _ _ _ _ _ _ _ _ zq2 λv=> ?_
  split
  .exact ih _ _
  .exact zq2
instance OC(P v):bU P true false (Extern.Bytes.bytesOf v):=by
 cases v;case string s=>show bU P true false (pure s);exact zq2
 case slice a n c=>
  cases a with
  |none=>show bU P true false (pure ByteArray.empty);exact zq2
  |some a=>show bU P true false (Extern.Bytes.loadBytes a n .empty);exact zq2
 all_goals
  show bU P true false (stuck _);exact zq2
instance P4(P v):bU P true false (Extern.Bytes.asByte v):=by
 cases v;case int k n=>
  cases k;case u8=>show bU P true false (pure _);exact zq2
  all_goals
   show bU P true false (stuck _);exact zq2
 all_goals
  show bU P true false (stuck _);exact zq2
instance P2(P):bU P true false Extern.BytealgIndex.maxLen:=by
 unfold Extern.BytealgIndex.maxLen;exact zq2
theorem zs(P args):bU P true false (Extern.BytealgIndexByte.indexByte args):=by
 obtain⟨_|⟨b,_|⟨c,_|⟨d,l⟩⟩⟩⟩:=args;case cons.cons.nil=>
  refine @aX _ _ _ _ _ _ _ _ zq2 λ_=> ?_
  refine @aX _ _ _ _ _ _ _ _ zq2 λ_=> ?_
  split <;>exact zq2
 all_goals
  show bU P true false (stuck _);exact zq2
theorem HD(P args):bU P true false (Extern.BytealgIndex.index args):=by
 obtain⟨_|⟨b,_|⟨c,_|⟨d,l⟩⟩⟩⟩:=args;case cons.cons.nil=>
  refine @aX _ _ _ _ _ _ _ _ zq2 λ_=> ?_
  refine @aX _ _ _ _ _ _ _ _ zq2 λ_=> ?_
  refine @aX _ _ _ _ _ _ _ _ zq2 λ_=> ?_
  repeat' (first |exact zq2|split)
 all_goals
  show bU P true false (stuck _);exact zq2
theorem lD:IS Tryz.f173=some Extern.BytealgIndexByte.indexByte:=by kernel_rfl
theorem find_index:IS Tryz.f188=some Extern.BytealgIndex.index:=by kernel_rfl
theorem qu:SY Tryz.f173=none:=by kernel_rfl
theorem wC:SY Tryz.f188=none:=by kernel_rfl
theorem td{f fn}(hf:Tryz.prog.funcs[f]?=some fn)(hb:bB f=none)(hn:fn.body.isNone=true):fn=Tryz.f173\/fn=Tryz.f188:=by
 have h:chk Tryz.prog lB λf fn=>fn.body.isSome||f==173||f==188=true:=by kernel_rfl
 have:=oC h hf hb;simp[TF]at this;rcases this with(h|rfl)|rfl<;>simp_all
theorem KX:bz PB:=by
 refine sj (by kernel_rfl) (by kernel_rfl) λf fn hf hb hn=> ?_
 rcases td hf hb hn with rfl|rfl
 .refine⟨qu,λe he args=> ?_⟩;rw[lD]at he;cases he;exact zs _ _
 .refine⟨wC,λe he args=> ?_⟩;rw[find_index]at he;cases he;exact HD _ _
end
instance Pr(P a):∀n acc,Nf P (Extern.Bytes.loadBytes a n acc):=by
 intro n;induction n generalizing a with
 |zero=>intro acc;show Nf P (pure acc);exact zq2
 |succ n ih=>
  intro acc;refine @dl _ _ _ _ _ zq2 λv=> ?_
  split
  .exact ih _ _
  .exact zq2
instance OO(P v):Nf P (Extern.Bytes.bytesOf v):=by
 cases v;case string s=>show Nf P (pure s);exact zq2
 case slice a n c=>
  cases a with
  |none=>show Nf P (pure ByteArray.empty);exact zq2
  |some a=>show Nf P (Extern.Bytes.loadBytes a n .empty);exact zq2
 all_goals
  show Nf P (stuck _);exact zq2
instance P8(P v):Nf P (Extern.Bytes.asByte v):=by
 cases v;case int k n=>
  cases k;case u8=>show Nf P (pure _);exact zq2
  all_goals
   show Nf P (stuck _);exact zq2
 all_goals
  show Nf P (stuck _);exact zq2
instance P7(P):Nf P Extern.BytealgIndex.maxLen:=by
 unfold Extern.BytealgIndex.maxLen;exact zq2
theorem Bj(P args):Nf P (Extern.BytealgIndexByte.indexByte args):=by
 obtain⟨_|⟨b,_|⟨c,_|⟨d,l⟩⟩⟩⟩:=args;case cons.cons.nil=>
  refine @dl _ _ _ _ _ zq2 λ_=> ?_
  refine @dl _ _ _ _ _ zq2 λ_=> ?_
  split <;>exact zq2
 all_goals
  show Nf P (stuck _);exact zq2
theorem K7(P args):Nf P (Extern.BytealgIndex.index args):=by
 obtain⟨_|⟨b,_|⟨c,_|⟨d,l⟩⟩⟩⟩:=args;case cons.cons.nil=>
  refine @dl _ _ _ _ _ zq2 λ_=> ?_
  refine @dl _ _ _ _ _ zq2 λ_=> ?_
  refine @dl _ _ _ _ _ zq2 λ_=> ?_
  repeat' (first |exact zq2|split)
 all_goals
  show Nf P (stuck _);exact zq2
def uy:bM:=[(53,19)]
theorem KW(σ):l4 Tryz.prog σ:=N1 (by kernel_rfl) σ
def lA:List Nat:=[93,94,117,118,141,142,162,174,92]
theorem Eb{f fn}(hf:Tryz.prog.funcs[f]?=some fn)(hb:bA f=none)(hn:fn.body.isNone=true):False:=by
 have h:chk Tryz.prog lA (λf fn=>fn.body.isSome)=true:=by kernel_rfl
 have:=oC h hf hb;cases hc:fn.body<;>simp_all
theorem DG{l dt cl}(h:chk Tryz.prog l (λf fn=>match fn.body with |some c=>dt.any (·.1==f)||codeOk Tryz.prog dt cl f c|none=>true)=true)(hi:(l.all λf=>(Tryz.prog.inits.idxOf? f).isNone)=true):th Tryz.prog (only l) dt cl:=by
 refine⟨λf fn c hf hb hc hd=> ?_,λf hb=> ?_⟩
 .have:=oC h hf hb;grind
 .rw[TC]at hi;simpa using hi f (AW hb)
section
attribute [local instance] dJ
theorem Pz:mS Tryz.prog bA uy false where
 apt:=⟨qZ,λf fn hf hb hn=>(Eb hf hb hn).elim⟩
 nf:=⟨λf fn hf hb hn=>(Eb hf hb hn).elim⟩
 prog:=DG (l:=lA) (by kernel_rfl) (by kernel_rfl)
 zero:=KW
 tame:=KY
theorem Py:mS Tryz.prog bB [] true where
 apt:=⟨qZ,λf fn hf hb hn=>by
  rcases td hf hb hn with rfl|rfl
  .exact⟨qu,_,lD,λσ Ro D _=>zr⟩
  .exact⟨wC,_,find_index,λσ Ro D F=>Hq F⟩⟩
 nf:=⟨λf fn hf hb hn e he P args=>by
  rcases td hf hb hn with rfl|rfl
  .rw[lD]at he;cases he;exact Bj P args
  .rw[find_index]at he;cases he;exact K7 P args⟩
 prog:=DG (l:=lB) (by kernel_rfl) (by kernel_rfl)
 zero:=KW
 tame:=KX
end
end
section
open Go.Extern
section
variable[aD]{Q:SV}{φ:Nat->Func->Func}{g m n d:Bool}
class X1[aD](Q:SV)(φ:Nat->Func->Func)(g m n d:Bool):Prop where
 x1_0:∀h,Al Q φ g m n true d (Rtype.ofHandle h)
 x1_1:∀t,Al Q φ g m n true d (Rtype.handle t)
 x1_2:∀s t,Al Q φ g m n true d (Rtype.noPack s t)
 x1_3:∀t,Al Q φ g m n true d (Rtype.under t)
 x1_4:∀t,Al Q φ g m n true d (Rtype.hasName t)
 x1_5:∀α s k,Al Q φ g m n true d (ReflectliteValue.valueError (α:=α) s k)
 x1_6:∀s t,Al Q φ g m n true d (Rtype.noPackNamed s t)
 x1_7:∀s t,Al Q φ g m n true d (Rtype.noPackMethods s t)
instance:X1 Q φ g m n d:=by
 constructor;case x1_6|x1_7=>
  intro s t;refine aP (by simp[nU]) ?_;refine aP (by simp[nU]) ?_;exact zq2
 all_goals
  intros
  first |unfold Rtype.ofHandle|unfold Rtype.handle|unfold Rtype.noPack|unfold Rtype.under|unfold Rtype.hasName|unfold ReflectliteValue.valueError
  repeat' (first
   |(with_reducible refine aP ?_ ?_)
   |(simp[nU])
   |(with_reducible refine aB ?_ λ_=> ?_)
   |exact zq2
   |split)
attribute [instance] X1.x1_0 X1.x1_1 X1.x1_2 X1.x1_3 X1.x1_4 X1.x1_5 X1.x1_6 X1.x1_7
class X2[aD](Q:SV)(φ:Nat->Func->Func)(g m n d:Bool):Prop where
 x2_0:∀t,Al Q φ g m n true d (Rtype.spelt t)
 x2_1:∀t,Al Q φ g m n true d (Rtype.kind t)
 x2_2:∀t,Al Q φ g m n true d (Rtype.elem? t)
 x2_3:∀t u,Al Q φ g m n true d (Rtype.implements t u)
 x2_4:∀t u,Al Q φ g m n true d (Rtype.directlyAssignable t u)
 x2_5:∀t,Al Q φ g m n true d (ReflectliteType.toType t)
 x2_6:∀t a f k,Al Q φ g m n true d (ReflectliteValue.isNil t a f k)
instance:X2 Q φ g m n d:=by
 constructor;all_goals
  intros
  first |unfold Rtype.spelt|unfold Rtype.kind|unfold Rtype.elem? |unfold Rtype.implements|unfold Rtype.directlyAssignable|unfold ReflectliteType.toType|unfold ReflectliteValue.isNil
  repeat' (first
   |(with_reducible refine aB ?_ λ_=> ?_)
   |exact zq2
   |split)
attribute [instance] X2.x2_0 X2.x2_1 X2.x2_2 X2.x2_3 X2.x2_4 X2.x2_5 X2.x2_6
instance(v):Al Q φ g m n true d (ReflectliteType.ofRtype v):=by
 cases v;case agg l=>
  obtain⟨_|⟨h,_|⟨h2,l⟩⟩⟩:=l;case cons.nil=>
   exact aB (s:=Rtype.ofHandle h) zq2 λt=>aB (s:=Rtype.noPack _ t) zq2 λ_=>eR
  all_goals exact(zq2:Al Q φ g m n true d (stuck _))
 all_goals exact(zq2:Al Q φ g m n true d (stuck _))
instance(v):Al Q φ g m n true d (ReflectliteValue.partsAny v):=by
 cases v;case agg l=>
  obtain⟨_|⟨h,_|⟨p,_|⟨c,_|⟨h2,l⟩⟩⟩⟩⟩:=l;case cons.cons.cons.nil=>
   cases c;case int k i=>
    cases k;case u64=>
     rcases i with(_|c)|c
     .exact eR
     all_goals
      cases p;case pointer a=>
       cases a;case some a=>exact aB (s:=Rtype.ofHandle h) zq2 λt=>eR
       all_goals exact(zq2:Al Q φ g m n true d (stuck _))
      all_goals exact(zq2:Al Q φ g m n true d (stuck _))
    all_goals exact(zq2:Al Q φ g m n true d (stuck _))
   all_goals exact(zq2:Al Q φ g m n true d (stuck _))
  all_goals exact(zq2:Al Q φ g m n true d (stuck _))
 all_goals exact(zq2:Al Q φ g m n true d (stuck _))
class X3[aD](Q:SV)(φ:Nat->Func->Func)(g m n d:Bool):Prop where
 x3_0:∀t,Al Q φ g m n true d (ReflectliteType.elem t)
 x3_1:∀t u,Al Q φ g m n true d (ReflectliteType.implements_ t u)
 x3_2:∀t u,Al Q φ g m n true d (ReflectliteType.assignableTo t u)
 x3_3:∀t a f,Al Q φ g m n true d (ReflectliteValue.mk t a f)
 x3_4:∀v,Al Q φ g m n true d (ReflectliteValue.parts v)
instance:X3 Q φ g m n d:=by
 constructor;all_goals
  intros
  first |unfold ReflectliteType.elem|unfold ReflectliteType.implements_|unfold ReflectliteType.assignableTo|unfold ReflectliteValue.mk|unfold ReflectliteValue.parts
  repeat' (first
   |(with_reducible refine aB ?_ λ_=> ?_)
   |exact zq2
   |split)
attribute [instance] X3.x3_0 X3.x3_1 X3.x3_2 X3.x3_3 X3.x3_4
instance IG(v):Al Q φ g m n true d (ReflectliteValue.unpack v):=by
 unfold ReflectliteValue.unpack;repeat' (first
  |exact zq2
  |split)
instance PR(t a f k):Al Q φ g m n true d (ReflectliteValue.elem t a f k):=by
 unfold ReflectliteValue.elem;repeat' (first
  |(with_reducible refine aB ?_ λ_=> ?_)
  |exact zq2
  |split)
theorem IH(a):Al Q φ g m n true d (ReflectliteType.typeOf a):=by
 obtain⟨_|⟨v,_|⟨h2,l⟩⟩⟩:=a;case cons.nil=>
  cases v;case nilIface=>exact eR
  case iface t v=>exact(zq2:Al Q φ g m n true d (ReflectliteType.toType t))
  all_goals exact(zq2:Al Q φ g m n true d (stuck _))
 all_goals exact(zq2:Al Q φ g m n true d (stuck _))
theorem MS(a):Al Q φ g m n true d (ReflectliteValue.set a):=by
 obtain⟨_|⟨v,_|⟨x,_|⟨h2,l⟩⟩⟩⟩:=a;case cons.cons.nil=>
  refine aB zq2 λa=> ?_
  refine aB zq2 λb=> ?_
  repeat' (first
   |(with_reducible refine aB ?_ λ_=> ?_)
   |exact zq2
   |split)
 all_goals exact(zq2:Al Q φ g m n true d (stuck _))
theorem MR{z f}(hz:Al Q φ g m n true d z)(hf:∀t a b c,Al Q φ g m n true d (f t a b c))(a):Al Q φ g m n true d (ReflectliteValue.methodAny z f a):=by
 obtain⟨_|⟨v,_|⟨h2,l⟩⟩⟩:=a;case cons.nil=>
  refine aB zq2 λb=> ?_
  split <;>first |exact hz|exact hf _ _ _ _
 all_goals exact(zq2:Al Q φ g m n true d (stuck _))
theorem Ln{z f}(hz:Al Q φ g m n true d z)(hf:∀t a b c,Al Q φ g m n true d (f t a b c))(a):Al Q φ g m n true d (ReflectliteValue.method z f a):=by
 obtain⟨_|⟨v,_|⟨h2,l⟩⟩⟩:=a;case cons.nil=>
  refine aB zq2 λb=> ?_
  split <;>first |exact hz|exact hf _ _ _ _
 all_goals exact(zq2:Al Q φ g m n true d (stuck _))
theorem OX{f}(hf:∀t,Al Q φ g m n true d (f t))(a):Al Q φ g m n true d (ReflectliteType.method f a):=by
 obtain⟨_|⟨v,_|⟨h2,l⟩⟩⟩:=a;case cons.nil=>exact aB zq2 hf
 all_goals exact(zq2:Al Q φ g m n true d (stuck _))
theorem O9{f}(hf:∀t,Al Q φ g m n true d (f t))(a):Al Q φ g m n true d (ReflectliteType.abiMethod f a):=by
 obtain⟨_|⟨v,_|⟨h2,l⟩⟩⟩:=a;case cons.nil=>
  exact aB zq2 λb=>aB zq2 λc=>hf _
 all_goals exact(zq2:Al Q φ g m n true d (stuck _))
theorem IJ{s f}(hf:∀t u,Al Q φ g m n true d (f t u))(a):Al Q φ g m n true d (ReflectliteType.relation s f a):=by
 obtain⟨_|⟨v,_|⟨x,_|⟨h2,l⟩⟩⟩⟩:=a;case cons.cons.nil=>
  cases x;case nilIface=>exact(zq2:Al Q φ g m n true d (panicString _))
  case iface t u=>
   refine aB zq2 λb=> ?_
   repeat' (first
    |exact zq2)
  all_goals exact(zq2:Al Q φ g m n true d (stuck _))
 all_goals exact(zq2:Al Q φ g m n true d (stuck _))
end
theorem gg{Q0}{s:Sem BY}(h:∀L Q φ g d,@Al L _ Q φ g true false true d s):(∀φ,Sm Q0 φ s)/\(∀P,Hu P s)/\∀[aD] P,bU P true false s:=
 ⟨λφ=>⟨(@mr fo _ _ _ _ _ _ _ _ (h _ _ φ false false).al).1⟩,λ_=>⟨(@mr fo _ _ _ _ _ _ _ _ (h _ _ (λ_ f=>f) false true).al).2.1 rfl⟩,λ_=>⟨xe (h _ _ (λ_ f=>f) true true).al⟩⟩
end
section
open Go.RowKit
def lH:List Nat:=[3,13,14,16,20,26,36,33,52,90,87,88,89,112,113,114,206,216,218,219,211,53,
 30,43,57,58,59,97,98,122,123,124,148,149,150,151,152,153,164,165,176,177,186,
 131,237,232,110,230,81,79,80,249,251,246,248,233,235,236,238,226,231,229,252,254,240,242,243,245,244,78,250,247,234,227,253,241,
 50,77,76,109,128,129,108,130,127,156,157,34,35,23,24,7,12,10,5,11,17,18,19,21,25,29]
@[reducible] noncomputable def fI:aD:=K0 Tryz.prog.globals.size
abbrev bH:Nat->Option Code:=only lH
noncomputable abbrev PH:SV:=alt Tryz.prog bH
theorem Bv:IS Tryz.f87=some λargs=>Extern.ReflectliteValue.unpack (args.getD 0 (.tuple #[])):=by kernel_rfl
theorem Fs:IS Tryz.f88=some (Extern.ReflectliteValue.methodAny (Extern.ReflectliteValue.valueError "reflectlite.Value.Type" 0) λt _ _ _=>Extern.ReflectliteType.toType t):=by kernel_rfl
theorem Dc:IS Tryz.f89=some (Extern.ReflectliteValue.method (Extern.ReflectliteValue.valueError "reflectlite.Value.IsNil" 0) Extern.ReflectliteValue.isNil):=by kernel_rfl
theorem Dd:IS Tryz.f112=some Extern.ReflectliteType.typeOf:=by kernel_rfl
theorem Ft:IS Tryz.f113=some (Extern.ReflectliteValue.method (Extern.ReflectliteValue.valueError "reflectlite.Value.Elem" 0) Extern.ReflectliteValue.elem):=by kernel_rfl
theorem HX:IS Tryz.f114=some Extern.ReflectliteValue.set:=by kernel_rfl
theorem Fw:IS Tryz.f206=some (Extern.ReflectliteType.abiMethod λt=>do pure (.int .u8 (<- Extern.Rtype.kind t))):=by kernel_rfl
theorem Bu:IS Tryz.f216=some (Extern.ReflectliteType.relation "AssignableTo" Extern.ReflectliteType.assignableTo):=by kernel_rfl
theorem Fv:IS Tryz.f218=some (Extern.ReflectliteType.method Extern.ReflectliteType.elem):=by kernel_rfl
theorem Fu:IS Tryz.f219=some (Extern.ReflectliteType.relation "Implements" Extern.ReflectliteType.implements_):=by kernel_rfl
theorem wU:IS Tryz.f127=some (Extern.Atomic.loadT (.int .u32)):=by kernel_rfl
theorem wT:IS Tryz.f156=some Extern.Atomic.storeT:=by kernel_rfl
section
variable[aD]{Q:SV}{φ:Nat->Func->Func}{g m n d:Bool}
theorem KP(t a):Al Q φ g m n true d (Extern.Atomic.loadT t a):=by
 obtain⟨_|⟨v,_|⟨h2,l⟩⟩⟩:=a;case cons.nil=>
  refine aB zq2 λb=> ?_
  refine aB zq2 λc=> ?_
  .repeat' (first |exact zq2|split)
 all_goals exact(zq2:Al Q φ g m n true d (stuck _))
theorem II(a):Al Q φ g m n true d (Extern.Atomic.storeT a):=by
 obtain⟨_|⟨v,_|⟨x,_|⟨h2,l⟩⟩⟩⟩:=a;case cons.cons.nil=>
  refine aB zq2 λb=> ?_
  refine aB zq2 λc=> ?_
  .exact zq2
 all_goals exact(zq2:Al Q φ g m n true d (stuck _))
end
def N2:List Nat:=[127,156,87,88,89,112,113,114,206,216,218,219]
theorem Iz{f fn}(hf:Tryz.prog.funcs[f]?=some fn)(hb:bH f=none)(hn:fn.body.isNone=true):f∈N2:=by
 have h:chk Tryz.prog lH (λf fn=>fn.body.isSome||N2.contains f)=true:=by kernel_rfl
 have:=oC h hf hb;rw[TF]at this;rcases this with h|h
 .cases hc:fn.body<;>simp_all
 .simpa using h
theorem y4{f fn}(hf:Tryz.prog.funcs[f]?=some fn)(hb:bH f=none)(hn:fn.body.isNone=true):SY fn=none/\∀e,IS fn=some e->∀args,(∀φ,Sm Tryz.prog φ (e args))/\(∀P,Hu P (e args))/\∀[aD] P,bU P true false (e args):=by
 have h:=Iz hf hb hn;have key:∀{g:Func}{e0:Array BY->Sem BY},Tryz.prog.funcs[f]?=some g->SY g=none->IS g=some e0->(∀args,(∀φ,Sm Tryz.prog φ (e0 args))/\(∀P,Hu P (e0 args))/\∀[aD](P:SV),bU P true false (e0 args))->SY fn=none/\∀e,IS fn=some e->∀args,(∀φ,Sm Tryz.prog φ (e args))/\(∀P,Hu P (e args))/\∀[aD](P:SV),bU P true false (e args):=λh1 h2 h3 h4=>by
  rw[hf]at h1;cases h1;refine⟨h2,λe he=> ?_⟩;rw[h3]at he;cases he;exact h4
 unfold N2 at h;simp only[Th,Tz,or_false]at h;rcases h with rfl|rfl|rfl|rfl|rfl|rfl|rfl|rfl|rfl|rfl|rfl|rfl
 .exact key Tryz.func127 (by kernel_rfl) wU λargs=>gg λ_ _ _ _ _=>KP _ _
 .exact key Tryz.func156 (by kernel_rfl) wT λargs=>gg λ_ _ _ _ _=>II _
 .exact key Tryz.func87 (by kernel_rfl) Bv λargs=>gg λ_ _ _ _ _=>IG _
 .exact key Tryz.func88 (by kernel_rfl) Fs λargs=>gg λ_ _ _ _ _=>MR zq2 (λ_ _ _ _=>zq2) _
 .exact key Tryz.func89 (by kernel_rfl) Dc λargs=>gg λ_ _ _ _ _=>Ln zq2 (λ_ _ _ _=>zq2) _
 .exact key Tryz.func112 (by kernel_rfl) Dd λargs=>gg λ_ _ _ _ _=>IH _
 .exact key Tryz.func113 (by kernel_rfl) Ft λargs=>gg λ_ _ _ _ _=>Ln zq2 (λ_ _ _ _=>zq2) _
 .exact key Tryz.func114 (by kernel_rfl) HX λargs=>gg λ_ _ _ _ _=>MS _
 .exact key Tryz.func206 (by kernel_rfl) Fw λargs=>gg λ_ _ _ _ _=>O9 (λ_=>zq2) _
 .exact key Tryz.func216 (by kernel_rfl) Bu λargs=>gg λ_ _ _ _ _=>IJ (λ_ _=>zq2) _
 .exact key Tryz.func218 (by kernel_rfl) Fv λargs=>gg λ_ _ _ _ _=>OX (λ_=>zq2) _
 .exact key Tryz.func219 (by kernel_rfl) Fu λargs=>gg λ_ _ _ _ _=>IJ (λ_ _=>zq2) _
section
attribute [local instance] fI
theorem OA:bz PH:=sj (by kernel_rfl) (by kernel_rfl) λf fn hf hb hn=>⟨(y4 hf hb hn).1,λe he args=>((y4 hf hb hn).2 e he args).2.2 _⟩
theorem Co:∀g,aD.lim<=g->Tryz.prog.stepOf g=none:=by
 have h:Tryz.prog.funcs.all (λfn=>match fn.body with |some c=>(readies c).all (· <Tryz.prog.globals.size)|none=>true)=true:=by kernel_rfl
 intro g hg;unfold Program.stepOf;rw[Array.findIdx?_eq_none_iff];intro fn hfn;obtain⟨f,hf⟩:=Tp.1 hfn;have:=O0 h hf;cases hc:fn.body with
 |none=>simp
 |some c=>
  rw[hc]at this;dsimp only at this;rw[TC]at this;show(Option.map readies (some c)).any (λx=>x.contains g)=false;simp only[Option.map_some,Option.any_some];rw[Bool.eq_false_iff];intro hh;exact absurd (of_decide_eq_true (this g (by simpa using hh))) (Nat.not_lt.2 hg)
theorem Oy:Twin Tryz.prog bH where
 wait:=Co
 data:=by kernel_rfl
 begin:=λf hf fn hfn hb=>by
  have h:Tryz.prog.inits.all (λf=>match Tryz.prog.funcs[f]? with |some fn=>fn.body.isSome|none=>true)=true:=by kernel_rfl
  simp_all
 next:=λf fn hf hb hn=>(y4 hf hb hn).1
 ext:=λf fn hf hb hn e he args=>((y4 hf hb hn).2 e he args).1 _
theorem ek:On Tryz.prog bH where
 twin:=Oy
 tame:=OA
 refuse:=fa lH
 quiet:=λh=>h
 hush:=⟨λf fn hf hn=>by
  rw[@ft Tryz.prog bH f]at hf;obtain⟨g,hg,rfl⟩:=OF.1 hf;cases hb:bH f with
  |some c=>
   simp_all[ax]
  |none=>
   have e:ax bH f g=g:=pS hb;rw[e]at hn ⊢;exact⟨(y4 hg hb hn).1,λe he args=>((y4 hg hb hn).2 e he args).2.1 _⟩⟩
end
theorem drop_at(s:ByteArray)(k h):s.data.toList.drop k=s[k]::s.data.toList.drop (k+1):=by
 rw[Tk (by simpa using h)];rfl
theorem drop_end(s:ByteArray)(k)(h:s.size<=k):s.data.toList.drop k=[]:=T8 (by simpa using h)
theorem wt(s w)(hs:s.size<=4294967280):
 Calls PB 171 #[.string s] w λe w'=>e= .returned (.tuple #[.int .i64 (iJ s.data.toList).1,.bool (iJ s.data.toList).2])/\w'=w:=by
 go_enter PB.func Tryz.func171 (by decide),Tryz.ntmps171
 go_wp2;go_loopw [4,8] (λv i wr=>∃k n:Nat,k<=s.size/\n<=21/\v= .int .i64 n/\i= .int .i64 k/\wr=w/\r9 0 s.data.toList=r9 n (s.data.toList.drop k)) λ_ i _=>s.size- (intOf i).toNat
 case atStart=>exact⟨0,0,T3 _,by decide,rfl,rfl,rfl,rfl⟩
 case round=>
  obtain⟨k,n,hk,hn,rfl,rfl,rfl,hr⟩:=hrel;by_cases hlt:k<s.size
  .rw[drop_at s k hlt,r9]at hr;have h0:=up hr;have hc:=s[k].toNat_lt;clear hr;have hd:=up (SN s[k].toNat 48);have hd2:=up (SN 57 s[k].toNat);go_wp2;case roundEnd=>
    rename_i h1 h2;have hr:=h0.out;rw[if_neg (by omega)]at hr;refine⟨⟨k+1,min (10*n+(s[k].toNat-48)) 21,by omega,Nat.min_le_right _ _,?_,by push_cast;rfl,trivial,hr⟩,by simp[intOf];omega⟩;congr 1;omega
   all_goals
    go_ret2
    rw[if_pos (by omega)]at h0;simp[iJ,h0.out]
  .have h0:=up hr;clear hr;go_wp2;all_goals
    rename_i h1;go_ret2
    have hr:=h0.out;rw[drop_end s k (by omega),r9]at hr;have e:iJ s.data.toList=(n,!s.data.toList.isEmpty&&decide (n<=20)):=by unfold iJ;rw[hr]
    have hd:decide ((n:Int)<=20)=decide (n<=20):=by rw[decide_eq_decide];omega
    clear hr h0;rw[SX]at h1;refine⟨?_,rfl⟩;rw[e];try rw[SX,hd]
    try simp[h1]
def PB.Nj:Go.Shelf.Ren:=⟨λ|145=>170|217=>161|219=>187|220=>185|224=>189|225=>188|266=>173|267=>190|314=>191|n=>n,λ|3=>3|4=>4|5=>5|9=>9|46=>165|51=>90|59=>296|146=>319|n=>n,λ|1=>2|n=>n⟩
theorem PB.lays145:Go.Proofs.Lays.n145 PB PB.Nj:= {
 mixed:=by kernel_rfl
 f145:=(PB.func Tryz.func170 (by decide)).trans (congrArg some (by kernel_rfl))
 f217:=(PB.func Tryz.func161 (by decide)).trans (congrArg some (by kernel_rfl))
 f219:=(PB.func Tryz.func187 (by decide)).trans (congrArg some (by kernel_rfl))
 f220:=(PB.func Tryz.func185 (by decide)).trans (congrArg some (by kernel_rfl))
 f224:=(PB.func Tryz.func189 (by decide)).trans (congrArg some (by kernel_rfl))
 f225:=(PB.func Tryz.func188 (by decide)).trans (congrArg some (by kernel_rfl))
 f266:=(PB.func Tryz.func173 (by decide)).trans (congrArg some (by kernel_rfl))
 f267:=(PB.func Tryz.func190 (by decide)).trans (congrArg some (by kernel_rfl))
 f314:=(PB.func Tryz.func191 (by decide)).trans (congrArg some (by kernel_rfl))
 t3:=(congrFun (aK ..) _).trans Tryz.underlying3
 a3:=λw=>(dP ..).trans (Tryz.isAgg3 w)
 z3:=λw=>(dk ..).trans (Tryz.sizeOf3 w)
 v3:=λw=>(cz ..).trans (Tryz.zeroValue3 w)
 t4:=(congrFun (aK ..) _).trans Tryz.underlying4
 a4:=λw=>(dP ..).trans (Tryz.isAgg4 w)
 z4:=λw=>(dk ..).trans (Tryz.sizeOf4 w)
 v4:=λw=>(cz ..).trans (Tryz.zeroValue4 w)
 t5:=(congrFun (aK ..) _).trans Tryz.underlying5
 a5:=λw=>(dP ..).trans (Tryz.isAgg5 w)
 z5:=λw=>(dk ..).trans (Tryz.sizeOf5 w)
 v5:=λw=>(cz ..).trans (Tryz.zeroValue5 w)
 t9:=(congrFun (aK ..) _).trans Tryz.underlying9
 a9:=λw=>(dP ..).trans (Tryz.isAgg9 w)
 z9:=λw=>(dk ..).trans (Tryz.sizeOf9 w)
 v9:=λw=>(cz ..).trans (Tryz.zeroValue9 w)
 t46:=(congrFun (aK ..) _).trans Tryz.underlying165
 a46:=λw=>(dP ..).trans (Tryz.isAgg165 w)
 z46:=λw=>(dk ..).trans (Tryz.sizeOf165 w)
 v46:=λw=>(cz ..).trans (Tryz.zeroValue165 w)
 t51:=(congrFun (aK ..) _).trans Tryz.underlying90
 a51:=λw=>(dP ..).trans (Tryz.isAgg90 w)
 z51:=λw=>(dk ..).trans (Tryz.sizeOf90 w)
 v51:=λw=>(cz ..).trans (Tryz.zeroValue90 w)
 t59:=(congrFun (aK ..) _).trans Tryz.underlying296
 a59:=λw=>(dP ..).trans (Tryz.isAgg296 w)
 z59:=λw=>(dk ..).trans (Tryz.sizeOf296 w)
 v59:=λw=>(cz ..).trans (Tryz.zeroValue296 w)
 t146:=(congrFun (aK ..) _).trans Tryz.underlying319
 a146:=λw=>(dP ..).trans (Tryz.isAgg319 w)
 z146:=λw=>(dk ..).trans (Tryz.sizeOf319 w)
 v146:=λw=>(cz ..).trans (Tryz.zeroValue319 w)
 g1:=by kernel_rfl}
def PB.Nk:Go.Shelf.Ren:=⟨λ|137=>139|217=>161|266=>173|n=>n,λ|3=>3|5=>5|9=>9|n=>n,λ|n=>n⟩
theorem PB.lays137:Go.Proofs.Lays.n137 PB PB.Nk:= {
 mixed:=by kernel_rfl
 f137:=(PB.func Tryz.func139 (by decide)).trans (congrArg some (by kernel_rfl))
 f217:=(PB.func Tryz.func161 (by decide)).trans (congrArg some (by kernel_rfl))
 f266:=(PB.func Tryz.func173 (by decide)).trans (congrArg some (by kernel_rfl))
 t3:=(congrFun (aK ..) _).trans Tryz.underlying3
 a3:=λw=>(dP ..).trans (Tryz.isAgg3 w)
 z3:=λw=>(dk ..).trans (Tryz.sizeOf3 w)
 v3:=λw=>(cz ..).trans (Tryz.zeroValue3 w)
 t5:=(congrFun (aK ..) _).trans Tryz.underlying5
 a5:=λw=>(dP ..).trans (Tryz.isAgg5 w)
 z5:=λw=>(dk ..).trans (Tryz.sizeOf5 w)
 v5:=λw=>(cz ..).trans (Tryz.zeroValue5 w)
 t9:=(congrFun (aK ..) _).trans Tryz.underlying9
 a9:=λw=>(dP ..).trans (Tryz.isAgg9 w)
 z9:=λw=>(dk ..).trans (Tryz.sizeOf9 w)
 v9:=λw=>(cz ..).trans (Tryz.zeroValue9 w)}
def PB.OK:Go.Shelf.Ren:=⟨λ|99=>159|206=>172|n=>n,λ|3=>3|4=>4|9=>9|n=>n,λ|n=>n⟩
theorem PB.lays99:Go.Proofs.Lays.n99 PB PB.OK:= {
 mixed:=by kernel_rfl
 f99:=(PB.func Tryz.func159 (by decide)).trans (congrArg some (by kernel_rfl))
 f206:=(PB.func Tryz.func172 (by decide)).trans (congrArg some (by kernel_rfl))
 t3:=(congrFun (aK ..) _).trans Tryz.underlying3
 a3:=λw=>(dP ..).trans (Tryz.isAgg3 w)
 z3:=λw=>(dk ..).trans (Tryz.sizeOf3 w)
 v3:=λw=>(cz ..).trans (Tryz.zeroValue3 w)
 t4:=(congrFun (aK ..) _).trans Tryz.underlying4
 a4:=λw=>(dP ..).trans (Tryz.isAgg4 w)
 z4:=λw=>(dk ..).trans (Tryz.sizeOf4 w)
 v4:=λw=>(cz ..).trans (Tryz.zeroValue4 w)
 t9:=(congrFun (aK ..) _).trans Tryz.underlying9
 a9:=λw=>(dP ..).trans (Tryz.isAgg9 w)
 z9:=λw=>(dk ..).trans (Tryz.sizeOf9 w)
 v9:=λw=>(cz ..).trans (Tryz.zeroValue9 w)}
theorem ext_list(s:ByteArray)(a b):(s.extract a b).data.toList=(s.data.toList.drop a).take (b-a):=by rw[Lib.extract_eq]
theorem ow(s:ByteArray)(a):(s.extract a s.size).data.toList=s.data.toList.drop a:=by
 rw[ext_list];grind [SJ,Su]
theorem xW(s)(c:Nat)(w):Calls PB 139 #[.string s,.int .u8 c] w λe w'=>e= .returned (.int .i64 (Sw s.data.toList c.toUInt8))/\w'=w:=Any.strings_IndexByte PB.lays137 s c w
theorem DY(s sep m w)(hs:s.size<4294967281)(hm:w.cell? ⟨2,0,none⟩=some (.int .i64 m)):
 Calls PB 170 #[.string s,.string sep] w λe w'=>e= .returned (.tuple #[.string ⟨(SU s.data.toList sep.data.toList).1.toArray⟩,.string ⟨(SU s.data.toList sep.data.toList).2.1.toArray⟩,.bool (SU s.data.toList sep.data.toList).2.2])/\∃n,w'=w.drewN n:=Any.strings_Cut PB.lays145 s sep m w hs hm
theorem M7(s p w):Calls PB 159 #[.string s,.string p] w λe w'=>e= .returned (.bool (Ti s.data.toList p.data.toList))/\w'=w:=Any.strings_HasPrefix PB.lays99 s p w
theorem xK{x c s}{p q fl:Nat}{fold w}(h:a7 w x 243 (iR s p fl c fold)):a7 (w.setCell ⟨x,1,none⟩ (.int .i64 q)) x 243 (iR s q fl c fold):=h.bI 1 _
theorem Ds(l:List UInt8):(⟨l.toArray⟩:ByteArray).size=l.length:=by rw[Su]
theorem FM(x c s p fl fold w m)(hs:s.size<=1000)(hp:p<=s.size)(hm:w.cell? ⟨2,0,none⟩=some (.int .i64 m))(hB:a7 w x 243 (iR s p fl c fold)):
 Calls PB 158 #[.pointer (some ⟨x,0,none⟩)] w λe w'=>e= .returned (.tuple #[.int .i64 (dU (s.data.toList.drop p)).1,.int .i64 (dU (s.data.toList.drop p)).2.1,.bool (dU (s.data.toList.drop p)).2.2.1])/\
  a7 w' x 243 (iR s (p+(dU (s.data.toList.drop p)).2.2.2) fl c fold)/\Kp w.heap.size [x] w w':=by
 have c0:w.cell? ⟨x,0,none⟩=some (.string s):=hB.cell 0;have c1:w.cell? ⟨x,1,none⟩=some (.int .i64 p):=hB.cell 1;have f0:∀i,w.frozen? ⟨x,i,none⟩=false:=hB.frozen;have hI:∀w,Calls PB 139 #[.string (s.extract p s.size),.int .u8 125] w λe w'=>e= .returned (.int .i64 (Sw (s.data.toList.drop p) 125))/\w'=w:=λw=>by
  rw[<- ow];exact xW (s.extract p s.size) 125 w
 have hB':=up hB;have h1:=Su s;generalize hl:s.data.toList.drop p=rest at hI ⊢;have hlen:p+rest.length=s.size:=by rw[<- hl,SJ];omega
 unfold dU;by_cases hi:Sw rest 125<0
 .rw[if_pos hi];have h0:=up hI;clear hI hB hm h1;go_enter PB.func Tryz.func158 (by decide),Tryz.ntmps158
  go_wp2;go_quiet (first |(go_at_call 139;refine Td (h0.out _)))
  go_wp2;go_ret3
  exact⟨rfl,hB'.out,.refl _⟩
 .have hk:=HE hi;obtain⟨k,hk0⟩:∃k:Nat,Sw rest 125=k:=⟨(Sw rest 125).toNat,by omega⟩;rw[if_neg hi];rw[hk0]at hk ⊢;simp only[hk0]at hI;rw[Int.toNat_natCast]at hk ⊢;have hel:(s.extract p (p+k)).data.toList=rest.take k:=by rw[ext_list,hl,Nat.add_sub_cancel_left]
  have hC:∀u:AS,u.cell? ⟨2,0,none⟩=some (.int .i64 m)->Calls PB 170 #[.string (s.extract p (p+k)),.string ⟨#[44]⟩] u λe w'=>e= .returned (.tuple #[.string ⟨(SU (rest.take k) [44]).1.toArray⟩,.string ⟨(SU (rest.take k) [44]).2.1.toArray⟩,.bool (SU (rest.take k) [44]).2.2])/\∃m,w'=u.drewN m:=λu hu=>by
   have:=DY (s.extract p (p+k)) ⟨#[44]⟩ m u (by rw[Su,hel,SZ];omega) hu;rw[hel]at this;exact this
  have hcl:(SU (rest.take k) [44]).1.length<=1000/\(SU (rest.take k) [44]).2.1.length<=1000:=by
   unfold SU;split
   .simp only[SZ,SJ];omega
   .simp only[SZ,SF];omega
  generalize hcu:SU (rest.take k) [44]=cu at hC hcl ⊢;obtain⟨lo,hgh,two⟩:=cu;dsimp only at hC hcl ⊢;have hN1:=up λw=>wt ⟨lo.toArray⟩ w (by rw[Ds];omega)
  have h3:=up λw=>wt ⟨hgh.toArray⟩ w (by rw[Ds];omega)
  generalize hpk:p+k=q at hC hel;have hw:IntKind.i64.wrap ((p:Int)+k)=(q:Int):=by rw[IN];omega
  have hpq:p<=q:=by omega
  have hqs:q<=s.size:=by omega
  obtain⟨j,hj⟩:∃j,j=k+1:=⟨_,rfl⟩;have hwk:IntKind.i64.wrap ((k:Int)+1)=(j:Int):=by rw[IN];omega
  have hwp:IntKind.i64.wrap ((p:Int)+(j:Int))=((p+j:Nat):Int):=by rw[IN];omega
  rw[<- hj];clear hj;have h0:=up hI;have hC2:=up hC;have h2:=up hm;clear hI hk0 hi hC hB hm hel h1 hl hlen hk hcu;have hpk':=up hpk;clear hpk;have c0_w:=c0;have c1_w:=c1;have f0_w:=f0;have M_w:=h2;have B_w:=hB';have K_w:=up (Kp.refl (B:=w.heap.size) (X:=[x]) w);clear c0 c1 f0 hB' h2;have e0:(none:Option Nat)=none:=rfl;go_enter PB.func Tryz.func158 (by decide),Tryz.ntmps158
  go_wp2;go_quiet (first |(go_at_call 139;refine Td (h0.out _)))
  go_wp2;have c0_w1:(w.drewN nq).cell? ⟨x,0,none⟩=some _:=c0_w;have c1_w1:(w.drewN nq).cell? ⟨x,1,none⟩=some _:=c1_w;have f0_w1:∀i,(w.drewN nq).frozen? ⟨x,i,none⟩=false:=f0_w;have M_w1:=up (show(w.drewN nq).cell? ⟨2,0,none⟩=some _ from M_w.out);have B_w1:=up (show a7 (w.drewN nq) x _ _ from B_w.out);have K_w1:=up (K_w.out.drewN nq);clear c0_w c1_w f0_w M_w B_w K_w;generalize w.drewN nq=w1 at *;go_quiet (first |(go_at_call 170;refine Calls.quiet_of (hC2.out _ M_w1.out)))
  have c0_w2:(w1.drewN nq).cell? ⟨x,0,none⟩=some _:=c0_w1;have c1_w2:(w1.drewN nq).cell? ⟨x,1,none⟩=some _:=c1_w1;have f0_w2:∀i,(w1.drewN nq).frozen? ⟨x,i,none⟩=false:=f0_w1;have M_w2:=up (show(w1.drewN nq).cell? ⟨2,0,none⟩=some _ from M_w1.out);have B_w2:=up (show a7 (w1.drewN nq) x _ _ from B_w1.out);have K_w2:=up (K_w1.out.drewN nq);clear c0_w1 c1_w1 f0_w1 M_w1 B_w1 K_w1;generalize w1.drewN nq=w2 at *;have hE:=up (And.intro (xK (q:=p+j) B_w2.out) (K_w2.out.setCell (p:=⟨x,1,none⟩) (λ_=>AI.2 rfl) (.int .i64 ((p+j:Nat):Int))));cases two with
  |false=>
   go_wp2_with (first |(go_at_call 171;refine(hN1.out _).mono ?_;rintro e w' ⟨rfl,rfl⟩)|fail)
   go_ret3
   exact⟨rfl,hE.out⟩
  |true=>
   by_cases hh:hgh=[]
   .subst hh;go_wp2_with (first |(go_at_call 171;refine(hN1.out _).mono ?_;rintro e w' ⟨rfl,rfl⟩)|fail)
    go_ret3
    exact⟨rfl,hE.out⟩
   .have hne:hgh.isEmpty=false:=by cases hgh with |nil=>exact absurd rfl hh|cons a r=>rfl
    have hh':=up hh;clear hh;go_wp2_with (first |(go_at_call_of 171 (Value.string ⟨lo.toArray⟩);refine(hN1.out _).mono ?_;rintro e w' ⟨rfl,rfl⟩)|(go_at_call_of 171 (Value.string ⟨hgh.toArray⟩);refine(h3.out _).mono ?_;rintro e w' ⟨rfl,rfl⟩)|fail)
    all_goals
     go_ret3
     refine⟨?_,hE.out⟩;first |rfl|(simp_all;done)
def tc(l:List UInt8):BY:=.string ⟨l.toArray⟩
def jb:List BY:=eN.flatMap λx=>[tc x.1,tc x.2]
def nC(w:AS):Prop:=∃t fr,w.heap[1]?=some (.cells jb.toArray t fr)
def vg(k:Nat):ByteArray:=⟨(eN.getD k ([],[])).1.toArray⟩
def vf(k:Nat):ByteArray:=⟨(eN.getD k ([],[])).2.toArray⟩
theorem Is(w):∀k:Nat,k<12->(Instr.index 301 (.agg jb.toArray) (.int .i64 (k:Int))).run PB w= .ok (.agg #[.string (vg k),.string (vf k)]) w:=λk hk=>match k,hk with
 |0,_=>by kernel_rfl
 |1,_=>by kernel_rfl
 |2,_=>by kernel_rfl
 |3,_=>by kernel_rfl
 |4,_=>by kernel_rfl
 |5,_=>by kernel_rfl
 |6,_=>by kernel_rfl
 |7,_=>by kernel_rfl
 |8,_=>by kernel_rfl
 |9,_=>by kernel_rfl
 |10,_=>by kernel_rfl
 |11,_=>by kernel_rfl
theorem KF:∀k,k<12->(vf k).size%2=0/\(vf k).size<=8:=by decide+kernel
theorem KD(nm k)(hk:k<12):(eN.drop k).find? λx=>x.1==nm=if(vg k).data.toList=nm then some ((vg k).data.toList,(vf k).data.toList)else(eN.drop (k+1)).find? λx=>x.1==nm:=by
 have hl:k<eN.length:=hk;have e:eN.drop k=((vg k).data.toList,(vf k).data.toList)::eN.drop (k+1):=by
  rw[Tk hl];grind [vg,vf]
 rw[e];by_cases h:(vg k).data.toList=nm
 .simp[h]
 grind
def MZ(r:Option (cS×Nat))(x b:Nat)(s:ByteArray)(p fl c:Nat)(fold:Bool)(w:AS)(e:Ending)(w':AS):Prop:=match r with
 |none=>e= .returned (.bool false)/\Kp w.heap.size [] w w'
 |some y=>e= .returned (.bool true)/\a7 w' x 243 (iR s (p+y.2) fl c fold)/\a7 w' b 101 (words y.1)/\Kp w.heap.size [x,b] w w'
theorem Iu(x c b s p fl fold S rest w m)(hs:s.size<=1000)(hp:p+rest.size<=s.size)(hr:2<=rest.size)
 (hm:w.cell? ⟨2,0,none⟩=some (.int .i64 m)) (hc:nC w) (hB:a7 w x 243 (iR s p fl c fold)) (hb:a7 w b 101 (words S)) (hxb:x≠b):
 Calls PB 160 #[.pointer (some ⟨x,0,none⟩),.pointer (some ⟨b,0,none⟩),.string rest] w λe w'=>MZ (jE S rest.data.toList) x b s p fl c fold w e w':=by
 have c0:w.cell? ⟨x,0,none⟩=some (.string s):=hB.cell 0;have c1:w.cell? ⟨x,1,none⟩=some (.int .i64 p):=hB.cell 1;have f0:∀i,w.frozen? ⟨x,i,none⟩=false:=hB.frozen;have hC:∀u:AS,u.cell? ⟨2,0,none⟩=some (.int .i64 m)->Calls PB 170 #[.string (rest.extract 2 rest.size),.string ⟨#[58,93]⟩] u λe w'=>e= .returned (.tuple #[.string ⟨(SU (rest.data.toList.drop 2) [58,93]).1.toArray⟩,.string ⟨(SU (rest.data.toList.drop 2) [58,93]).2.1.toArray⟩,.bool (SU (rest.data.toList.drop 2) [58,93]).2.2])/\∃m,w'=u.drewN m:=λu hu=>by
  have:=DY (rest.extract 2 rest.size) ⟨#[58,93]⟩ m u (by rw[Su,ow,SJ,<- Su];omega) hu;rw[ow]at this;exact this
 have hsz:=Su rest;generalize hres:jE S rest.data.toList=res;unfold jE at hres;dsimp only at hres;generalize hcu:SU (rest.data.toList.drop 2) [58,93]=cu at hC hres;obtain⟨nm,aft,ok⟩:=cu;dsimp only at hC hres;have h6:ok=true->nm.length+4<=rest.size:=λh=>by
  subst h;have:=DW (rest.data.toList.drop 2) [58,93] (by rw[hcu]);rw[hcu]at this;simp only[SJ,SH,SF]at this;omega
 have h1b:1<rest.size:=by omega
 have hg1:rest.data.toList.getD 1 0=rest[1]'h1b:=by
  rw[T2,Tn (by omega)];rfl
 rw[hg1]at hres;have hC2:=up hC;have h3:=up hm;have hB2:=up hB;have hb2:=up hb;have hc2:=up hc;have hcu2:=up hcu;have h1z:(1:Int)<(rest.size:Int):=by omega
 clear hC hm hB hb hc hcu hsz hg1;by_cases h1:rest[1]=58
 .have h1n:rest[1].toNat=58:=by rw[h1];rfl
  cases ok with
  |false=>
   rw[if_pos (.inr rfl)]at hres;subst hres;go_enter PB.func Tryz.func160 (by decide),Tryz.ntmps160
   go_wp2_with (first |(go_at_call 170;refine(hC2.out _ h3.out).mono ?_;rintro e w' ⟨rfl,n1,rfl⟩)|fail)
   go_ret;exact⟨rfl,(Kp.refl w).drewN n1⟩
  |true=>
   rw[if_neg (by simp[h1])]at hres;replace hres:=up hres;obtain⟨tt,fr,hg⟩:=hc2.out;have hix0:=λk hk w=>Is w k hk
   generalize hcv:jb.toArray=cv at hg hix0;have hu:=(congrFun (aK Tryz.prog bB) 301).trans Tryz.underlying301;have hsz:(PB.info? 301).map (·.size)=some cv.size:=by rw[<- hcv];kernel_rfl
   clear hcv;have h7:=up hix0;clear hix0;go_enter PB.func Tryz.func160 (by decide),Tryz.ntmps160
   go_wp2_with (first |(go_at_call 170;refine(hC2.out _ h3.out).mono ?_;rintro e w' ⟨rfl,n1,rfl⟩)|(refine wpList_load_row rfl 301 _ rfl 1 rfl tt _ fr _ hg hu rfl hsz ?_)|fail)
   have B1:=up (show a7 (w.drewN n1) x _ _ from hB2.out);have b1:=up (show a7 (w.drewN n1) b _ _ from hb2.out);have K1:=up ((Kp.refl (B:=w.heap.size) (X:=[]) w).drewN n1);have hz1:(w.drewN n1).heap.size=w.heap.size:=rfl;clear c0 c1 f0 hc2 h3 hC2 hg;generalize w.drewN n1=w1 at *;go_loopw [28] (λi wr=>∃k:Nat,k<=12/\i= .int .i64 k/\Kp w.heap.size [] w wr/\eN.find? λx=>x.1==nm=(eN.drop k).find? λx=>x.1==nm) λi _=>12- (intOf i).toNat
   case atStart=>exact⟨0,by omega,rfl,K1.out,rfl⟩
   case round=>
    obtain⟨k,hk,rfl,hK,hf⟩:=hrel;by_cases hlt:k<12
    .rw[KD nm k hlt]at hf;have hx:=h7.out k hlt;have hki:(k:Int)<12:=by omega
     have hev:=up (KF k hlt);have hKr:=up hK;clear hK;generalize hN:vg k=N at *;generalize hR:vf k=R at *;have hN2:=up hN;have hR2:=up hR;clear hN hR hu hsz;by_cases hn:N.data.toList=nm
     .rw[if_pos hn]at hf;have hn':(N.toList==nm)=true:=by rw[SX];simpa using hn
      have hf2:=up hf;have hD:a7 (wr.alloc (.cells #[.string N,.string R] 300)) wr.heap.size 300 #[.string N,.string R]:=a7.new _ _ _;have h4:=hKr.out.alloc (By _) (.cells #[.string N,.string R] 300);have hbl:=hb2.out.lt;have h8:=hB2.out.lt;have hwl:=hKr.out.1;replace hD:=up hD;have hq:=up (hb2.out.kp h4 hbl (by simp));replace h4:=up (h4.mono (By _) (X':=[b]) λx hx=>by cases hx);replace hbl:=up hbl;replace h8:=up h8;replace hwl:=up hwl;clear hf hn hKr b1 B1 K1 h7;go_wp2;generalize wr.alloc (.cells #[.string N,.string R] 300)=w2 at *;generalize wr.heap.size=d at *;go_loopw [12] (λi wi=>∃j:Nat,j<=R.size/\j%2=0/\i= .int .i64 j/\a7 wi d 300 #[.string N,.string R]/\(∃S',a7 wi b 101 (words S')/\px S' (R.data.toList.drop j)=px S R.data.toList)/\Kp w.heap.size [b] w wi) λi _=>R.size- (intOf i).toNat
      case atStart=>exact⟨0,by omega,rfl,rfl,hD.out,⟨S,hq.out,rfl⟩,h4.out⟩
      case round=>
       obtain⟨j,hj,hj2,rfl,hDi,⟨S',h0,hS'⟩,h2⟩:=hrel;have cD:wr.cell? ⟨d,1,none⟩=some (.string R):=hDi.cell 1;by_cases hlt:j<R.size
       .have h9:j+1<R.size:=by have:=hev.out;omega
        rw[drop_at R j hlt,drop_at R (j+1) h9,px]at hS';have h1i:(j:Int)<(R.size:Int):=by omega
        have hw2':IntKind.i64.wrap ((j:Int)+2)=((j+2:Nat):Int):=by have:=hev.out;rw[IN];omega
        obtain⟨j1,hj1⟩:∃j1,j1=j+1:=⟨_,rfl⟩;have hlt3:j1<R.size:=by omega
        have h2i:(j1:Int)<(R.size:Int):=by omega
        have hw1:IntKind.i64.wrap ((j:Int)+1)=(j1:Int):=by have:=hev.out;rw[IN];omega
        have hRj:R[j+1]=R[j1]:=by subst hj1;rfl
        rw[hRj]at hS';have hA:=up λu(hu:a7 u b 101 (words S'))=>add_any b R[j].toNat R[j1].toNat S' u (by have:=R[j].toNat_lt;omega) (by have:=R[j1].toNat_lt;omega) hu
        clear hRj hj1 h9;replace h0:=up h0;replace hDi:=up hDi;replace h2:=up h2;replace hS':=up hS';replace hj2:=up hj2;clear hx hj;go_wp2;go_still_tail 10,by kernel_rfl
        change wpList _ _ _ _ _ wr.drew;go_wp2_with (first |(go_at_call 135;refine(hA.out wr.drew h0.out).mono ?_;rintro e w' ⟨rfl,hb',hO⟩)|fail)
        go_roundw
        case rel=>
         have hdb:d≠b:=by have:=hwl.out;have:=hbl.out;omega
         have hD':a7 w' d 300 #[.string N,.string R]:=(hO.2 d hdb).trans hDi.out;have hK':Kp w.heap.size [b] w w':=by
          refine h2.out.trans ⟨Nat.le_of_eq hO.1.symm,λy _ hy=>hO.2 y λe=>hy (e▸AI.2 rfl)⟩
         have hh:∃i:Nat,i<=R.size/\i%2=0/\Value.int .i64 ((j:Int)+2)= .int .i64 (i:Int)/\a7 w' d 300 #[.string N,.string R]/\(∃S2,a7 w' b 101 (words S2)/\px S2 (R.data.toList.drop i)=px S R.data.toList)/\Kp w.heap.size [b] w w':=⟨j+2,by have:=hev.out;have:=hj2.out;omega,by have:=hj2.out;omega,by push_cast;rfl,hD',⟨_,hb',hS'.out⟩,hK'⟩;first |exact hh|((repeat apply Exists.intro);exact⟨hh,rfl⟩)
        case measure=>simp[intOf];omega
       .have ha:R.data.toList.drop j=[]:=drop_end R j (by omega);rw[ha]at hS';have hS2:S'=px S R.data.toList:=hS';rw[hS2]at h0;have h5:=hB2.out.kp h2 h8.out (by simpa using hxb);have c1:wr.cell? ⟨x,1,none⟩=some (.int .i64 p):=h5.cell 1;have f1:∀i,wr.frozen? ⟨x,i,none⟩=false:=h5.frozen;have hnl:=h6 trivial;obtain⟨n4,he⟩:∃n4,n4=nm.length+4:=⟨_,rfl⟩;obtain⟨pn,hpn⟩:∃pn,pn=p+n4:=⟨_,rfl⟩;have hw3:IntKind.i64.wrap ((nm.length:Int)+4)=(n4:Int):=by rw[IN];omega
        have hw4:IntKind.i64.wrap ((p:Int)+(n4:Int))=(pn:Int):=by rw[IN];omega
        have hi:=up (xK (q:=pn) h5);have hl:=up (h0.far (p:=⟨x,1,none⟩) (λe=>hxb e.symm) (.int .i64 (pn:Int)));have ho:=up ((h2.mono (By _) (X':=[x,b]) λy hy _=>Tb _ hy).setCell (p:=⟨x,1,none⟩) (λ_=>SO) (.int .i64 (pn:Int)));have hr:=hres.out;rw[hf2.out]at hr;replace hr:=up hr;have hp4:=up (hpn.trans (congrArg (p+ ·) he));have hnlt:¬ (j:Int)<(R.size:Int):=by omega
        clear hS2 hS' hDi ha hx h0 h2 h5 h6 hnl he hpn hs hp hlt hj hj2;go_wp2;go_ret;rw[<- hr.out];refine⟨rfl,?_,hl.out,ho.out⟩;show a7 _ x 243 (iR s (p+(nm.length+4)) fl c fold);rw[<- hp4.out];exact hi.out
     .rw[if_neg hn]at hf;have hn':(N.toList==nm)=false:=by rw[SX];simpa using hn
      have hf2:=up hf;clear hf hn;go_wp2;case roundEnd=>exact⟨⟨k+1,by omega,by push_cast;rfl,hKr.out.alloc (By _) _,hf2.out⟩,by simp[intOf];omega⟩
    .have hd:eN.drop k=[]:=by
      obtain rfl:k=12:=by omega
      rfl
     rw[hd]at hf;have hf2:=up hf;have hKr:=up hK;clear hf hK hd h7 hu hsz h6;go_wp2;go_ret;have hr:=hres.out;rw[hf2.out]at hr;first
      |exact⟨rfl,hKr.out⟩
      |(rw[<- hr];exact⟨rfl,hKr.out⟩)
 .rw[if_pos (.inl h1)]at hres;subst hres;have h1':rest[1].toNat≠58:=λh=>h1 (by rw[<- Ta];exact h)
  have h1':((rest[1].toNat:Int)=58)=False:=eq_false (by omega);clear h1;go_enter PB.func Tryz.func160 (by decide),Tryz.ntmps160
  go_wp2_with (first |(go_at_call 170;refine(hC2.out _ h3.out).mono ?_;rintro e w' ⟨rfl,n1,rfl⟩)|fail)
  go_ret;exact⟨rfl,(Kp.refl w).drewN n1⟩
end
section
open Go.RowKit
attribute [local instance] dJ
variable{T:bz PB}
structure eK where
 x:Nat
 r:Nat
 cap:Nat
 rc:Nat
 tm:Bool
 m:Int
 s:ByteArray
 fl:Nat
 fold:Bool
structure SB(E:eK)(w:AS)(p:Nat)(F:Array BY):Prop where
 blk:a7 w E.x 243 (iR E.s p E.fl E.r E.fold)
 chan:∃sd,w.heap[E.r]?=some (.chan E.cap F false sd E.rc E.tm)
 max:w.cell? ⟨2,0,none⟩=some (.int .i64 E.m)
 cls:nC w
def eK.l(E:eK):List UInt8:=E.s.data.toList
def eK.ln(E:eK):Bool:=decide (E.fl/2%2=1)
section
variable{E:eK}{w w':AS}{p:Nat}{F:Array BY}
theorem SB.af(h:SB E w p F)(he:w'.heap=w.heap):SB E w' p F:=⟨h.blk.af he,by rw[he];exact h.chan,by unfold Sy at *;rw[he];exact h.max,by unfold nC at *;rw[he];exact h.cls⟩
theorem SB.lt(h:SB E w p F):E.x<w.heap.size/\E.r<w.heap.size/\E.x≠E.r:=by
 obtain⟨sd,hc⟩:=h.chan;exact⟨h.blk.lt,(Sx.1 hc).1,h.blk.xT hc⟩
theorem iq{w w':AS}{b}(h:w'.heap[b]?=w.heap[b]?)(i):w'.cell? ⟨b,i,none⟩=w.cell? ⟨b,i,none⟩:=by simp[Sy,h]
theorem SB.max_lt(h:SB E w p F):2<w.heap.size:=by
 have:=h.max;rcases SN 2 w.heap.size with h1|h1
 .exact h1
 simp_all[Sy]
theorem SB.kY(h:SB E w p F):1<w.heap.size:=by
 obtain⟨t,fr,h⟩:=h.cls<;>grind
theorem SB.keep(h:SB E w p F)(hx:w'.heap[E.x]?=w.heap[E.x]?)(hr:w'.heap[E.r]?=w.heap[E.r]?)(h1:w'.heap[2]?=w.heap[2]?)(h2:w'.heap[1]?=w.heap[1]?):SB E w' p F:=
 ⟨hx.trans h.blk,by rw[hr];exact h.chan,by rw[iq h1];exact h.max,by unfold nC at *;rw[h2];exact h.cls⟩
theorem SB.kp(h:SB E w p F){X}(hk:Kp w.heap.size X w w')(hx:E.x∉X)(hr:E.r∉X)(h1:2∉X)(h2:1∉X):SB E w' p F:=
 h.keep (hk.2 _ h.lt.1 hx) (hk.2 _ h.lt.2.1 hr) (hk.2 _ h.max_lt h1) (hk.2 _ h.kY h2)
theorem SB.push(h:SB E w p F){sd}(hx:E.x≠E.r)(hg:2≠E.r/\1≠E.r)(v):SB E (ay w E.r (.chan E.cap (F.push v) false sd E.rc E.tm)) p (F.push v):=by
 have hne:∀b,b≠E.r->(ay w E.r (.chan E.cap (F.push v) false sd E.rc E.tm)).heap[b]?=w.heap[b]?:=λb hb=>by
  show(w.heap.setIfInBounds E.r _)[b]?=_;rw[Array.getElem?_setIfInBounds_ne (Sz hb)]
 obtain⟨s0,hc⟩:=h.chan;exact⟨(hne _ hx).trans h.blk,⟨sd,rq hc⟩,by rw[iq (hne _ hg.1)];exact h.max,by have:=h.cls;simp_all[nC]⟩
theorem SB.tL(h:SB E w p F):2≠E.r/\1≠E.r:=by
 obtain⟨sd,hc⟩:=h.chan;refine⟨λe=> ?_,λe=> ?_⟩
 .have:=h.max;simp_all[Sy]
 .obtain⟨t,fr,h1⟩:=h.cls<;>grind
end
theorem PB.send{ρ o x y}(r v)(h:o.op= .send x y)(hx:ρ x= .chan (some r))(hy:ρ y=v)(u):
 (SP ρ o).run PB u= .ok (.comm #[{chan:=.chan (some r),send:=some v,zero:=.tuple #[]}] true .send) u:=by
 simp_all[SP]
theorem Av{E w p F}(S at_)(h:SB E w p F)(hF:F.size<E.cap):
 cb (aH T) 136 #[.pointer (some ⟨E.x,0,none⟩),kL S,.int .i64 at_] w λe w'=>e= .returned (.tuple #[])/\SB E w' p (F.push (Tok.val 0 (iI at_ S)))/\Kp w.heap.size [E.r] w w':=by
 refine bu trivial (λw' h=>nomatch h.1) (PB.func Tryz.func136 (by decide)) rfl ?_;simp only[Tryz.ntmps136,SD,SH,SF,SR,SQ,No,Sv,SI,SE,SL,SK];unfold kL;refine ac λK hK=> ?_
 refine ag λw1 he=> ?_
 have H1:=up (h.af he);have hK1:=up ((Kp.refl (B:=w.heap.size) (X:=[E.r]) w).af he);have hz:=congrArg T0 he;clear he h;go_wp2;refine hK.out _ _ ?_;clear hK K;have H2:=up (H1.out.keep (w':=w1.alloc (.cells #[.int .u64 (wz S 0),.int .u64 (wz S 1),.int .u64 (wz S 2),.int .u64 (wz S 3)] 101)) (Below.heap_alloc _ _ _ H1.out.lt.1) (Below.heap_alloc _ _ _ H1.out.lt.2.1) (Below.heap_alloc _ _ _ H1.out.max_lt) (Below.heap_alloc _ _ _ H1.out.kY));have hK2:=up (hK1.out.alloc (By _) (.cells #[.int .u64 (wz S 0),.int .u64 (wz S 1),.int .u64 (wz S 2),.int .u64 (wz S 3)] 101));have hD:=up (a7.new w1 101 #[.int .u64 (wz S 0),.int .u64 (wz S 1),.int .u64 (wz S 2),.int .u64 (wz S 3)]);rw[hz]at hD;clear H1 hK1;generalize w1.alloc _=w2 at *;clear hz;refine li 7 (by kernel_rfl) (by kernel_rfl) λK hK w3 h1=> ?_
 simp only[Tc,Tr];have hB3:=H2.out.blk.af h1;have h0:=hD.out.af h1;have c3:w3.cell? ⟨E.x,3,none⟩=some (.chan (some E.r)):=hB3.cell 3;have d0:w3.cell? ⟨w.heap.size,0,none⟩=some _:=h0.cell 0;have d1:w3.cell? ⟨w.heap.size,1,none⟩=some _:=h0.cell 1;have d2:w3.cell? ⟨w.heap.size,2,none⟩=some _:=h0.cell 2;have d3:w3.cell? ⟨w.heap.size,3,none⟩=some _:=h0.cell 3;clear hB3 h0 h1;repeat still_step
 refine wpStill_nil (hK.out _ ?_);clear hK K c3 d0 d1 d2 d3;obtain⟨sd,hch⟩:=H2.out.chan;have h2:=H2.out.lt.2.2;refine mh (rest:=[]) rfl rfl (PB.send E.r _ rfl rfl rfl) hch hF ?_;refine az ?_;simp only[SC];refine bodyPost_end (results_none rfl _ _ _) rfl ⟨rfl,H2.out.push h2 H2.out.tL _,hK2.out.ay (λ_=>AI.2 rfl) _⟩
def Sent(E:eK)(F:Array BY)(w w':AS)(X:List Nat)(y:mP):Prop:=∃e,SB E w' y.p (F.push (Tok.val e y.t))/\(∀q,y.wr=some q->a7 w' e 137 #[.int .i64 q.2,.int .i64 q.1]/\w.heap.size<=e)/\Kp w.heap.size X w w'
theorem Sent.af{E F w w' w2 X y}(h:Sent E F w w' X y)(he:w2.heap=w'.heap):Sent E F w w2 X y:=by
 obtain⟨e,h1,h2,h3⟩:=h;exact⟨e,h1.af he,λq hq=>⟨(h2 q hq).1.af he,(h2 q hq).2⟩,h3.af he⟩
theorem nF{E w p F}(k at_)(h:SB E w p F)(hF:F.size<E.cap):
 cb (aH T) 138 #[.pointer (some ⟨E.x,0,none⟩),.int .i64 k,.int .i64 at_] w λe w'=>e= .returned (.bool false)/\Sent E F w w' [E.r] (ez k at_ p):=by
 refine bu trivial (λw' h=>nomatch h.1) (PB.func Tryz.func138 (by decide)) rfl ?_;simp only[Tryz.ntmps138,SD,SH,SF,SR,SQ,No,Sv,SI,SE,SL,SK];refine ac λK hK=> ?_
 refine ag λw0 he=> ?_
 have H1:=up (h.af he);have hK1:=up ((Kp.refl (B:=w.heap.size) (X:=[E.r]) w).af he);have hz:=congrArg T0 he;clear he h;go_wp2;refine hK.out _ _ ?_;clear hK K;refine ac λK hK=> ?_
 refine ao ?_;show aV _ _ _ (AT 0 (10+1)) _ _;refine aW 0 10 1 (λN hN w1 he=> ?_) (by decide);simp only[zq1];have H2:=up (H1.out.af he);have hK2:=up (hK1.out.af he);have h0:=(congrArg T0 he).trans hz;have c3:w1.cell? ⟨E.x,3,none⟩=some (.chan (some E.r)):=H2.out.blk.cell 3;clear he H1 hK1;go_wp2;refine hN.out _ _ ?_;clear hN N c3;have H3:=up (H2.out.keep (w':=w1.alloc (.cells #[.int .i64 at_,.int .i64 k] 137)) (Below.heap_alloc _ _ _ H2.out.lt.1) (Below.heap_alloc _ _ _ H2.out.lt.2.1) (Below.heap_alloc _ _ _ H2.out.max_lt) (Below.heap_alloc _ _ _ H2.out.kY));have hK3:=up (hK2.out.alloc (By _) (.cells #[.int .i64 at_,.int .i64 k] 137));have hD:=up (a7.new w1 137 #[.int .i64 at_,.int .i64 k]);obtain⟨sd,hch⟩:=H3.out.chan;have h1:=H3.out.lt.2.2;refine mh (rest:=[]) rfl rfl (PB.send E.r _ rfl rfl rfl) hch hF ?_;refine az ?_;simp only[SC];refine hK.out _ _ ?_;clear hK K;rw[h0]at hD;have hS:Sent E F w (ay (w1.alloc (.cells #[.int .i64 at_,.int .i64 k] 137)) E.r (.chan E.cap (F.push (Tok.val w.heap.size (Fy at_))) false (sd+1) E.rc E.tm)) [E.r] (ez k at_ p):=by
  refine⟨w.heap.size,H3.out.push h1 H3.out.tL _,λq hq=> ?_,hK3.out.ay (λ_=>AI.2 rfl) _⟩;cases hq;exact⟨hD.out.ay λe=>by have:=H2.out.lt.2.1;rw[h0]at this;omega _,By _⟩
 have hS:=up hS;clear H2 hK2 h0 H3 hK3 hD hch h1;show cL _ _ _ _ (ay (w1.alloc (.cells #[.int .i64 at_,.int .i64 k] 137)) E.r (.chan E.cap (F.push (Tok.val w.heap.size (Fy at_))) false (sd+1) E.rc E.tm));generalize ay (w1.alloc (.cells #[.int .i64 at_,.int .i64 k] 137)) E.r (.chan E.cap (F.push (Tok.val w.heap.size (Fy at_))) false (sd+1) E.rc E.tm)=w4 at *;refine ag λw5 h2=> ?_
 have hS5:=up (hS.out.af h2);clear h2;go_wp2;go_ret;exact⟨rfl,hS5.out⟩
def FW(v0 v7:BY)(a:Act):Prop:=a.defers=[]/\a.tmps.size=46/\a.tmps.getD 0 undef=v0/\a.tmps.getD 7 undef=v7
theorem FW.out{v0 v7 a}(h:FW v0 v7 a):∃u:Nat->BY,a= {tmps:=(v0::u 1::u 2::u 3::u 4::u 5::u 6::v7::u 8::u 9::u 10::u 11::u 12::u 13::u 14::u 15::u 16::u 17::u 18::u 19::u 20::u 21::u 22::u 23::u 24::u 25::u 26::u 27::u 28::u 29::u 30::u 31::u 32::u 33::u 34::u 35::u 36::u 37::u 38::u 39::u 40::u 41::u 42::u 43::u 44::u 45::[]).toArray,defers:=[]}:=by
 obtain⟨hd,hn,rfl,rfl⟩:=h;obtain⟨ts,ds⟩:=a;subst hd;exact⟨λi=>ts.getD i undef,congrArg (λt=>({tmps:=t,defers:=[]}:Act)) (dp 46 ts hn)⟩
theorem SB.xc{E w p F}(h:SB E w p F):E.x≠2/\E.x≠1:=by
 refine⟨λe=> ?_,λe=> ?_⟩
 .have h2:=h.blk;rw[e]at h2;have:=h2.cell 0;rw[h.max]at this;cases this
 .obtain⟨t,fr,h1⟩:=h.cls;have h2:=h.blk;simp only[e,a7,h1]at h2;cases congrArg (λo=>match o with |some (Obj.cells c _ _)=>c.size|_=>0) h2
def PV(E:eK)(F:Array BY)(w:AS)(y:mP)(a:Act)(w':AS):Prop:=
 FW (.pointer (some ⟨E.x,0,none⟩)) (.pointer (some ⟨w.heap.size,0,none⟩)) a/\∃e,SB E w' y.p F/\a7 w' w.heap.size 195 #[.int .i64 y.t.kind,.int .i64 y.t.at_,.int .u64 y.t.b0,.int .u64 y.t.b1,.int .u64 y.t.b2,.int .u64 y.t.b3,.int .i64 y.t.least,.int .i64 y.t.most,.pointer (gH e y.t.bad)]/\
  (∀q,y.wr=some q->a7 w' e 137 #[.int .i64 q.2,.int .i64 q.1]/\w.heap.size<=e/\e<w'.heap.size)/\Kp w.heap.size [E.x] w w'
theorem OJ{E w}{p:Nat}{F}(c:Nat)(at_)(hc:c=42\/c=43\/c=63\/c=123)(hp:p=at_+1)(hs:E.s.size<=1000)(hl:p<=E.s.size)(h:SB E w p F)(hF:F.size<E.cap):
 cb (aH T) 133 #[.pointer (some ⟨E.x,0,none⟩),.int .u8 c,.int .i64 at_] w λe w'=>e= .returned (.bool (dS c at_ (E.l.drop p)).more)/\Sent E F w w' [E.x,E.r] (dS c at_ (E.l.drop p)):=by
 refine bu trivial (λw' h=>nomatch h.1) (PB.func Tryz.func133 (by decide)) rfl ?_;simp only[Tryz.ntmps133,SD,SH,SF,SR,SQ,No,Sv,SI,SE,SL,SK];refine ac λK hK=> ?_
 refine ag λw0 he=> ?_
 have H1:=up (h.af he);have hK1:=up ((Kp.refl (B:=w.heap.size) (X:=[E.x]) w).af he);have hz:=congrArg T0 he;clear he h;go_wp2;refine hK.out _ _ ?_;clear hK K;refine ac λK hK=> ?_
 refine ag λw1 he=> ?_
 have H2:=up (H1.out.af he);have hK2:=up (hK1.out.af he);have h6:=(congrArg T0 he).trans hz;clear he H1 hK1 hz;go_wp2;refine hK.out _ _ ?_;clear hK K;have H3:=up (H2.out.keep (w':=w1.alloc (.cells #[.int .i64 7,.int .i64 at_,.int .u64 0,.int .u64 0,.int .u64 0,.int .u64 0,.int .i64 0,.int .i64 (-1),.pointer none] 195)) (Below.heap_alloc _ _ _ H2.out.lt.1) (Below.heap_alloc _ _ _ H2.out.lt.2.1) (Below.heap_alloc _ _ _ H2.out.max_lt) (Below.heap_alloc _ _ _ H2.out.kY));have hK3:=up (hK2.out.alloc (By _) (.cells #[.int .i64 7,.int .i64 at_,.int .u64 0,.int .u64 0,.int .u64 0,.int .u64 0,.int .i64 0,.int .i64 (-1),.pointer none] 195));have h7:=a7.new w1 195 #[.int .i64 7,.int .i64 at_,.int .u64 0,.int .u64 0,.int .u64 0,.int .u64 0,.int .i64 0,.int .i64 (-1),.pointer none];rw[h6]at h7;replace h7:=up h7;have hlx:=up (h6▸H2.out.lt.1);have hlr:=up (h6▸H2.out.lt.2.1);have hmx:=up (h6▸H2.out.max_lt);have hcx:=up (h6▸H2.out.kY);have hi:=up H2.out.xc.1;have hj:=up H2.out.xc.2;clear H2 hK2 h6;generalize w1.alloc (.cells #[.int .i64 7,.int .i64 at_,.int .u64 0,.int .u64 0,.int .u64 0,.int .u64 0,.int .i64 0,.int .i64 (-1),.pointer none] 195)=w2 at *;clear w0 w1;refine bQ (PV E F w (dS c at_ (E.l.drop p))) ?_ ?_
 .refine ag λw3 he=> ?_
  have H4:=up (H3.out.af he);have hK4:=up (hK3.out.af he);have h0:=up (h7.out.af he);clear H3 hK3 h7 he;have fD:∀i,w3.frozen? ⟨w.heap.size,i,none⟩=false:=h0.out.frozen;have d6:w3.cell? ⟨w.heap.size,6,none⟩=some _:=h0.out.cell 6;have d7:w3.cell? ⟨w.heap.size,7,none⟩=some _:=h0.out.cell 7;have hfar:∀i(v:BY) u,∀b,b<w.heap.size->(Tg u ⟨w.heap.size,i,none⟩ v).heap[b]?=u.heap[b]?:=λi v u b hb=>Below.heap_setCell u _ v b λe=>by dsimp only at e;omega
  have hset:∀i(v:BY),SB E (w3.setCell ⟨w.heap.size,i,none⟩ v) p F/\Kp w.heap.size [E.x] w (w3.setCell ⟨w.heap.size,i,none⟩ v):=λi v=>⟨H4.out.keep (hfar i v w3 _ hlx.out) (hfar i v w3 _ hlr.out) (hfar i v w3 _ hmx.out) (hfar i v w3 _ hcx.out),hK4.out.setCell (λh=>absurd h (T1 _)) v⟩
  replace hset:=up hset;replace hfar:=up hfar;rcases hc with rfl|rfl|rfl|rfl
  .go_wp2;refine⟨?_,0,hp▸H4.out,h0.out,λq hq=>(by cases hq),hK4.out⟩;exact⟨rfl,rfl,rfl,rfl⟩
  .go_wp2;refine⟨?_,0,show SB E _ (at_+1) F from hp▸(hset.out _ _).1,h0.out.bI 6 (.int .i64 1),λq hq=>(by cases hq),(hset.out _ _).2⟩;exact⟨rfl,rfl,rfl,rfl⟩
  .go_wp2;refine⟨?_,0,show SB E _ (at_+1) F from hp▸(hset.out _ _).1,h0.out.bI 7 (.int .i64 1),λq hq=>(by cases hq),(hset.out _ _).2⟩;exact⟨rfl,rfl,rfl,rfl⟩
  .have ha:=up λu(hu:u.heap=w3.heap)=>FM E.x E.r E.s p E.fl E.fold u E.m hs hl (by unfold Sy;rw[hu];exact H4.out.max) (H4.out.blk.af hu)
   have hy:dS 123 at_ (E.l.drop p)=⟨od at_ (dU (E.l.drop p)).1 (dU (E.l.drop p)).2.1 !(dU (E.l.drop p)).2.2.1,if(dU (E.l.drop p)).2.2.1 then none else some (7,(at_:Int)),(dU (E.l.drop p)).2.2.1,p+(dU (E.l.drop p)).2.2.2⟩:=by
    rw[hp];rfl
   rw[hy];unfold eK.l at *;generalize dU (E.s.data.toList.drop p)=bd at *;obtain⟨b1,b2,ok,nb⟩:=bd;dsimp only at ha ⊢;have hf:=up (λw4(h5:a7 w4 E.x 243 (iR E.s (p+nb) E.fl E.r E.fold))(h4:Kp w3.heap.size [E.x] w3 w4)=>(show SB E w4 (p+nb) F/\Kp w.heap.size [E.x] w w4/\a7 w4 w.heap.size 195 _/\w.heap.size<w4.heap.size from by
    have hg:=H4.out.lt.2.2;obtain⟨sd,hch⟩:=H4.out.chan;have hd:=h0.out.lt;have k1:=h4.2 _ H4.out.lt.2.1 (by simpa using Sz hg);have k2:=h4.2 _ H4.out.max_lt (by simpa usingλe=>hi.out e.symm);have k3:=h4.2 _ H4.out.kY (by simpa usingλe=>hj.out e.symm);have k4:=h4.2 _ hd (by have:=hlx.out;simp;omega);have hcl:=H4.out.cls;exact⟨⟨h5,⟨sd,k1.trans hch⟩,by rw[iq k2];exact H4.out.max,by unfold nC at *;rw[k3];exact hcl⟩,hK4.out.trans (h4.mono (Tu hd) λy hy _=>hy),k4.trans h0.out,Tf hd h4.1⟩))
   clear hy d6 d7 fD;cases ok with
   |true=>
    go_wp2_with (first |(go_at_call 158;refine(ha.out w3 rfl).mono ?_;rintro e w4 ⟨rfl,h5,h4⟩;obtain⟨H5,K5,D5,L5⟩:=hf.out w4 h5 h4;have d6:w4.cell? ⟨w.heap.size,6,none⟩=some _:=D5.cell 6;have d7:w4.cell? ⟨w.heap.size,7,none⟩=some _:=D5.cell 7;have fD:∀i,w4.frozen? ⟨w.heap.size,i,none⟩=false:=D5.frozen;replace H5:=up H5;replace K5:=up K5;replace D5:=up D5;clear h5 h4)|fail)
    have hP:=SB.keep (w':=(w4.setCell ⟨w.heap.size,6,none⟩ (.int .i64 b1)).setCell ⟨w.heap.size,7,none⟩ (.int .i64 b2)) H5.out ((hfar.out _ _ _ _ hlx.out).trans (hfar.out _ _ _ _ hlx.out)) ((hfar.out _ _ _ _ hlr.out).trans (hfar.out _ _ _ _ hlr.out)) ((hfar.out _ _ _ _ hmx.out).trans (hfar.out _ _ _ _ hmx.out)) ((hfar.out _ _ _ _ hcx.out).trans (hfar.out _ _ _ _ hcx.out));refine⟨?_,0,hP,(D5.out.bI 6 (.int .i64 b1)).bI 7 (.int .i64 b2),λq hq=>(by cases hq),(K5.out.setCell (λh=>absurd h (T1 _)) _).setCell (λh=>absurd h (T1 _)) _⟩;exact⟨rfl,rfl,rfl,rfl⟩
   |false=>
    go_wp2_with (first |(go_at_call 158;refine(ha.out w3 rfl).mono ?_;rintro e w4 ⟨rfl,h5,h4⟩;obtain⟨H5,K5,D5,L5⟩:=hf.out w4 h5 h4;have d6:w4.cell? ⟨w.heap.size,6,none⟩=some _:=D5.cell 6;have d7:w4.cell? ⟨w.heap.size,7,none⟩=some _:=D5.cell 7;have d8:w4.cell? ⟨w.heap.size,8,none⟩=some _:=D5.cell 8;have fD:∀i,w4.frozen? ⟨w.heap.size,i,none⟩=false:=D5.frozen;replace H5:=up H5;replace K5:=up K5;replace D5:=up D5;clear h5 h4)|fail)
    generalize hW:((w4.setCell ⟨w.heap.size,8,none⟩ (.pointer (some ⟨w4.heap.size,0,none⟩))).setCell ⟨w.heap.size,6,none⟩ (.int .i64 b1)).setCell ⟨w.heap.size,7,none⟩ (.int .i64 b2)=W;have hWs:W.heap.size=w4.heap.size:=by rw[<- hW,SG,SG,SG]
    have hWb:∀b,b<w.heap.size->W.heap[b]?=w4.heap[b]?:=λb hb=>by rw[<- hW,hfar.out _ _ _ b hb,hfar.out _ _ _ b hb,hfar.out _ _ _ b hb]
    have hWD:a7 W w.heap.size 195 _:=hW▸((D5.out.bI 8 (.pointer (some ⟨w4.heap.size,0,none⟩))).bI 6 (.int .i64 b1)).bI 7 (.int .i64 b2);have hWK:Kp w.heap.size [E.x] w W:=hW▸((K5.out.setCell (λh=>absurd h (T1 _)) _).setCell (λh=>absurd h (T1 _)) _).setCell (λh=>absurd h (T1 _)) _;have hA:∀b,b<w.heap.size->(W.alloc (.cells #[.int .i64 at_,.int .i64 7] 137)).heap[b]?=w4.heap[b]?:=λb hb=>(Below.heap_alloc _ _ _ (by omega)).trans (hWb b hb)
    refine⟨?_,w4.heap.size,show SB E _ (at_+1+nb) F from hp▸H5.out.keep (hA _ hlx.out) (hA _ hlr.out) (hA _ hmx.out) (hA _ hcx.out),hWD.alloc _,λq hq=> ?_,hWK.alloc (By _) _⟩
    .exact⟨rfl,rfl,rfl,rfl⟩
    .cases hq;refine⟨?_,Tu L5,by simp[hWs]⟩;rw[<- hWs];exact a7.new _ _ _
 .intro a w3 ⟨hm,e,H5,D5,h8,K5⟩;obtain⟨u,rfl⟩:=hm.out;have hn:∃k0 a0,(dS c at_ (E.l.drop p)).t.kind=k0/\(dS c at_ (E.l.drop p)).t.at_=a0:=⟨_,_,rfl,rfl⟩;have h9:(dS c at_ (E.l.drop p)).more= !(dS c at_ (E.l.drop p)).t.bad:=by
   unfold dS;repeat(first |split |rfl)
   dsimp only[od];cases(dU (E.l.drop p)).2.2.1<;>rfl
  generalize dS c at_ (E.l.drop p)=y at *;obtain⟨⟨k,ta,b0,b1,b2,b3,le,mo,bad⟩,wr,more,yp⟩:=y;dsimp only at H5 D5 h8 h9 ⊢;replace H5:=up H5;replace D5:=up D5;replace h8:=up h8;replace K5:=up K5;clear H3 hK3 h7 hn hlx hmx hcx hi hj;refine ac λM hM=> ?_
  refine li 5 (by kernel_rfl) (by kernel_rfl) λK hK w4 he4=> ?_
  simp only[Tc,Tr];have hk:=H5.out.blk.af he4;have h0:=D5.out.af he4;have c3:w4.cell? ⟨E.x,3,none⟩=some (.chan (some E.r)):=hk.cell 3;have d0:w4.cell? ⟨w.heap.size,0,none⟩=some _:=h0.cell 0;have d1:w4.cell? ⟨w.heap.size,1,none⟩=some _:=h0.cell 1;have d2:w4.cell? ⟨w.heap.size,2,none⟩=some _:=h0.cell 2;have d3:w4.cell? ⟨w.heap.size,3,none⟩=some _:=h0.cell 3;have d4:w4.cell? ⟨w.heap.size,4,none⟩=some _:=h0.cell 4;have d5:w4.cell? ⟨w.heap.size,5,none⟩=some _:=h0.cell 5;have d6:w4.cell? ⟨w.heap.size,6,none⟩=some _:=h0.cell 6;have d7:w4.cell? ⟨w.heap.size,7,none⟩=some _:=h0.cell 7;have d8:w4.cell? ⟨w.heap.size,8,none⟩=some _:=h0.cell 8;clear hk h0 he4;repeat still_step
  refine wpStill_nil (hK.out _ ?_);clear hK K c3 d0 d1 d2 d3 d4 d5 d6 d7 d8;obtain⟨sd,hch⟩:=H5.out.chan;have hg:=H5.out.lt.2.2;have hdr:w.heap.size≠E.r:=λe=>by have:=hlr.out;omega
  have hFv:Tok.val e ⟨k,ta,b0,b1,b2,b3,le,mo,bad⟩= .agg #[.int .i64 k,.int .i64 ta,.int .u64 b0,.int .u64 b1,.int .u64 b2,.int .u64 b3,.int .i64 le,.int .i64 mo,.pointer (gH e bad)]:=rfl;refine mh (rest:=[]) (v:=Tok.val e ⟨k,ta,b0,b1,b2,b3,le,mo,bad⟩) rfl rfl (PB.send E.r _ rfl rfl ?_) hch hF ?_
  .rfl
  refine az ?_;simp only[SC];refine hM.out _ _ ?_;clear hM M;have hS:Sent E F w (ay w3 E.r (.chan E.cap (F.push (Tok.val e ⟨k,ta,b0,b1,b2,b3,le,mo,bad⟩)) false (sd+1) E.rc E.tm)) [E.x,E.r] ⟨⟨k,ta,b0,b1,b2,b3,le,mo,bad⟩,wr,more,yp⟩:=by
   refine⟨e,H5.out.push hg H5.out.tL _,λq hq=> ?_,(K5.out.mono (By _) λy hy _=>by rw[AI.1 hy];exact SO).ay λ_=>by simp _⟩;obtain⟨h1,h2,h3⟩:=h8.out q hq;exact⟨h1.ay λe'=>by have:=hlr.out;omega _,h2⟩
  have hD:=up (D5.out.ay hdr (.chan E.cap (F.push (Tok.val e ⟨k,ta,b0,b1,b2,b3,le,mo,bad⟩)) false (sd+1) E.rc E.tm));replace hS:=up hS;clear H5 D5 h8 K5 hch;show cL _ _ _ _ (ay w3 E.r (.chan E.cap (F.push (Tok.val e ⟨k,ta,b0,b1,b2,b3,le,mo,bad⟩)) false (sd+1) E.rc E.tm));generalize ay w3 E.r (.chan E.cap (F.push (Tok.val e ⟨k,ta,b0,b1,b2,b3,le,mo,bad⟩)) false (sd+1) E.rc E.tm)=w4 at *;refine ag λw5 hh=> ?_
  have hS5:=up (hS.out.af hh);have d8:w5.cell? ⟨w.heap.size,8,none⟩=some (.pointer (gH e bad)):=(hD.out.af hh).cell 8;clear hh hS hD;subst h9;cases bad with
  |true=>
   replace d8:w5.cell? ⟨w.heap.size,8,none⟩=some (.pointer (some ⟨e,0,none⟩)):=d8;go_wp2;go_ret;exact⟨rfl,hS5.out⟩
  |false=>
   replace d8:w5.cell? ⟨w.heap.size,8,none⟩=some (.pointer none):=d8;go_wp2;go_ret;exact⟨rfl,hS5.out⟩
def xg(v0 v1 v5 v6 v7:BY)(a:Act):Prop:=a.defers=[]/\a.tmps.size=153/\a.tmps.getD 0 undef=v0/\a.tmps.getD 1 undef=v1/\a.tmps.getD 5 undef=v5/\a.tmps.getD 6 undef=v6/\a.tmps.getD 7 undef=v7
theorem xg.out{v0 v1 v5 v6 v7 a}(h:xg v0 v1 v5 v6 v7 a):∃u:Nat->BY,a= {tmps:=(v0::v1::u 2::u 3::u 4::v5::v6::v7::u 8::u 9::u 10::u 11::u 12::u 13::u 14::u 15::u 16::u 17::u 18::u 19::u 20::u 21::u 22::u 23::u 24::u 25::u 26::u 27::u 28::u 29::u 30::u 31::u 32::u 33::u 34::u 35::u 36::u 37::u 38::u 39::u 40::u 41::u 42::u 43::u 44::u 45::u 46::u 47::u 48::u 49::u 50::u 51::u 52::u 53::u 54::u 55::u 56::u 57::u 58::u 59::u 60::u 61::u 62::u 63::u 64::u 65::u 66::u 67::u 68::u 69::u 70::u 71::u 72::u 73::u 74::u 75::u 76::u 77::u 78::u 79::u 80::u 81::u 82::u 83::u 84::u 85::u 86::u 87::u 88::u 89::u 90::u 91::u 92::u 93::u 94::u 95::u 96::u 97::u 98::u 99::u 100::u 101::u 102::u 103::u 104::u 105::u 106::u 107::u 108::u 109::u 110::u 111::u 112::u 113::u 114::u 115::u 116::u 117::u 118::u 119::u 120::u 121::u 122::u 123::u 124::u 125::u 126::u 127::u 128::u 129::u 130::u 131::u 132::u 133::u 134::u 135::u 136::u 137::u 138::u 139::u 140::u 141::u 142::u 143::u 144::u 145::u 146::u 147::u 148::u 149::u 150::u 151::u 152::[]).toArray,defers:=[]}:=by
 obtain⟨hd,hn,rfl,rfl,rfl,rfl,rfl⟩:=h;obtain⟨ts,ds⟩:=a;subst hd;exact⟨λi=>ts.getD i undef,congrArg (λt=>({tmps:=t,defers:=[]}:Act)) (dp 153 ts hn)⟩
structure C1(E:eK)(F:Array BY)(B b:Nat)(w0:AS)(at_:Nat)(nt:Bool)(y:mP)(f:Nat)(w:AS)(p:Nat)(first:Bool)(S:cS):Prop where
 sb:SB E w p F
 blk:a7 w b 101 (words S)
 kp:Kp B [E.x] w0 w
 lt:B<=b
 ple:p<=E.s.size
 eq:jk E.ln E.fold E.l nt at_ f first S p=some y
def Od(E:eK)(F:Array BY)(B b:Nat)(w0:AS)(at_:Nat)(nt:Bool)(y:mP)(f:Nat)(a:Act)(w:AS):Prop:=
 ∃p first S,xg (.pointer (some ⟨E.x,0,none⟩)) (.int .i64 at_) (.pointer (some ⟨b,0,none⟩)) (.bool nt) (.bool first) a/\C1 E F B b w0 at_ nt y f w p first S
theorem Sent.from{E F w w1 w' y}(h:Sent E F w1 w' [E.r] y)(hk:Kp w.heap.size [E.x] w w1):Sent E F w w' [E.x,E.r] y:=by
 obtain⟨e,h1,h2,h3⟩:=h;have hle:=hk.1;exact⟨e,h1,λq hq=>⟨(h2 q hq).1,SW hle (h2 q hq).2⟩,(hk.mono (By _) λx hx _=>by simp[AI.1 hx]).trans (h3.mono hle λx hx _=>by simp[AI.1 hx])⟩
def rC(E:eK)(F:Array BY)(w:AS)(y:mP)(e:Ending)(w':AS):Prop:=e= .returned (.bool y.more)/\Sent E F w w' [E.x,E.r] y
theorem C1.af{E F B b w0 at_ nt y f w w' p first S}(h:C1 E F B b w0 at_ nt y f w p first S)(he:w'.heap=w.heap):C1 E F B b w0 at_ nt y f w' p first S:=
 ⟨h.sb.af he,h.blk.af he,h.kp.af he,h.lt,h.ple,h.eq⟩
theorem SB.move{E w}{p q:Nat}{F}(h:SB E w p F):SB E (w.setCell ⟨E.x,1,none⟩ (.int .i64 (q:Int))) q F:=by
 have hb:=h.xc;have hk:∀b,b≠E.x->(w.setCell ⟨E.x,1,none⟩ (.int .i64 q)).heap[b]?=w.heap[b]?:=λb hb=>Below.heap_setCell w _ _ b hb
 obtain⟨sd,hch⟩:=h.chan;have hcl:=h.cls;exact⟨xK h.blk,⟨sd,(hk _ (Sz h.lt.2.2)).trans hch⟩,by rw[iq (hk _ (Sz hb.1))];exact h.max,by simp_all[Sz,nC]⟩
def Oc(E:eK)(F:Array BY)(w:AS)(at_:Nat)(nt:Bool)(v7:BY)(pp:Nat)(a:Act)(w':AS):Prop:=
 xg (.pointer (some ⟨E.x,0,none⟩)) (.int .i64 at_) (.pointer (some ⟨w.heap.size,0,none⟩)) (.bool nt) v7 a/\SB E w' pp F/\a7 w' w.heap.size 101 (words co)/\Kp w.heap.size [E.x] w w'
def l7(v0 v1 v5 v6 v7 v8:BY)(a:Act):Prop:=a.defers=[]/\a.tmps.size=153/\a.tmps.getD 0 undef=v0/\a.tmps.getD 1 undef=v1/\a.tmps.getD 5 undef=v5/\a.tmps.getD 6 undef=v6/\a.tmps.getD 7 undef=v7/\a.tmps.getD 8 undef=v8
theorem l7.out{v0 v1 v5 v6 v7 v8 a}(h:l7 v0 v1 v5 v6 v7 v8 a):∃u:Nat->BY,a= {tmps:=(v0::v1::u 2::u 3::u 4::v5::v6::v7::v8::u 9::u 10::u 11::u 12::u 13::u 14::u 15::u 16::u 17::u 18::u 19::u 20::u 21::u 22::u 23::u 24::u 25::u 26::u 27::u 28::u 29::u 30::u 31::u 32::u 33::u 34::u 35::u 36::u 37::u 38::u 39::u 40::u 41::u 42::u 43::u 44::u 45::u 46::u 47::u 48::u 49::u 50::u 51::u 52::u 53::u 54::u 55::u 56::u 57::u 58::u 59::u 60::u 61::u 62::u 63::u 64::u 65::u 66::u 67::u 68::u 69::u 70::u 71::u 72::u 73::u 74::u 75::u 76::u 77::u 78::u 79::u 80::u 81::u 82::u 83::u 84::u 85::u 86::u 87::u 88::u 89::u 90::u 91::u 92::u 93::u 94::u 95::u 96::u 97::u 98::u 99::u 100::u 101::u 102::u 103::u 104::u 105::u 106::u 107::u 108::u 109::u 110::u 111::u 112::u 113::u 114::u 115::u 116::u 117::u 118::u 119::u 120::u 121::u 122::u 123::u 124::u 125::u 126::u 127::u 128::u 129::u 130::u 131::u 132::u 133::u 134::u 135::u 136::u 137::u 138::u 139::u 140::u 141::u 142::u 143::u 144::u 145::u 146::u 147::u 148::u 149::u 150::u 151::u 152::[]).toArray,defers:=[]}:=by
 obtain⟨hd,hn,rfl,rfl,rfl,rfl,rfl,rfl⟩:=h;obtain⟨ts,ds⟩:=a;subst hd;exact⟨λi=>ts.getD i undef,congrArg (λt=>({tmps:=t,defers:=[]}:Act)) (dp 153 ts hn)⟩
def zD(v0 v1 v5 v6 v7 v8 v55:BY)(a:Act):Prop:=a.defers=[]/\a.tmps.size=153/\a.tmps.getD 0 undef=v0/\a.tmps.getD 1 undef=v1/\a.tmps.getD 5 undef=v5/\a.tmps.getD 6 undef=v6/\a.tmps.getD 7 undef=v7/\a.tmps.getD 8 undef=v8/\a.tmps.getD 55 undef=v55
theorem zD.out{v0 v1 v5 v6 v7 v8 v55 a}(h:zD v0 v1 v5 v6 v7 v8 v55 a):∃u:Nat->BY,a= {tmps:=(v0::v1::u 2::u 3::u 4::v5::v6::v7::v8::u 9::u 10::u 11::u 12::u 13::u 14::u 15::u 16::u 17::u 18::u 19::u 20::u 21::u 22::u 23::u 24::u 25::u 26::u 27::u 28::u 29::u 30::u 31::u 32::u 33::u 34::u 35::u 36::u 37::u 38::u 39::u 40::u 41::u 42::u 43::u 44::u 45::u 46::u 47::u 48::u 49::u 50::u 51::u 52::u 53::u 54::v55::u 56::u 57::u 58::u 59::u 60::u 61::u 62::u 63::u 64::u 65::u 66::u 67::u 68::u 69::u 70::u 71::u 72::u 73::u 74::u 75::u 76::u 77::u 78::u 79::u 80::u 81::u 82::u 83::u 84::u 85::u 86::u 87::u 88::u 89::u 90::u 91::u 92::u 93::u 94::u 95::u 96::u 97::u 98::u 99::u 100::u 101::u 102::u 103::u 104::u 105::u 106::u 107::u 108::u 109::u 110::u 111::u 112::u 113::u 114::u 115::u 116::u 117::u 118::u 119::u 120::u 121::u 122::u 123::u 124::u 125::u 126::u 127::u 128::u 129::u 130::u 131::u 132::u 133::u 134::u 135::u 136::u 137::u 138::u 139::u 140::u 141::u 142::u 143::u 144::u 145::u 146::u 147::u 148::u 149::u 150::u 151::u 152::[]).toArray,defers:=[]}:=by
 obtain⟨hd,hn,rfl,rfl,rfl,rfl,rfl,rfl,rfl⟩:=h;obtain⟨ts,ds⟩:=a;subst hd;exact⟨λi=>ts.getD i undef,congrArg (λt=>({tmps:=t,defers:=[]}:Act)) (dp 153 ts hn)⟩
def zC(v0 v1 v5 v6 v7 v8 v91:BY)(a:Act):Prop:=a.defers=[]/\a.tmps.size=153/\a.tmps.getD 0 undef=v0/\a.tmps.getD 1 undef=v1/\a.tmps.getD 5 undef=v5/\a.tmps.getD 6 undef=v6/\a.tmps.getD 7 undef=v7/\a.tmps.getD 8 undef=v8/\a.tmps.getD 91 undef=v91
theorem zC.out{v0 v1 v5 v6 v7 v8 v91 a}(h:zC v0 v1 v5 v6 v7 v8 v91 a):∃u:Nat->BY,a= {tmps:=(v0::v1::u 2::u 3::u 4::v5::v6::v7::v8::u 9::u 10::u 11::u 12::u 13::u 14::u 15::u 16::u 17::u 18::u 19::u 20::u 21::u 22::u 23::u 24::u 25::u 26::u 27::u 28::u 29::u 30::u 31::u 32::u 33::u 34::u 35::u 36::u 37::u 38::u 39::u 40::u 41::u 42::u 43::u 44::u 45::u 46::u 47::u 48::u 49::u 50::u 51::u 52::u 53::u 54::u 55::u 56::u 57::u 58::u 59::u 60::u 61::u 62::u 63::u 64::u 65::u 66::u 67::u 68::u 69::u 70::u 71::u 72::u 73::u 74::u 75::u 76::u 77::u 78::u 79::u 80::u 81::u 82::u 83::u 84::u 85::u 86::u 87::u 88::u 89::u 90::v91::u 92::u 93::u 94::u 95::u 96::u 97::u 98::u 99::u 100::u 101::u 102::u 103::u 104::u 105::u 106::u 107::u 108::u 109::u 110::u 111::u 112::u 113::u 114::u 115::u 116::u 117::u 118::u 119::u 120::u 121::u 122::u 123::u 124::u 125::u 126::u 127::u 128::u 129::u 130::u 131::u 132::u 133::u 134::u 135::u 136::u 137::u 138::u 139::u 140::u 141::u 142::u 143::u 144::u 145::u 146::u 147::u 148::u 149::u 150::u 151::u 152::[]).toArray,defers:=[]}:=by
 obtain⟨hd,hn,rfl,rfl,rfl,rfl,rfl,rfl,rfl⟩:=h;obtain⟨ts,ds⟩:=a;subst hd;exact⟨λi=>ts.getD i undef,congrArg (λt=>({tmps:=t,defers:=[]}:Act)) (dp 153 ts hn)⟩
def zA(v0 v1 v5 v6 v7 v8 v116:BY)(a:Act):Prop:=a.defers=[]/\a.tmps.size=153/\a.tmps.getD 0 undef=v0/\a.tmps.getD 1 undef=v1/\a.tmps.getD 5 undef=v5/\a.tmps.getD 6 undef=v6/\a.tmps.getD 7 undef=v7/\a.tmps.getD 8 undef=v8/\a.tmps.getD 116 undef=v116
theorem zA.out{v0 v1 v5 v6 v7 v8 v116 a}(h:zA v0 v1 v5 v6 v7 v8 v116 a):∃u:Nat->BY,a= {tmps:=(v0::v1::u 2::u 3::u 4::v5::v6::v7::v8::u 9::u 10::u 11::u 12::u 13::u 14::u 15::u 16::u 17::u 18::u 19::u 20::u 21::u 22::u 23::u 24::u 25::u 26::u 27::u 28::u 29::u 30::u 31::u 32::u 33::u 34::u 35::u 36::u 37::u 38::u 39::u 40::u 41::u 42::u 43::u 44::u 45::u 46::u 47::u 48::u 49::u 50::u 51::u 52::u 53::u 54::u 55::u 56::u 57::u 58::u 59::u 60::u 61::u 62::u 63::u 64::u 65::u 66::u 67::u 68::u 69::u 70::u 71::u 72::u 73::u 74::u 75::u 76::u 77::u 78::u 79::u 80::u 81::u 82::u 83::u 84::u 85::u 86::u 87::u 88::u 89::u 90::u 91::u 92::u 93::u 94::u 95::u 96::u 97::u 98::u 99::u 100::u 101::u 102::u 103::u 104::u 105::u 106::u 107::u 108::u 109::u 110::u 111::u 112::u 113::u 114::u 115::v116::u 117::u 118::u 119::u 120::u 121::u 122::u 123::u 124::u 125::u 126::u 127::u 128::u 129::u 130::u 131::u 132::u 133::u 134::u 135::u 136::u 137::u 138::u 139::u 140::u 141::u 142::u 143::u 144::u 145::u 146::u 147::u 148::u 149::u 150::u 151::u 152::[]).toArray,defers:=[]}:=by
 obtain⟨hd,hn,rfl,rfl,rfl,rfl,rfl,rfl,rfl⟩:=h;obtain⟨ts,ds⟩:=a;subst hd;exact⟨λi=>ts.getD i undef,congrArg (λt=>({tmps:=t,defers:=[]}:Act)) (dp 153 ts hn)⟩
def fV(k:Nat)(S:cS):cS:=λx=>if x<64*k then !S x else S x
theorem Kw(S):fV 0 S=S:=by rfl
theorem Cd(S i)(h:i<4):wz (fV 4 S) i=wz (comp S) i:=nL (by
 intro j hj;have:64*i+j<64*4:=by omega
 simp_all[fV,comp])
theorem zG(S i):bits .xor .u64 18446744073709551615 (wz (fV i S) i)=wz (fV (i+1) S) i:=by
 rw[LA];refine nL ?_;intro j hj;have h2:64*i+j<64*(i+1):=by omega
 simp_all[fV,comp]
theorem vw(S i j)(h:j≠i):wz (fV (i+1) S) j=wz (fV i S) j:=nL (by
 intro k hk;simp[fV];by_cases h1:64*j+k<64*i
 .rw[if_pos h1,if_pos (by omega)]
 grind)
theorem Ej(S):words (fV 4 S)=words (comp S):=by
 simp[Cd,words]
structure cH(E:eK)(F:Array BY)(b:Nat)(w0 w:AS)(p:Nat)(S:cS):Prop where
 sb:SB E w p F
 blk:a7 w b 101 (words S)
 kp:Kp w0.heap.size [E.x] w0 w
 le:w0.heap.size<=b
theorem cH.af{E F b w0 w w' p S}(h:cH E F b w0 w p S)(he:w'.heap=w.heap):cH E F b w0 w' p S:=⟨h.sb.af he,h.blk.af he,h.kp.af he,h.le⟩
theorem cH.ne{E F b w0 w p S}(h:cH E F b w0 w p S):b≠E.x/\b≠E.r/\b≠2/\b≠1:=by
 have h1:=h.blk;refine⟨λe=> ?_,λe=> ?_,λe=> ?_,λe=> ?_⟩
 .have h2:=h.sb.blk;simp_all[a7]
 .obtain⟨sd,h2⟩:=h.sb.chan;simp_all[a7]
 .rw[e]at h1;have:=h1.cell 0;rw[h.sb.max]at this;cases this
 .obtain⟨t,fr,h2⟩:=h.sb.cls;rw[e]at h1;rw[h1]at h2;cases congrArg (λo=>match o with |some (Obj.cells c _ _)=>c.size|_=>0) h2
theorem cH.move{E F b w0 w}{p q:Nat}{S}(h:cH E F b w0 w p S):cH E F b w0 (w.setCell ⟨E.x,1,none⟩ (.int .i64 (q:Int))) q S:=
 ⟨h.sb.move,h.blk.far h.ne.1 _,h.kp.setCell (λ_=>AI.2 rfl) _,h.le⟩
theorem cH.only {E F b w0 w w' p S S'}(h:cH E F b w0 w p S)(ho:Only b w w')(hb:a7 w' b 101 (words S')):cH E F b w0 w' p S':=by
 obtain⟨n1,n2,n3,n4⟩:=h.ne;refine⟨h.sb.keep (ho.2 _ (Sz n1)) (ho.2 _ (Sz n2)) (ho.2 _ (Sz n3)) (ho.2 _ (Sz n4)),hb,⟨by rw[ho.1];exact h.kp.1,λy hy hx=> ?_⟩,h.le⟩;have:=h.le;exact(ho.2 y (by omega)).trans (h.kp.2 y hy hx)
theorem cH.call{E F b w0 w w' p S}(h:cH E F b w0 w p S)(hk:Kp w.heap.size [] w w'):cH E F b w0 w' p S:=
 ⟨h.sb.kp hk (by simp) (by simp) (by simp) (by simp),h.blk.kp hk h.blk.lt (by simp),h.kp.trans (hk.mono h.kp.1 λy hy _=>by cases hy),h.le⟩
theorem GI
 {c1 c2 c3 c4 c5 c6 c7 c10 c11 c12 cA c24 cB c27 cC cD i i1 i2 o1 o2 o3 o4} (hc:(Tryz.f134).body=some (.seq c1 (.seq c2 (.seq c3 (.seq c4 (.seq c5 (.block i (.loop (.seq (.block i1 (.seq c7 (.block i2 (.seq c10 (.cond o1 c11 (.seq c12 (.cond o2 cA (.seq c24 (.cond o3 cB (.seq c27 (.cond o4 cC cD))))))))))) c6)))))))))
 {E F w} {at_:Nat} {nt a w7 p v7 v8 S b Q} (hs:E.s.size<=1000) (hp:p<E.s.size) (hF:F.size<E.cap) (hfl:E.fl<256)
 (h1:l7 (.pointer (some ⟨E.x,0,none⟩)) (.int .i64 at_) (.pointer (some ⟨b,0,none⟩)) (.bool nt) v7 v8 a) (hI:cH E F b w w7 p S)
 (hQ:∀a w',bodyPost PB Tryz.f134 (rC E F w ⟨iI at_ (uK E.ln E.fold nt S),none,true,p+1⟩) .ret a w'->Q .ret a w'):
 cL (aH T) cA Q a w7:=by
 cases hc;obtain⟨u,rfl⟩:=h1.out;refine ac λK hK=> ?_
 refine ag λw8 he=> ?_
 have I8:=up (hI.af he);have hw1:IntKind.i64.wrap ((p:Int)+1)=((p+1:Nat):Int):=by rw[IN];omega
 have c1:w8.cell? ⟨E.x,1,none⟩=some (.int .i64 p):=I8.out.sb.blk.cell 1;have f1:∀i,w8.frozen? ⟨E.x,i,none⟩=false:=I8.out.sb.blk.frozen;clear he hI;go_wp2;refine hK.out _ _ ?_;clear hK K c1 f1 hw1;replace I8:=I8.out.move (q:=p+1);generalize hW:Tg _ _ _=w9;replace I8:cH E F b w w9 (p+1) S:=hW▸I8;replace I8:=up I8;clear hW;clear w7 w8;obtain⟨S1,hS1⟩:∃S1,S1=if E.fold then pm S else S:=⟨_,rfl⟩
 replace hS1:=up hS1;refine ac λK hK=> ?_
 refine ag λwa he=> ?_
 replace I8:=up (I8.out.af he);have h0:∀u:AS,u.heap=wa.heap->Calls PB 140 #[.pointer (some ⟨E.x,0,none⟩),.agg #[.int .u64 (wz S 0),.int .u64 (wz S 1),.int .u64 (wz S 2),.int .u64 (wz S 3)]] u λe w'=>e= .returned (.agg #[.int .u64 (wz S1 0),.int .u64 (wz S1 1),.int .u64 (wz S1 2),.int .u64 (wz S1 3)])/\Kp u.heap.size [] u w':=λu hu=>by
  have:=wS E.x E.r E.s (p+1) E.fl E.fold S u (I8.out.sb.blk.af hu);rw[<- hS1.out]at this;exact this
 replace h0:=up h0;have b0:wa.cell? ⟨b,0,none⟩=some _:=I8.out.blk.cell 0;have b1:wa.cell? ⟨b,1,none⟩=some _:=I8.out.blk.cell 1;have b2:wa.cell? ⟨b,2,none⟩=some _:=I8.out.blk.cell 2;have b3:wa.cell? ⟨b,3,none⟩=some _:=I8.out.blk.cell 3;clear he;go_wp2_with (first |(go_at_call 140;refine(h0.out wa rfl).mono ?_;rintro e w' ⟨rfl,hk⟩;have Iw:=up (I8.out.call hk);have fD:∀i,w'.frozen? ⟨b,i,none⟩=false:=Iw.out.blk.frozen;have b0':w'.cell? ⟨b,0,none⟩=some _:=Iw.out.blk.cell 0;have b1':w'.cell? ⟨b,1,none⟩=some _:=Iw.out.blk.cell 1;have b2':w'.cell? ⟨b,2,none⟩=some _:=Iw.out.blk.cell 2;have b3':w'.cell? ⟨b,3,none⟩=some _:=Iw.out.blk.cell 3;clear hk)|fail)
 refine hK.out _ _ ?_;clear hK K h0 b0 b1 b2 b3 I8 fD b0' b1' b2' b3';have hO:=(((Only.set b w' 0 (.int .u64 (wz S1 0))).trans (.set b _ 1 (.int .u64 (wz S1 1)))).trans (.set b _ 2 (.int .u64 (wz S1 2)))).trans (.set b _ 3 (.int .u64 (wz S1 3)));have hB:=(((Iw.out.blk.bI 0 (.int .u64 (wz S1 0))).bI 1 (.int .u64 (wz S1 1))).bI 2 (.int .u64 (wz S1 2))).bI 3 (.int .u64 (wz S1 3));have I9:=up (Iw.out.only (S':=S1) hO hB);clear hO hB Iw;generalize Tg _ _ _=wb at I9 ⊢;clear w' wa w9;refine bQ (λa' w'=>l7 (.pointer (some ⟨E.x,0,none⟩)) (.int .i64 at_) (.pointer (some ⟨b,0,none⟩)) (.bool nt) v7 v8 a'/\cH E F b w w' (p+1) (uK E.ln E.fold nt S)) ?_ ?_
 .refine ag λwc he=> ?_
  replace I9:=up (I9.out.af he);clear he;cases nt with
  |false=>
   go_wp2;refine⟨?_,?_⟩
   .exact⟨rfl,rfl,rfl,rfl,rfl,rfl,rfl,rfl⟩
   .have e:uK E.ln E.fold false S=S1:=by rw[hS1.out];rfl
    rw[e];exact I9.out
  |true=>
   go_wp2;go_loopw [74] (λc wr=>∃k:Nat,k<=4/\c= .int .i64 k/\cH E F b w wr (p+1) (fV k S1)) λc _=>4- (intOf c).toNat
   case atStart=>exact⟨0,by omega,rfl,by rw[Kw];exact I9.out⟩
   case round=>
    obtain⟨k,hk,rfl,hE⟩:=hrel;clear I9;by_cases hlt:k<4
    .have f0:∀i,wr.frozen? ⟨b,i,none⟩=false:=hE.blk.frozen;have c0:wr.cell? ⟨b,k,none⟩=some (.int .u64 (wz (fV k S1) k)):=eu hE.blk hlt;have e3:bits .xor .u64 (if IntKind.u64.signed=true then -1 else IntKind.u64.max) (wz (fV k S1) k)=wz (fV (k+1) S1) k:=zG S1 k;have hki:(k:Int)<4:=by omega
     replace hE:=up hE;go_wp2;go_roundw
     case rel=>
      have hb:=yd (T:=fV (k+1) S1) hE.out.blk hlt λj hj=>vw S1 k j hj
      refine⟨k+1,by omega,by push_cast;rfl,hE.out.only (.set b wr k _) hb⟩
     case measure=>simp[intOf];omega
    .obtain rfl:k=4:=by omega
     have hE4:cH E F b w wr (p+1) (comp S1):=hE.only (Only.refl b wr) (by have:=hE.blk;rwa [Ej]at this);replace hE4:=up hE4;clear hE;obtain⟨S2,hS2⟩:∃S2,S2=if E.fl/2%2=1 then del (comp S1) 10 else comp S1:=⟨_,rfl⟩
     replace hS2:=up hS2;have h2:∀u:AS,u.heap=wr.heap->Calls PB 137 #[.pointer (some ⟨E.x,0,none⟩),.agg #[.int .u64 (wz (comp S1) 0),.int .u64 (wz (comp S1) 1),.int .u64 (wz (comp S1) 2),.int .u64 (wz (comp S1) 3)]] u λe w'=>e= .returned (.agg #[.int .u64 (wz S2 0),.int .u64 (wz S2 1),.int .u64 (wz S2 2),.int .u64 (wz S2 3)])/\Kp u.heap.size [] u w':=λu hu=>by
      have:=sP E.x E.r E.s (p+1) E.fl E.fold (comp S1) u hfl (hE4.out.sb.blk.af hu);rw[<- hS2.out]at this;exact this
     replace h2:=up h2;have b0:wr.cell? ⟨b,0,none⟩=some _:=hE4.out.blk.cell 0;have b1:wr.cell? ⟨b,1,none⟩=some _:=hE4.out.blk.cell 1;have b2:wr.cell? ⟨b,2,none⟩=some _:=hE4.out.blk.cell 2;have b3:wr.cell? ⟨b,3,none⟩=some _:=hE4.out.blk.cell 3;go_wp2_with (first |(go_at_call 137;refine(h2.out wr rfl).mono ?_;rintro e w' ⟨rfl,hk⟩;have Iw:=up (hE4.out.call hk);have fD:∀i,w'.frozen? ⟨b,i,none⟩=false:=Iw.out.blk.frozen;have b0':w'.cell? ⟨b,0,none⟩=some _:=Iw.out.blk.cell 0;have b1':w'.cell? ⟨b,1,none⟩=some _:=Iw.out.blk.cell 1;have b2':w'.cell? ⟨b,2,none⟩=some _:=Iw.out.blk.cell 2;have b3':w'.cell? ⟨b,3,none⟩=some _:=Iw.out.blk.cell 3;clear hk)|fail)
     have hO:=(((Only.set b w' 0 (.int .u64 (wz S2 0))).trans (.set b _ 1 (.int .u64 (wz S2 1)))).trans (.set b _ 2 (.int .u64 (wz S2 2)))).trans (.set b _ 3 (.int .u64 (wz S2 3)));have hB:=(((Iw.out.blk.bI 0 (.int .u64 (wz S2 0))).bI 1 (.int .u64 (wz S2 1))).bI 2 (.int .u64 (wz S2 2))).bI 3 (.int .u64 (wz S2 3));refine⟨?_,?_⟩
     .exact⟨rfl,rfl,rfl,rfl,rfl,rfl,rfl,rfl⟩
     .have e:uK E.ln E.fold true S=S2:=by
       rw[hS2.out,hS1.out];unfold uK eK.ln;dsimp only;simp only[if_true,decide_eq_true_eq]
      rw[e];exact Iw.out.only (S':=S2) hO hB
 .intro a wc ⟨h1,hI⟩;clear I9;obtain⟨u,rfl⟩:=h1.out;obtain⟨S3,h3⟩:∃S3,S3=uK E.ln E.fold nt S:=⟨_,rfl⟩;rw[<- h3]at hI hQ;clear h3;replace hQ:=up hQ;replace hI:=up hI;refine ac λK hK=> ?_
  refine ao ?_;show aV _ _ _ (AT 0 (3+1)) _ _;refine aW 0 3 1 (λN hN wd he=> ?_) (by decide);simp only[zq1];replace hI:=up (hI.out.af he);have b0:wd.cell? ⟨b,0,none⟩=some _:=hI.out.blk.cell 0;have b1:wd.cell? ⟨b,1,none⟩=some _:=hI.out.blk.cell 1;have b2:wd.cell? ⟨b,2,none⟩=some _:=hI.out.blk.cell 2;have b3:wd.cell? ⟨b,3,none⟩=some _:=hI.out.blk.cell 3;clear he;go_wp2;refine hN.out _ _ ?_;clear hN N b0 b1 b2 b3;refine bF (f:=136) (i:=3) (rest:=[]) rfl rfl λu=>by simp[go_sem];rfl trivial (Av S3 at_ hI.out.sb hF) (λu we hr=> ?_) λch we hr=>by cases hr.1
  obtain⟨h6,h4,h5⟩:=hr;cases h6;refine az (hK.out _ _ ?_);simp only[SC,zq0];clear hK K;have hS:Sent E F w we [E.x,E.r] ⟨iI at_ S3,none,true,p+1⟩:=by
   have hle:=hI.out.kp.1;exact⟨0,h4,λq hq=>(by cases hq),(hI.out.kp.mono (By _) λx hx _=>by rw[AI.1 hx];exact SO).trans (h5.mono hle λx hx _=>by rw[AI.1 hx];simp)⟩
  replace hS:=up hS;clear h4 h5 hI;refine ag λwf he=> ?_
  replace hS:=up (hS.out.af he);clear he;go_wp2;refine hQ.out _ _ ?_;go_ret;exact⟨rfl,hS.out⟩
theorem cH.both{E F b w0 w w' p q S S'}(h:cH E F b w0 w p S)(hk:Kp w.heap.size [E.x,b] w w')(hx:a7 w' E.x 243 (iR E.s q E.fl E.r E.fold))(hb:a7 w' b 101 (words S')):cH E F b w0 w' q S':=by
 obtain⟨n1,n2,n3,n4⟩:=h.ne;have h0:=h.sb.xc;have hc:=hk.2 _ h.sb.kY (by simp[Sz h0.2,Sz n4]);refine⟨⟨hx,by rw[hk.2 _ h.sb.lt.2.1 (by simp[Sz h.sb.lt.2.2,Sz n2])];exact h.sb.chan,by rw[iq (hk.2 _ h.sb.max_lt (by simp[Sz h0.1,Sz n3]))];exact h.sb.max,by have:=h.sb.cls;simp_all[nC]⟩,hb,⟨SW h.kp.1 hk.1,λy hy h3=> ?_⟩,h.le⟩;have h1:=h.le;have h2:=h.kp.1;exact(hk.2 y (by omega) (by grind)).trans (h.kp.2 y hy h3)
theorem GJ
 {c1 c2 c3 c4 c5 c6 c7 c10 c11 c12 cA c24 cB c27 cC cD i i1 i2 o1 o2 o3 o4} (hc:(Tryz.f134).body=some (.seq c1 (.seq c2 (.seq c3 (.seq c4 (.seq c5 (.block i (.loop (.seq (.block i1 (.seq c7 (.block i2 (.seq c10 (.cond o1 c11 (.seq c12 (.cond o2 cA (.seq c24 (.cond o3 cB (.seq c27 (.cond o4 cC cD))))))))))) c6)))))))))
 {E F w} {at_:Nat} {nt a w7 p v7 S b R y Q} (hs:E.s.size<=1000) (hF:F.size<E.cap) (h1:2<=R.size) (hRp:p+R.size<=E.s.size)
 (h2:l7 (.pointer (some ⟨E.x,0,none⟩)) (.int .i64 at_) (.pointer (some ⟨b,0,none⟩)) (.bool nt) v7 (.string R) a) (hI:cH E F b w w7 p S)
 (hy:jE S R.data.toList=none->y=ez 5 p p)
 (hQ:∀a w',jE S R.data.toList=none->bodyPost PB Tryz.f134 (rC E F w y) .ret a w'->Q .ret a w')
 (hN:∀x,jE S R.data.toList=some x->∀a w',l7 (.pointer (some ⟨E.x,0,none⟩)) (.int .i64 at_) (.pointer (some ⟨b,0,none⟩)) (.bool nt) v7 (.string R) a->cH E F b w w' (p+x.2) x.1->Q .normal a w'):
 cL (aH T) cB Q a w7:=by
 cases hc;obtain⟨u,rfl⟩:=h2.out;have hne:=hI.ne;have h0:=up λu(hu:World.heap u=w7.heap)=>Iu E.x E.r b E.s p E.fl E.fold S R u E.m hs hRp h1 (by have:=hI.sb.max;unfold Sy at *;rw[hu];exact this) (by have:=hI.sb.cls;unfold nC at *;rw[hu];exact this) (hI.sb.blk.af hu) (hI.blk.af hu) (Sz hne.1)
 replace hI:=up hI;cases hcl:jE S R.data.toList with
 |none=>
  rw[hcl]at h0 hQ hy;have hy:=hy rfl;subst hy;refine ac λK hK=> ?_
  refine ag λw8 he=> ?_
  have I8:=up (hI.out.af he);have h0:=up (h0.out w8 he);clear he hI;go_wp2_with (first |(go_at_call 160;refine(h0.out).mono ?_;rintro e w' ⟨rfl,hk⟩;replace I8:=up (I8.out.call hk);clear hk)|fail)
  refine hK.out _ _ ?_;clear hK K;refine bG rfl ?_;replace hQ:=λa w'=>hQ a w' trivial
  replace hQ:=up hQ;refine ac λK hK=> ?_
  refine ao ?_;show aV _ _ _ (AT 0 (5+2)) _ _;refine aW 0 5 2 (λN hN wb he=> ?_) (by decide);simp only[zq1];have I9:=up (I8.out.af he);have c1_9:wb.cell? ⟨E.x,1,none⟩=some (.int .i64 p):=I9.out.sb.blk.cell 1;clear he I8;go_wp2;refine hN.out _ _ ?_;clear hN N c1_9;refine bF (f:=138) (i:=5) (rest:=AT 6 (1+0)) rfl rfl λu=>by simp[go_sem] trivial (nF 5 p I9.out.sb hF) (λu wz hr=> ?_) λch wz hr=>by cases hr.1
  obtain⟨h3,hr⟩:=hr;cases h3;have hS:=up (hr.from I9.out.kp);clear hr;simp only[SC,zq0];refine aW 6 1 0 (λN hN wy he=> ?_) (by decide);simp only[zq1];replace hS:=up (hS.out.af he);clear he;go_wp2;refine hN.out _ _ (az (hK.out _ _ ?_));clear hN N hK K;refine ag λwx he=> ?_
  replace hS:=up (hS.out.af he);clear he;go_wp2;refine hQ.out _ _ ?_;go_ret;exact⟨rfl,hS.out⟩
 |some x=>
  rw[hcl]at h0 hN;have hN:=hN x rfl;refine ac λK hK=> ?_
  refine ag λw8 he=> ?_
  have I8:=up (hI.out.af he);have h0:=up (h0.out w8 he);clear he hI;go_wp2_with (first |(go_at_call 160;refine(h0.out).mono ?_;rintro e w' ⟨rfl,hk1,hk2,hk3⟩;replace I8:=up (I8.out.both hk3 hk1 hk2);clear hk1 hk2 hk3)|fail)
  refine hK.out _ _ ?_;clear hK K;refine bK rfl (fS ?_);refine hN _ _ ?_ I8.out;exact⟨rfl,rfl,rfl,rfl,rfl,rfl,rfl,rfl⟩
theorem GH
 {c1 c2 c3 c4 c5 c6 c7 c10 c11 c12 cA c24 cB c27 cC cD i i1 i2 o1 o2 o3 o4} (hc:(Tryz.f134).body=some (.seq c1 (.seq c2 (.seq c3 (.seq c4 (.seq c5 (.block i (.loop (.seq (.block i1 (.seq c7 (.block i2 (.seq c10 (.cond o1 c11 (.seq c12 (.cond o2 cA (.seq c24 (.cond o3 cB (.seq c27 (.cond o4 cC cD))))))))))) c6)))))))))
 {E F w} {at_:Nat} {nt a w7 p v7 S b R y Q} (hs:E.s.size<=1000) (hF:F.size<E.cap) (hR0 hR2) (hRp:p+R.size<=E.s.size)
 (h0:l7 (.pointer (some ⟨E.x,0,none⟩)) (.int .i64 at_) (.pointer (some ⟨b,0,none⟩)) (.bool nt) v7 (.string R) a) (hI:cH E F b w w7 p S)
 (hy:R[2].toNat<R[0].toNat->y=ez 6 p p)
 (hQ:∀a w',R[2].toNat<R[0].toNat->bodyPost PB Tryz.f134 (rC E F w y) .ret a w'->Q .ret a w')
 (hN:¬ R[2].toNat<R[0].toNat->∀a w',l7 (.pointer (some ⟨E.x,0,none⟩)) (.int .i64 at_) (.pointer (some ⟨b,0,none⟩)) (.bool nt) v7 (.string R) a->cH E F b w w' (p+3) (jd S R[0].toNat R[2].toNat)->Q .normal a w'):
 cL (aH T) cC Q a w7:=by
 cases hc;obtain⟨u,rfl⟩:=h0.out;have h0z:(0:Int)<(R.size:Int):=by omega
 have h2z:(2:Int)<(R.size:Int):=by omega
 have h1:=R[0].toNat_lt;have hb2:=R[2].toNat_lt;have hA:=up λ(u:AS)(hu:a7 u b 101 (words S))=>add_any b R[0].toNat R[2].toNat S u (by omega) (by omega) hu
 clear h1 hb2;replace hI:=up hI;refine ac λK hK=> ?_
 by_cases hlt:R[2].toNat<R[0].toNat
 .have hy:=hy hlt;subst hy;have hQ:=λa w'=>hQ a w' hlt
  have hlt':(R[2].toNat:Int)<(R[0].toNat:Int):=by exact_mod_cast hlt
  clear hlt hN;refine ac λK2 hK2=> ?_
  refine ag λw8 he=> ?_
  have I8:=up (hI.out.af he);clear he hI;go_quiet (fail)
  refine hK2.out _ _ ?_;clear hK2 K2;replace I8:=up (I8.out.af (w':=w8.drewN nq) rfl);generalize w8.drewN nq=w9 at *;refine bG (by simp[If,hlt']) ?_;replace hQ:=up hQ;refine ac λK hK=> ?_
  refine ao ?_;show aV _ _ _ (AT 0 (5+2)) _ _;refine aW 0 5 2 (λN hN wb he=> ?_) (by decide);simp only[zq1];have I9:=up (I8.out.af he);have c1_9:wb.cell? ⟨E.x,1,none⟩=some (.int .i64 p):=I9.out.sb.blk.cell 1;clear he I8;go_wp2;refine hN.out _ _ ?_;clear hN N c1_9;refine bF (f:=138) (i:=5) (rest:=AT 6 (1+0)) rfl rfl λu=>by simp[go_sem] trivial (nF 6 p I9.out.sb hF) (λu wz hr=> ?_) λch wz hr=>by cases hr.1
  obtain⟨h2,hr⟩:=hr;cases h2;have hS:=up (hr.from I9.out.kp);clear hr;simp only[SC,zq0];refine aW 6 1 0 (λN hN wy he=> ?_) (by decide);simp only[zq1];replace hS:=up (hS.out.af he);clear he;go_wp2;refine hN.out _ _ (az (hK.out _ _ ?_));clear hN N hK K;refine ag λwx he=> ?_
  replace hS:=up (hS.out.af he);clear he;go_wp2;refine hQ.out _ _ ?_;go_ret;exact⟨rfl,hS.out⟩
 .have hN:=hN hlt;have hlt':¬ (R[2].toNat:Int)<(R[0].toNat:Int):=by exact_mod_cast hlt
  clear hlt hQ;have hw3:IntKind.i64.wrap ((p:Int)+3)=((p+3:Nat):Int):=by rw[IN];omega
  refine ac λK2 hK2=> ?_
  refine ag λw8 he=> ?_
  have I8:=up (hI.out.af he);clear he hI;go_quiet (fail)
  refine hK2.out _ _ ?_;clear hK2 K2;replace I8:=up (I8.out.af (w':=w8.drewN nq) rfl);generalize w8.drewN nq=w9 at *;refine bK (by simp[If,hlt']) (fS ?_);refine hK.out _ _ ?_;clear hK K hlt';refine ac λK hK=> ?_
  refine ag λwa he=> ?_
  replace I8:=up (I8.out.af he);clear he;go_still_tail 4,by kernel_rfl
  change wpList _ _ _ _ _ wa.drew;go_wp2_with (first |(go_at_call 135;refine(hA.out wa.drew I8.out.blk).mono ?_;rintro e w' ⟨rfl,hb',hO⟩;replace I8:=up (cH.only (w:=wa.drew) (I8.out.af rfl) hO hb');clear hb' hO)|fail)
  refine hK.out _ _ ?_;clear hK K;refine ag λwb he=> ?_
  replace I8:=up (I8.out.af he);have c1:wb.cell? ⟨E.x,1,none⟩=some (.int .i64 p):=I8.out.sb.blk.cell 1;have f1:∀i,wb.frozen? ⟨E.x,i,none⟩=false:=I8.out.sb.blk.frozen;clear he;go_wp2;refine hN _ _ ?_ ?_
  .exact⟨rfl,rfl,rfl,rfl,rfl,rfl,rfl,rfl⟩
  .exact I8.out.move (q:=p+3)
theorem LR
 {c1 c2 c3 c4 c5 c6 c7 c10 c11 c12 cA c24 cB c27 cC cD i i1 i2 o1 o2 o3 o4} (hc:(Tryz.f134).body=some (.seq c1 (.seq c2 (.seq c3 (.seq c4 (.seq c5 (.block i (.loop (.seq (.block i1 (.seq c7 (.block i2 (.seq c10 (.cond o1 c11 (.seq c12 (.cond o2 cA (.seq c24 (.cond o3 cB (.seq c27 (.cond o4 cC cD))))))))))) c6)))))))))
 {E F w} {at_:Nat} {nt a w7 p v7 S b R Q} (hs:E.s.size<=1000) (hF:F.size<E.cap) (hR0) (hRp:p+R.size<=E.s.size)
 (h0:l7 (.pointer (some ⟨E.x,0,none⟩)) (.int .i64 at_) (.pointer (some ⟨b,0,none⟩)) (.bool nt) v7 (.string R) a) (hI:cH E F b w w7 p S)
 (hN:∀a w',l7 (.pointer (some ⟨E.x,0,none⟩)) (.int .i64 at_) (.pointer (some ⟨b,0,none⟩)) (.bool nt) v7 (.string R) a->cH E F b w w' (p+1) (jd S R[0].toNat R[0].toNat)->Q .normal a w'):
 cL (aH T) cD Q a w7:=by
 cases hc;obtain⟨u,rfl⟩:=h0.out;have h0z:(0:Int)<(R.size:Int):=by omega
 have h1:=R[0].toNat_lt;have hA:=up λ(u:AS)(hu:a7 u b 101 (words S))=>add_any b R[0].toNat R[0].toNat S u (by omega) (by omega) hu
 clear h1;have hw3:IntKind.i64.wrap ((p:Int)+1)=((p+1:Nat):Int):=by rw[IN];omega
 replace hI:=up hI;refine ac λK hK=> ?_
 refine ag λwa he=> ?_
 have I8:=up (hI.out.af he);clear he hI;go_still_tail 4,by kernel_rfl
 change wpList _ _ _ _ _ wa.drew;go_wp2_with (first |(go_at_call 135;refine(hA.out wa.drew I8.out.blk).mono ?_;rintro e w' ⟨rfl,hb',hO⟩;replace I8:=up (cH.only (w:=wa.drew) (I8.out.af rfl) hO hb');clear hb' hO)|fail)
 refine hK.out _ _ ?_;clear hK K;refine ag λwb he=> ?_
 replace I8:=up (I8.out.af he);have c1:wb.cell? ⟨E.x,1,none⟩=some (.int .i64 p):=I8.out.sb.blk.cell 1;have f1:∀i,wb.frozen? ⟨E.x,i,none⟩=false:=I8.out.sb.blk.frozen;clear he;go_wp2;refine hN _ _ ?_ ?_
 .exact⟨rfl,rfl,rfl,rfl,rfl,rfl,rfl,rfl⟩
 .exact I8.out.move (q:=p+1)
theorem BT(R:ByteArray)(i:Nat)(h):R.data.toList[i]?=some R[i]:=by
 rw[Tn (by simpa using h)];rfl
theorem zw{a b:UInt8}{n}(hn:(b.toNat:Int)=n)(h:a≠b):((a.toNat:Int)=n)=False:=eq_false λe=>h (by rw[<- Ta];omega)
theorem GG
 {c1 c2 c3 c4 c5 c6 c7 c10 c11 c12 cA c24 cB c27 cC cD i i1 i2 o1 o2 o3 o4} (hc:(Tryz.f134).body=some (.seq c1 (.seq c2 (.seq c3 (.seq c4 (.seq c5 (.block i (.loop (.seq (.block i1 (.seq c7 (.block i2 (.seq c10 (.cond o1 c11 (.seq c12 (.cond o2 cA (.seq c24 (.cond o3 cB (.seq c27 (.cond o4 cC cD))))))))))) c6)))))))))
 {E F w} {at_:Nat} {nt y f a0 w7 p first S id} (hs:E.s.size<=1000) (hF:F.size<E.cap) (hfl:E.fl<256)
 (hw:xg (.pointer (some ⟨E.x,0,none⟩)) (.int .i64 at_) (.pointer (some ⟨w.heap.size,0,none⟩)) (.bool nt) (.bool first) a0) (hI:C1 E F w.heap.size w.heap.size w at_ nt y f w7 p first S):
 cL (aH T) (.seq (.block i1 (.seq c7 (.block i2 (.seq c10 (.cond o1 c11 (.seq c12 (.cond o2 cA (.seq c24 (.cond o3 cB (.seq c27 (.cond o4 cC cD))))))))))) c6) (Exit.then (λa' w'=>∃m,m<f/\Od E F w.heap.size w.heap.size w at_ nt y m a' w') (Exit.inBlock id (bodyPost PB Tryz.f134 (rC E F w y)))) a0 w7:=by
 have hh:=λa w7 p v7 v8 S b Q=> @GI T _ _ _ _ _ _ _ _ _ _ _ _ _ _ _ _ _ _ _ _ _ _ _ hc E F w at_ nt a w7 p v7 v8 S b Q hs
 have hi:=λa w7 p v7 S b R y Q=> @GJ T _ _ _ _ _ _ _ _ _ _ _ _ _ _ _ _ _ _ _ _ _ _ _ hc E F w at_ nt a w7 p v7 S b R y Q hs hF
 have hj:=λa w7 p v7 S b R y Q=> @GH T _ _ _ _ _ _ _ _ _ _ _ _ _ _ _ _ _ _ _ _ _ _ _ hc E F w at_ nt a w7 p v7 S b R y Q hs hF
 have hk:=λa w7 p v7 S b R Q=> @LR T _ _ _ _ _ _ _ _ _ _ _ _ _ _ _ _ _ _ _ _ _ _ _ hc E F w at_ nt a w7 p v7 S b R Q hs hF
 replace hh:=up hh;replace hi:=up hi;replace hj:=up hj;replace hk:=up hk;cases hc;obtain⟨u,rfl⟩:=hw.out;refine ac λK6 hz=> ?_
 refine ec ?_;refine ac λK hK=> ?_
 refine ag λw8 he=> ?_
 have I8:=up (hI.af he);have c0:w8.cell? ⟨E.x,0,none⟩=some (.string E.s):=I8.out.sb.blk.cell 0;have c1:w8.cell? ⟨E.x,1,none⟩=some (.int .i64 p):=I8.out.sb.blk.cell 1;have hv:=I8.out.ple;clear he hI;go_quiet (fail)
 refine hK.out _ _ ?_;clear hK K c0 c1;replace I8:=up (I8.out.af (w':=w8.drewN nq) rfl);generalize w8.drewN nq=w9 at *;clear w8 nq w7;have hR:(E.s.extract p E.s.size).data.toList=E.l.drop p:=ow _ _;have hRs:(E.s.extract p E.s.size).size=E.s.size-p:=by rw[Su,hR,SJ];unfold eK.l;rw[<- Su]
 generalize E.s.extract p E.s.size=R at *;have hy:=I8.out.eq;cases f with
 |zero=>cases hy
 |succ f=>
 unfold jk at hy;cases hl:E.l.drop p with
 |nil=>
  rw[hl]at hy hR;cases hy;have he:R.toList.isEmpty=true:=by rw[SX,hR];rfl
  clear hRs hv;replace hR:=up hR;replace hl:=up hl;refine ec ?_;refine ac λK hK=> ?_
  refine ag λwa hd=> ?_
  replace I8:=up (I8.out.af hd);clear hd;go_wp2;refine hK.out _ _ ?_;clear hK K;refine bG rfl ?_;refine ac λK hK=> ?_
  refine ao ?_;show aV _ _ _ (AT 0 (2+2)) _ _;refine aW 0 2 2 (λN hN wb he=> ?_) (by decide);simp only[zq1];have I9:=up (I8.out.af he);have c1_9:wb.cell? ⟨E.x,1,none⟩=some (.int .i64 p):=I9.out.sb.blk.cell 1;clear he I8;go_wp2;refine hN.out _ _ ?_;clear hN N c1_9;refine bF (f:=138) (i:=2) (rest:=AT 3 (1+0)) rfl rfl λu=>by simp[go_sem] trivial (nF 4 at_ I9.out.sb hF) (λu wz hr=> ?_) λch wz hr=>by cases hr.1
  obtain⟨g0,hr⟩:=hr;cases g0;have hS:=up (hr.from I9.out.kp);clear hr;simp only[SC,zq0];refine aW 3 1 0 (λN hN wy he=> ?_) (by decide);simp only[zq1];replace hS:=up (hS.out.af he);clear he;go_wp2;refine hN.out _ _ (az (hK.out _ _ ?_));clear hN N hK K;refine ag λwx he=> ?_
  replace hS:=up (hS.out.af he);clear he;go_wp2;go_ret;exact⟨rfl,hS.out⟩
 |cons a r=>
  rw[hl]at hy;have hlen:=rl hl;rw[hl]at hR;dsimp only at hy;have hrl:r.length+1=R.size:=by rw[Su,hR];rfl
  have h0:0<R.size:=by omega
  have hg0:R[0]=a:=by
   have:=BT R 0 h0;rw[hR]at this;simpa using this.symm
  have hg1:∀h:1<R.size,r.getD 0 0=R[1]:=λh=>by
   have:=BT R 1 h;rw[hR]at this;simp only[T7]at this;rw[T2,this];rfl
  have hg2:∀h:2<R.size,r.getD 1 0=R[2]:=λh=>by
   have:=BT R 2 h;rw[hR]at this;simp only[T7]at this;rw[T2,this];rfl
  have hRp:p+R.size<=E.s.size:=by omega
  have hEl:E.l.length=E.s.size:=by unfold eK.l;rw[<- Su]
  have hNext:∀a' w' p' S',l7 (.pointer (some ⟨E.x,0,none⟩)) (.int .i64 at_) (.pointer (some ⟨w.heap.size,0,none⟩)) (.bool nt) (.bool first) (.string R) a'->cH E F w.heap.size w w' p' S'->p'<=E.s.size->jk E.ln E.fold E.l nt at_ f false S' p'=some y->K6 a' w':=λa' w' p' S' hfr' hE hp' hq=>by
   refine hz.out _ _ ?_;obtain⟨u,rfl⟩:=hfr'.out;refine ag λw2 he2=> ?_
   have hg:=up (hE.af he2);clear he2;go_wp2;refine⟨f,Ty f,p',false,S',?_,⟨hg.out.sb,hg.out.blk,hg.out.kp,hg.out.le,hp',hq⟩⟩;exact⟨rfl,rfl,rfl,rfl,rfl,rfl,rfl⟩
  replace hNext:=up hNext;have IE:=up (⟨I8.out.sb,I8.out.blk,I8.out.kp,I8.out.lt⟩:cH E F w.heap.size w w9 p S);clear I8;have he:R.toList.isEmpty=false:=by rw[SX,hR];rfl
  have h0z:(0:Int)<(R.size:Int):=by omega
  replace hR:=up hR;replace hl:=up hl;replace hy:=up hy;refine ec ?_;refine ac λK hK=> ?_
  refine ag λwa hd=> ?_
  replace IE:=up (IE.out.af hd);clear hd;go_wp2;refine hK.out _ _ ?_;clear hK K;refine bK rfl ?_;have hm:=up (show p<E.s.size from by omega);by_cases hA:a=93/\first=false
  .obtain⟨ho,hp⟩:=hA;have hy:=hy.out;rw[if_pos ⟨ho,hp⟩]at hy;cases hy;subst hp;have e93:(R[0].toNat:Int)=93:=by rw[hg0,ho];rfl
   refine bQ (λa' w'=>zD (.pointer (some ⟨E.x,0,none⟩)) (.int .i64 at_) (.pointer (some ⟨w.heap.size,0,none⟩)) (.bool nt) (.bool false) (.string R) (.bool true) a'/\cH E F w.heap.size w w' p S) ?_ ?_
   .refine ag λwb h9=> ?_
    replace IE:=up (IE.out.af h9);clear h9 hg0 hg1 hg2;go_wp2;refine⟨?_,IE.out⟩;exact⟨rfl,rfl,rfl,rfl,rfl,rfl,rfl,rfl,rfl⟩
   .intro a' wb ⟨hfr',hE⟩;obtain⟨u,rfl⟩:=hfr'.out;refine bG rfl ?_;refine hh.out _ wb p (.bool false) (.string R) S w.heap.size _ hm.out hF hfl ?_ hE λa w' h=>h
    exact⟨rfl,rfl,rfl,rfl,rfl,rfl,rfl,rfl⟩
  have hy:=hy.out;rw[if_neg hA]at hy;refine bQ (λa' w'=>zD (.pointer (some ⟨E.x,0,none⟩)) (.int .i64 at_) (.pointer (some ⟨w.heap.size,0,none⟩)) (.bool nt) (.bool first) (.string R) (.bool false) a'/\cH E F w.heap.size w w' p S) ?_ ?_
  .refine ag λwb h9=> ?_
   replace IE:=up (IE.out.af h9);by_cases ha:a=93
   .have e93:(R[0].toNat:Int)=93:=by rw[hg0,ha];rfl
    have hf1:first=true:=by
     cases first
     .exact absurd ⟨ha,rfl⟩ hA
     .rfl
    subst hf1;clear h9 hy hg0 hg1 hg2 hA ha;go_wp2;refine⟨?_,IE.out⟩;exact⟨rfl,rfl,rfl,rfl,rfl,rfl,rfl,rfl,rfl⟩
   .have e93:((R[0].toNat:Int)=93)=False:=zw (b:=93) rfl (hg0▸ha);clear h9 hy hg0 hg1 hg2 hA ha;go_wp2;refine⟨?_,IE.out⟩;exact⟨rfl,rfl,rfl,rfl,rfl,rfl,rfl,rfl,rfl⟩
  intro a' wb ⟨hfr',hE⟩;obtain⟨u,rfl⟩:=hfr'.out;replace hE:=up hE;clear IE;refine bK rfl ?_;have h4:∀(h:1<R.size)(w:AS),Calls PB 139 #[.string ⟨#[58,46,61]⟩,.int .u8 R[1].toNat] w λe w'=>e= .returned (.int .i64 (Sw [58,46,61] R[1]))/\w'=w:=λh w=>by
   have:=xW ⟨#[58,46,61]⟩ R[1].toNat w;rw[show R[1].toNat.toUInt8=R[1]from by simp]at this;exact this
  replace h4:=up h4;by_cases hB:0<r.length/\a=91/\0<=Sw [58,46,61] (r.getD 0 0)
  .obtain⟨hB1,hB2,hB3⟩:=hB;rw[if_pos ⟨hB1,hB2,hB3⟩]at hy;have h1:1<R.size:=by omega
   rw[hg1 h1]at hB3;have h1z:(1:Int)<(R.size:Int):=by omega
   have e91:(R[0].toNat:Int)=91:=by rw[hg0,hB2];rfl
   have h4:=up (h4.out h1);replace hy:=up hy;refine bQ (λa' w'=>zC (.pointer (some ⟨E.x,0,none⟩)) (.int .i64 at_) (.pointer (some ⟨w.heap.size,0,none⟩)) (.bool nt) (.bool first) (.string R) (.bool true) a'/\cH E F w.heap.size w w' p S) ?_ ?_
   .refine ag λwc h7=> ?_
    replace hE:=up (hE.out.af h7);generalize Sw [58,46,61] R[1]=ix at *;clear h7 hg0 hg1 hg2 hA hB1 hB2;go_wp2_with (first |(go_at_call 139;refine(h4.out _).mono ?_;rintro e w' ⟨rfl,rfl⟩)|fail)
    refine⟨?_,hE.out⟩;exact⟨rfl,rfl,rfl,rfl,rfl,rfl,rfl,rfl,rfl⟩
   .intro a' wc ⟨hfr',hE⟩;obtain⟨u,rfl⟩:=hfr'.out;refine bG rfl ?_;have hy:=hy.out;rw[<- hR.out]at hy;refine hi.out _ wc p (.bool first) S w.heap.size R y _ (by omega) hRp ?_ hE (λhn=> ?_) (λa w' _ h=>h) λx hx a w' hf h3=> ?_
    .exact⟨rfl,rfl,rfl,rfl,rfl,rfl,rfl,rfl⟩
    .rw[hn]at hy;exact(Option.some.inj hy).symm
    .rw[hx]at hy;have h5:=yq hx (by rw[hR.out];simp;omega);have h6:R.data.toList.length=R.size:=(Su R).symm;exact hNext.out _ _ _ _ hf h3 (by omega) hy
  rw[if_neg hB]at hy;refine bQ (λa' w'=>zC (.pointer (some ⟨E.x,0,none⟩)) (.int .i64 at_) (.pointer (some ⟨w.heap.size,0,none⟩)) (.bool nt) (.bool first) (.string R) (.bool false) a'/\cH E F w.heap.size w w' p S) ?_ ?_
  .refine ag λwc h7=> ?_
   replace hE:=up (hE.out.af h7);replace hy:=up hy;by_cases h1:1<R.size
   .have h1z:(1:Int)<(R.size:Int):=by omega
    by_cases ha:a=91
    .have e91:(R[0].toNat:Int)=91:=by rw[hg0,ha];rfl
     have hB3:¬ 0<=Sw [58,46,61] R[1]:=λh=>hB ⟨by omega,ha,by rw[hg1 h1];exact h⟩
     have h4:=up (h4.out h1);generalize Sw [58,46,61] R[1]=ix at *;clear h7 hg0 hg1 hg2 hA hB ha;go_wp2_with (first |(go_at_call 139;refine(h4.out _).mono ?_;rintro e w' ⟨rfl,rfl⟩)|fail)
     refine⟨⟨rfl,rfl,rfl,rfl,rfl,rfl,rfl,rfl,?_⟩,hE.out⟩;show Tj _=_;simp;omega
    .have e91:((R[0].toNat:Int)=91)=False:=zw (b:=91) rfl (hg0▸ha);clear h7 hg0 hg1 hg2 hA hB ha;go_wp2;refine⟨?_,hE.out⟩;exact⟨rfl,rfl,rfl,rfl,rfl,rfl,rfl,rfl,rfl⟩
   .have h1z:¬ (1:Int)<(R.size:Int):=by omega
    clear h7 hg0 hg1 hg2 hA hB h1;go_wp2;refine⟨?_,hE.out⟩;exact⟨rfl,rfl,rfl,rfl,rfl,rfl,rfl,rfl,rfl⟩
  intro a' wc ⟨hfr',h3⟩;obtain⟨u,rfl⟩:=hfr'.out;replace hE:=up h3;clear h3 h4;refine bK rfl ?_;by_cases hC:1<r.length/\r.getD 0 0=45/\r.getD 1 0≠93
  .obtain⟨ht,hC2,hC3⟩:=hC;rw[if_pos ⟨ht,hC2,hC3⟩]at hy;have h2:2<R.size:=by omega
   have h1:1<R.size:=by omega
   rw[hg1 h1]at hC2;rw[hg2 h2]at hC3 hy;have h1z:(1:Int)<(R.size:Int):=by omega
   have h2z:(2:Int)<(R.size:Int):=by omega
   have e45:(R[1].toNat:Int)=45:=by rw[hC2];rfl
   have e93:((R[2].toNat:Int)=93)=False:=zw (b:=93) rfl hC3;rw[<- hg0]at hy;replace hy:=up hy;refine bQ (λa' w'=>zA (.pointer (some ⟨E.x,0,none⟩)) (.int .i64 at_) (.pointer (some ⟨w.heap.size,0,none⟩)) (.bool nt) (.bool first) (.string R) (.bool true) a'/\cH E F w.heap.size w w' p S) ?_ ?_
   .refine ag λwd h8=> ?_
    replace hE:=up (hE.out.af h8);clear h8 hg0 hg1 hg2 hA hB ht hC2 hC3;go_wp2;refine⟨⟨rfl,rfl,rfl,rfl,rfl,rfl,rfl,rfl,?_⟩,hE.out⟩;show Tj _=_;simp[e93]
   .intro a' wd ⟨hfr',hE⟩;obtain⟨u,rfl⟩:=hfr'.out;refine bG rfl ?_;have hy:=hy.out;refine hj.out _ wd p (.bool first) S w.heap.size R y _ h0 h2 hRp ?_ hE (λhn=> ?_) (λa w' _ h=>h) λhx a w' hf h3=> ?_
    .exact⟨rfl,rfl,rfl,rfl,rfl,rfl,rfl,rfl⟩
    .rw[if_pos hn]at hy;exact(Option.some.inj hy).symm
    .rw[if_neg hx]at hy;exact hNext.out _ _ _ _ hf h3 (by omega) hy
  rw[if_neg hC,<- hg0]at hy;refine bQ (λa' w'=>zA (.pointer (some ⟨E.x,0,none⟩)) (.int .i64 at_) (.pointer (some ⟨w.heap.size,0,none⟩)) (.bool nt) (.bool first) (.string R) (.bool false) a'/\cH E F w.heap.size w w' p S) ?_ ?_
  .refine ag λwd h8=> ?_
   replace hE:=up (hE.out.af h8);replace hy:=up hy;by_cases h2:2<R.size
   .have h2z:(2:Int)<(R.size:Int):=by omega
    have h1:1<R.size:=by omega
    have h1z:(1:Int)<(R.size:Int):=by omega
    by_cases ha:R[1]=45
    .have e45:(R[1].toNat:Int)=45:=by rw[ha];rfl
     have e93:(R[2].toNat:Int)=93:=by
      have:r.getD 1 0=93:=Classical.byContradiction λh=>hC ⟨by omega,by rw[hg1 h1];exact ha,h⟩
      rw[hg2 h2]at this;rw[this];rfl
     clear h8 hg0 hg1 hg2 hA hB hC ha;go_wp2;refine⟨?_,hE.out⟩;exact⟨rfl,rfl,rfl,rfl,rfl,rfl,rfl,rfl,rfl⟩
    .have e45:((R[1].toNat:Int)=45)=False:=zw (b:=45) rfl ha;clear h8 hg0 hg1 hg2 hA hB hC ha;go_wp2;refine⟨?_,hE.out⟩;exact⟨rfl,rfl,rfl,rfl,rfl,rfl,rfl,rfl,rfl⟩
   .have h2z:¬ (2:Int)<(R.size:Int):=by omega
    clear h8 hg0 hg1 hg2 hA hB hC h2;go_wp2;refine⟨?_,hE.out⟩;exact⟨rfl,rfl,rfl,rfl,rfl,rfl,rfl,rfl,rfl⟩
  intro a' wd ⟨hfr',h3⟩;obtain⟨u,rfl⟩:=hfr'.out;refine bK rfl ?_;refine hk.out _ wd p (.bool first) S w.heap.size R _ h0 hRp ?_ h3 λa w' hf h3=> ?_
  .exact⟨rfl,rfl,rfl,rfl,rfl,rfl,rfl,rfl⟩
  .exact hNext.out _ _ _ _ hf h3 (by omega) hy
theorem OD{E w p F}(at_)(hs:E.s.size<=1000)(hd:p<=E.s.size)(h:SB E w p F)(hF:F.size<E.cap)(hfl:E.fl<256){y}(hy:ET E.ln E.fold E.l at_ p=some y):
 cb (aH T) 134 #[.pointer (some ⟨E.x,0,none⟩),.int .i64 at_] w (rC E F w y):=by
 refine bu trivial (λw' h=>nomatch h.1) (PB.func Tryz.func134 (by decide)) rfl ?_;simp only[Tryz.ntmps134,SD,SH,SF,SR,SQ,No,Sv,SI,SE,SL,SK];refine ac λK hK=> ?_
 refine ag λw0 he=> ?_
 have H1:=up (h.af he);have hK1:=up ((Kp.refl (B:=w.heap.size) (X:=[E.x]) w).af he);have hz:=congrArg T0 he;clear he h;go_wp2;refine hK.out _ _ ?_;clear hK K;refine ac λK hK=> ?_
 refine ag λw1 he=> ?_
 have H2:=up (H1.out.af he);have hK2:=up (hK1.out.af he);have h9:=(congrArg T0 he).trans hz;clear he H1 hK1 hz;go_wp2;refine hK.out _ _ ?_;clear hK K w0;have H3:=up (H2.out.keep (w':=w1.alloc (.cells #[.int .u64 0,.int .u64 0,.int .u64 0,.int .u64 0] 101)) (Below.heap_alloc _ _ _ H2.out.lt.1) (Below.heap_alloc _ _ _ H2.out.lt.2.1) (Below.heap_alloc _ _ _ H2.out.max_lt) (Below.heap_alloc _ _ _ H2.out.kY));have hK3:=up (hK2.out.alloc (By _) (.cells #[.int .u64 0,.int .u64 0,.int .u64 0,.int .u64 0] 101));have h5:a7 (w1.alloc (.cells #[.int .u64 0,.int .u64 0,.int .u64 0,.int .u64 0] 101)) w.heap.size 101 (words co):=by
  rw[<- h9];unfold words;simp only[qd];exact a7.new w1 101 #[.int .u64 0,.int .u64 0,.int .u64 0,.int .u64 0]
 replace h5:=up h5;clear H2 hK2 h9;generalize w1.alloc _=w2 at *;clear w1;have hP:∀u,Calls PB 159 #[.string (E.s.extract p E.s.size),.string ⟨#[94]⟩] u λe w'=>e= .returned (.bool (Ti (E.l.drop p) [94]))/\w'=u:=λu=>by
  have:=M7 (E.s.extract p E.s.size) ⟨#[94]⟩ u;rw[ow]at this;exact this
 unfold ET at hy;dsimp only at hy;have ha:Ti (E.l.drop p) [94]=true->p+1<=E.s.size:=λh=>by
  have:=qw h;unfold eK.l at this;rwa [<- Su]at this
 generalize hnt:Ti (E.l.drop p) [94]=nt at *;clear hnt;obtain⟨pp,hpp⟩:∃pp,pp=if nt=true then p+1 else p:=⟨_,rfl⟩
 rw[<- hpp]at hy;have h4:pp<=E.s.size:=by
  rw[hpp];split
  .next hn=>exact ha hn
  .exact hd
 clear ha;replace hP:=up hP;replace hy:=up hy;refine ac λK hK=> ?_
 refine ag λw3 he=> ?_
 have H4:=up (H3.out.af he);have hK4:=up (hK3.out.af he);have hc:=up (h5.out.af he);have c0:w3.cell? ⟨E.x,0,none⟩=some (.string E.s):=H4.out.blk.cell 0;have c1:w3.cell? ⟨E.x,1,none⟩=some (.int .i64 p):=H4.out.blk.cell 1;clear H3 hK3 h5 he;replace hpp:=up hpp;replace h4:=up h4;go_quiet (first |(go_at_call 159;refine Td (hP.out _)))
 refine hK.out _ _ ?_;clear hK K;have H5:=up (H4.out.af (w':=w3.drewN nq) rfl);have h6:=up (hK4.out.af (w':=w3.drewN nq) rfl);have h7:=up (hc.out.af (w':=w3.drewN nq) rfl);clear c0 c1 H4 hK4 hc hP w2;generalize w3.drewN nq=w4 at *;clear w3 nq;refine bQ (Oc E F w at_ nt undef pp) ?_ ?_
 .refine ag λw5 he=> ?_
  have H6:=up (H5.out.af he);have h3:=up (h6.out.af he);have h0:=up (h7.out.af he);have c1:w5.cell? ⟨E.x,1,none⟩=some (.int .i64 p):=H6.out.blk.cell 1;have f1:∀i,w5.frozen? ⟨E.x,i,none⟩=false:=H6.out.blk.frozen;have hw1:IntKind.i64.wrap ((p:Int)+1)=((p+1:Nat):Int):=by rw[IN];omega
  clear H5 h6 h7 he;cases nt with
  |true=>
   go_wp2;have hq:pp=p+1:=hpp.out;have hlx:=H6.out.lt.1;have hne:w.heap.size≠E.x:=λe=>by have h1:=h0.out;have h2:=H6.out.blk;rw[e]at h1;unfold a7 at h1 h2;rw[h1]at h2;cases h2
   refine⟨?_,?_,h0.out.far hne _,h3.out.setCell (λ_=>AI.2 rfl) _⟩
   .exact⟨rfl,rfl,rfl,rfl,rfl,rfl,rfl⟩
   .rw[hq];exact H6.out.move
  |false=>
   go_wp2;have hq:pp=p:=hpp.out;refine⟨?_,hq▸H6.out,h0.out,h3.out⟩;exact⟨rfl,rfl,rfl,rfl,rfl,rfl,rfl⟩
 .intro a w5 ⟨h8,H6,h0,h3⟩;obtain⟨u,rfl⟩:=h8.out;replace H6:=up H6;replace h0:=up h0;replace h3:=up h3;clear H5 h6 h7;refine ac λK hK=> ?_
  refine ag λw6 he=> ?_
  have H7:=up (H6.out.af he);have hf:=up (h3.out.af he);have hg:=up (h0.out.af he);clear H6 h3 h0 he;go_wp2;refine hK.out _ _ ?_;clear hK K;refine ec ?_;refine m9 (Od E F w.heap.size w.heap.size w at_ nt y) (E.l.length+1) ⟨pp,true,co,?_,H7.out,hg.out,hf.out,By _,h4.out,hy.out⟩ ?_
  .exact⟨rfl,rfl,rfl,rfl,rfl,rfl,rfl⟩
  .intro f a w7 ⟨p7,first,S,h8,hI⟩;exact GG rfl hs hF hfl h8 hI
def xk(v0 v3 v4:BY)(a:Act):Prop:=a.defers=[]/\a.tmps.size=134/\a.tmps.getD 0 undef=v0/\a.tmps.getD 3 undef=v3/\a.tmps.getD 4 undef=v4
theorem xk.out{v0 v3 v4 a}(h:xk v0 v3 v4 a):∃u:Nat->BY,a= {tmps:=(v0::u 1::u 2::v3::v4::u 5::u 6::u 7::u 8::u 9::u 10::u 11::u 12::u 13::u 14::u 15::u 16::u 17::u 18::u 19::u 20::u 21::u 22::u 23::u 24::u 25::u 26::u 27::u 28::u 29::u 30::u 31::u 32::u 33::u 34::u 35::u 36::u 37::u 38::u 39::u 40::u 41::u 42::u 43::u 44::u 45::u 46::u 47::u 48::u 49::u 50::u 51::u 52::u 53::u 54::u 55::u 56::u 57::u 58::u 59::u 60::u 61::u 62::u 63::u 64::u 65::u 66::u 67::u 68::u 69::u 70::u 71::u 72::u 73::u 74::u 75::u 76::u 77::u 78::u 79::u 80::u 81::u 82::u 83::u 84::u 85::u 86::u 87::u 88::u 89::u 90::u 91::u 92::u 93::u 94::u 95::u 96::u 97::u 98::u 99::u 100::u 101::u 102::u 103::u 104::u 105::u 106::u 107::u 108::u 109::u 110::u 111::u 112::u 113::u 114::u 115::u 116::u 117::u 118::u 119::u 120::u 121::u 122::u 123::u 124::u 125::u 126::u 127::u 128::u 129::u 130::u 131::u 132::u 133::[]).toArray,defers:=[]}:=by
 obtain⟨hd,hn,rfl,rfl,rfl⟩:=h;obtain⟨ts,ds⟩:=a;subst hd;exact⟨λi=>ts.getD i undef,congrArg (λt=>({tmps:=t,defers:=[]}:Act)) (dp 134 ts hn)⟩
theorem cH.sent{E F b w0 w w' p S at_}(h:cH E F b w0 w p S)(h1:SB E w' p (F.push (Tok.val 0 (iI at_ S))))(h2:Kp w.heap.size [E.r] w w'):Sent E F w0 w' [E.x,E.r] ⟨iI at_ S,none,true,p⟩:=by
 exact⟨0,h1,λq hq=>(by cases hq),(h.kp.mono (By _) λx hx _=>by simp[AI.1 hx]).trans (h2.mono h.kp.1 λx hx _=>by simp[AI.1 hx])⟩
theorem cH.fresh{E F w0 w p}(h:SB E w p F)(hk:Kp w0.heap.size [E.x] w0 w):cH E F w.heap.size w0 (w.alloc (.cells #[.int .u64 0,.int .u64 0,.int .u64 0,.int .u64 0] 101)) p co:=by
 refine⟨h.keep (Below.heap_alloc _ _ _ h.lt.1) (Below.heap_alloc _ _ _ h.lt.2.1) (Below.heap_alloc _ _ _ h.max_lt) (Below.heap_alloc _ _ _ h.kY),?_,hk.alloc (By _) _,hk.1⟩;simp[words,qd];exact a7.new w 101 #[.int .u64 0,.int .u64 0,.int .u64 0,.int .u64 0]
theorem Hf
 {c0 c1 c4 c5 c6 c7 c8 c11 cE1 cE2 cS1 cS2 c33 c34 c35 c36 cM c16 c17 c18 c19 c20 c21 c22 c23 c24 cX cY i o1 o2 o3 o4 o5 o6} (hc:(Tryz.f116).body=some (.seq c0 (.seq (.seq c1 (.cond o1 cE1 cE2)) (.seq c4 (.seq c5 (.seq c6 (.seq (.seq c7 (.seq c8 (.cond o2 cS1 cS2))) (.seq (.seq c11 (.block i (.seq cM (.cond o3 c16 (.seq c17 (.cond o4 c18 (.seq c19 (.cond o5 (.seq c20 (.seq c21 (.seq c22 c23))) (.seq c24 (.cond o6 cX cY)))))))))) (.seq c33 (.seq c34 (.seq c35 c36)))))))))))
 {E F w} {at_ c:Nat} {a w7 p y Q} (hs:E.s.size<=1000) (hF:F.size<E.cap) (hc8:c<256)
 (h4:xk (.pointer (some ⟨E.x,0,none⟩)) (.int .i64 at_) (.int .u8 c) a) (hB:SB E w7 p F) (h1:Kp w.heap.size [E.x] w w7)
 (hy:y=⟨iI at_ (yP E.fold (jd co c c)),none,true,p⟩)
 (hQ:∀a w',bodyPost PB Tryz.f116 (rC E F w y) .ret a w'->Q .ret a w'):
 cL (aH T) (.seq c33 (.seq c34 (.seq c35 c36))) Q a w7:=by
 cases hc;subst hy;replace hQ:=up hQ;obtain⟨u,rfl⟩:=h4.out;refine ac λK hK=> ?_
 refine ag λw8 he=> ?_
 replace hB:=hB.af he;replace h1:=h1.af he;have I8:=up (cH.fresh hB h1);clear he hB h1;go_wp2;refine hK.out _ _ ?_;clear hK K;generalize w8.alloc _=w9 at I8 ⊢;generalize w8.heap.size=b at I8 ⊢;clear w8 w7;have hA:=up λ(u:AS)(hu:a7 u b 101 (words co))=>add_any b c c co u (by omega) (by omega) hu
 refine ac λK hK=> ?_
 refine ag λwa he=> ?_
 replace I8:=up (I8.out.af he);clear he;go_wp2_with (first |(go_at_call 135;refine(hA.out wa I8.out.blk).mono ?_;rintro e w' ⟨rfl,hb',hO⟩;replace I8:=up (I8.out.only hO hb');clear hb' hO)|fail)
 refine hK.out _ _ ?_;clear hK K hA wa w9;generalize hS0:jd co c c=S at I8 ⊢;replace hS0:=up hS0;have h0:∀u:AS,u.heap=w'.heap->Calls PB 140 #[.pointer (some ⟨E.x,0,none⟩),.agg #[.int .u64 (wz S 0),.int .u64 (wz S 1),.int .u64 (wz S 2),.int .u64 (wz S 3)]] u λe w'=>e= .returned (.agg #[.int .u64 (wz (yP E.fold S) 0),.int .u64 (wz (yP E.fold S) 1),.int .u64 (wz (yP E.fold S) 2),.int .u64 (wz (yP E.fold S) 3)])/\Kp u.heap.size [] u w':=λu hu=>wS E.x E.r E.s p E.fl E.fold S u (I8.out.sb.blk.af hu)
 replace h0:=up h0;generalize hS1:yP E.fold S=S1 at h0 ⊢;replace hS1:=up hS1;refine ac λK hK=> ?_
 refine ao ?_;show aV _ _ _ (AT 0 (5+1)) _ _;refine aW 0 5 1 (λN hN wd he=> ?_) (by decide);simp only[zq1];replace I8:=up (I8.out.af he);have b0:wd.cell? ⟨b,0,none⟩=some _:=I8.out.blk.cell 0;have b1:wd.cell? ⟨b,1,none⟩=some _:=I8.out.blk.cell 1;have b2:wd.cell? ⟨b,2,none⟩=some _:=I8.out.blk.cell 2;have b3:wd.cell? ⟨b,3,none⟩=some _:=I8.out.blk.cell 3;have h0:=up (h0.out wd he);clear he;go_wp2_with (first |(go_at_call 140;refine(h0.out).mono ?_;rintro e w2 ⟨rfl,hk⟩;have Iw:=up (I8.out.call hk);clear hk)|fail)
 refine hN.out _ _ ?_;clear hN N b0 b1 b2 b3 h0 I8;have Iw':cH E F b w w2 p S:=Iw.out;refine bF (f:=136) (i:=5) (rest:=[]) rfl rfl λu=>by simp[go_sem];rfl trivial (Av S1 at_ Iw.out.sb hF) (λu we hr=> ?_) λch we hr=>by cases hr.1
 obtain⟨h5,h2,h3⟩:=hr;cases h5;refine az (hK.out _ _ ?_);simp only[SC,zq0];clear hK K;have hS:Sent E F w we [E.x,E.r] ⟨iI at_ S1,none,true,p⟩:=by
  have hle:=Iw'.kp.1;exact⟨0,h2,λq hq=>(by cases hq),(Iw'.kp.mono (By _) λx hx _=>by rw[AI.1 hx];exact SO).trans (h3.mono hle λx hx _=>by rw[AI.1 hx];simp)⟩
 replace hS:=up hS;clear h2 h3 Iw Iw';refine ag λwf he=> ?_
 replace hS:=up (hS.out.af he);clear he;go_wp2;refine hQ.out _ _ ?_;go_ret;exact⟨rfl,by rw[hS0.out,hS1.out];exact hS.out⟩
theorem JP
 {c0 c1 c4 c5 c6 c7 c8 c11 cE1 cE2 cS1 cS2 c33 c34 c35 c36 cM c16 c17 c18 c19 c20 c21 c22 c23 c24 cX cY i o1 o2 o3 o4 o5 o6} (hc:(Tryz.f116).body=some (.seq c0 (.seq (.seq c1 (.cond o1 cE1 cE2)) (.seq c4 (.seq c5 (.seq c6 (.seq (.seq c7 (.seq c8 (.cond o2 cS1 cS2))) (.seq (.seq c11 (.block i (.seq cM (.cond o3 c16 (.seq c17 (.cond o4 c18 (.seq c19 (.cond o5 (.seq c20 (.seq c21 (.seq c22 c23))) (.seq c24 (.cond o6 cX cY)))))))))) (.seq c33 (.seq c34 (.seq c35 c36)))))))))))
 {E F w} {at_:Nat} {v4 a w7 p y Q} (hs:E.s.size<=1000) (hF:F.size<E.cap) (hfl:E.fl<256)
 (h4:xk (.pointer (some ⟨E.x,0,none⟩)) (.int .i64 at_) v4 a) (hB:SB E w7 p F) (h1:Kp w.heap.size [E.x] w w7)
 (hy:y=⟨iI at_ (wH E.ln (jd co 0 255)),none,true,p⟩)
 (hQ:∀a w',bodyPost PB Tryz.f116 (rC E F w y) .ret a w'->Q .ret a w'):
 cL (aH T) (.seq c20 (.seq c21 (.seq c22 c23))) Q a w7:=by
 cases hc;subst hy;replace hQ:=up hQ;obtain⟨u,rfl⟩:=h4.out;refine ac λK hK=> ?_
 refine ag λw8 he=> ?_
 replace hB:=hB.af he;replace h1:=h1.af he;have I8:=up (cH.fresh hB h1);clear he hB h1;go_wp2;refine hK.out _ _ ?_;clear hK K;generalize w8.alloc _=w9 at I8 ⊢;generalize w8.heap.size=b at I8 ⊢;clear w8 w7;have hA:=up λ(u:AS)(hu:a7 u b 101 (words co))=>add_any b 0 255 co u (by omega) (by omega) hu
 refine ac λK hK=> ?_
 refine ag λwa he=> ?_
 replace I8:=up (I8.out.af he);clear he;go_wp2_with (first |(go_at_call 135;refine(hA.out wa I8.out.blk).mono ?_;rintro e w' ⟨rfl,hb',hO⟩;replace I8:=up (I8.out.only hO hb');clear hb' hO)|fail)
 refine hK.out _ _ ?_;clear hK K hA wa w9;generalize hS0:jd co 0 255=S at I8 ⊢;replace hS0:=up hS0;have h0:∀u:AS,u.heap=w'.heap->Calls PB 137 #[.pointer (some ⟨E.x,0,none⟩),.agg #[.int .u64 (wz S 0),.int .u64 (wz S 1),.int .u64 (wz S 2),.int .u64 (wz S 3)]] u λe w'=>e= .returned (.agg #[.int .u64 (wz (wH E.ln S) 0),.int .u64 (wz (wH E.ln S) 1),.int .u64 (wz (wH E.ln S) 2),.int .u64 (wz (wH E.ln S) 3)])/\Kp u.heap.size [] u w':=λu hu=>by
  have:=sP E.x E.r E.s p E.fl E.fold S u hfl (I8.out.sb.blk.af hu);have e:(if E.fl/2%2=1 then del S 10 else S)=wH E.ln S:=by
   unfold wH eK.ln;simp only[decide_eq_true_eq]
  rw[e]at this;exact this
 replace h0:=up h0;generalize hS1:wH E.ln S=S1 at h0 ⊢;replace hS1:=up hS1;refine ac λK hK=> ?_
 refine ao ?_;show aV _ _ _ (AT 0 (5+1)) _ _;refine aW 0 5 1 (λN hN wd he=> ?_) (by decide);simp only[zq1];replace I8:=up (I8.out.af he);have b0:wd.cell? ⟨b,0,none⟩=some _:=I8.out.blk.cell 0;have b1:wd.cell? ⟨b,1,none⟩=some _:=I8.out.blk.cell 1;have b2:wd.cell? ⟨b,2,none⟩=some _:=I8.out.blk.cell 2;have b3:wd.cell? ⟨b,3,none⟩=some _:=I8.out.blk.cell 3;have h0:=up (h0.out wd he);clear he;go_wp2_with (first |(go_at_call 137;refine(h0.out).mono ?_;rintro e w2 ⟨rfl,hk⟩;have Iw:=up (I8.out.call hk);clear hk)|fail)
 refine hN.out _ _ ?_;clear hN N b0 b1 b2 b3 h0 I8;have Iw':cH E F b w w2 p S:=Iw.out;refine bF (f:=136) (i:=5) (rest:=[]) rfl rfl λu=>by simp[go_sem];rfl trivial (Av S1 at_ Iw.out.sb hF) (λu we hr=> ?_) λch we hr=>by cases hr.1
 obtain⟨h5,h2,h3⟩:=hr;cases h5;refine az (hK.out _ _ ?_);simp only[SC,zq0];clear hK K;have hS:Sent E F w we [E.x,E.r] ⟨iI at_ S1,none,true,p⟩:=by
  have hle:=Iw'.kp.1;exact⟨0,h2,λq hq=>(by cases hq),(Iw'.kp.mono (By _) λx hx _=>by rw[AI.1 hx];exact SO).trans (h3.mono hle λx hx _=>by rw[AI.1 hx];simp)⟩
 replace hS:=up hS;clear h2 h3 Iw Iw';refine ag λwf he=> ?_
 replace hS:=up (hS.out.af he);clear he;go_wp2;refine hQ.out _ _ ?_;go_ret;exact⟨rfl,by rw[hS0.out,hS1.out];exact hS.out⟩
def Of(v0 v3 v4 v5:BY)(a:Act):Prop:=a.defers=[]/\a.tmps.size=134/\a.tmps.getD 0 undef=v0/\a.tmps.getD 3 undef=v3/\a.tmps.getD 4 undef=v4/\a.tmps.getD 5 undef=v5
theorem Of.out{v0 v3 v4 v5 a}(h:Of v0 v3 v4 v5 a):∃u:Nat->BY,a= {tmps:=(v0::u 1::u 2::v3::v4::v5::u 6::u 7::u 8::u 9::u 10::u 11::u 12::u 13::u 14::u 15::u 16::u 17::u 18::u 19::u 20::u 21::u 22::u 23::u 24::u 25::u 26::u 27::u 28::u 29::u 30::u 31::u 32::u 33::u 34::u 35::u 36::u 37::u 38::u 39::u 40::u 41::u 42::u 43::u 44::u 45::u 46::u 47::u 48::u 49::u 50::u 51::u 52::u 53::u 54::u 55::u 56::u 57::u 58::u 59::u 60::u 61::u 62::u 63::u 64::u 65::u 66::u 67::u 68::u 69::u 70::u 71::u 72::u 73::u 74::u 75::u 76::u 77::u 78::u 79::u 80::u 81::u 82::u 83::u 84::u 85::u 86::u 87::u 88::u 89::u 90::u 91::u 92::u 93::u 94::u 95::u 96::u 97::u 98::u 99::u 100::u 101::u 102::u 103::u 104::u 105::u 106::u 107::u 108::u 109::u 110::u 111::u 112::u 113::u 114::u 115::u 116::u 117::u 118::u 119::u 120::u 121::u 122::u 123::u 124::u 125::u 126::u 127::u 128::u 129::u 130::u 131::u 132::u 133::[]).toArray,defers:=[]}:=by
 obtain⟨hd,hn,rfl,rfl,rfl,rfl⟩:=h;obtain⟨ts,ds⟩:=a;subst hd;exact⟨λi=>ts.getD i undef,congrArg (λt=>({tmps:=t,defers:=[]}:Act)) (dp 134 ts hn)⟩
def Oh(v0 v3 v4 v115:BY)(a:Act):Prop:=a.defers=[]/\a.tmps.size=134/\a.tmps.getD 0 undef=v0/\a.tmps.getD 3 undef=v3/\a.tmps.getD 4 undef=v4/\a.tmps.getD 115 undef=v115
theorem Oh.out{v0 v3 v4 v115 a}(h:Oh v0 v3 v4 v115 a):∃u:Nat->BY,a= {tmps:=(v0::u 1::u 2::v3::v4::u 5::u 6::u 7::u 8::u 9::u 10::u 11::u 12::u 13::u 14::u 15::u 16::u 17::u 18::u 19::u 20::u 21::u 22::u 23::u 24::u 25::u 26::u 27::u 28::u 29::u 30::u 31::u 32::u 33::u 34::u 35::u 36::u 37::u 38::u 39::u 40::u 41::u 42::u 43::u 44::u 45::u 46::u 47::u 48::u 49::u 50::u 51::u 52::u 53::u 54::u 55::u 56::u 57::u 58::u 59::u 60::u 61::u 62::u 63::u 64::u 65::u 66::u 67::u 68::u 69::u 70::u 71::u 72::u 73::u 74::u 75::u 76::u 77::u 78::u 79::u 80::u 81::u 82::u 83::u 84::u 85::u 86::u 87::u 88::u 89::u 90::u 91::u 92::u 93::u 94::u 95::u 96::u 97::u 98::u 99::u 100::u 101::u 102::u 103::u 104::u 105::u 106::u 107::u 108::u 109::u 110::u 111::u 112::u 113::u 114::v115::u 116::u 117::u 118::u 119::u 120::u 121::u 122::u 123::u 124::u 125::u 126::u 127::u 128::u 129::u 130::u 131::u 132::u 133::[]).toArray,defers:=[]}:=by
 obtain⟨hd,hn,rfl,rfl,rfl,rfl⟩:=h;obtain⟨ts,ds⟩:=a;subst hd;exact⟨λi=>ts.getD i undef,congrArg (λt=>({tmps:=t,defers:=[]}:Act)) (dp 134 ts hn)⟩
def Og(v0 v3 v4 v55:BY)(a:Act):Prop:=a.defers=[]/\a.tmps.size=134/\a.tmps.getD 0 undef=v0/\a.tmps.getD 3 undef=v3/\a.tmps.getD 4 undef=v4/\a.tmps.getD 55 undef=v55
theorem Og.out{v0 v3 v4 v55 a}(h:Og v0 v3 v4 v55 a):∃u:Nat->BY,a= {tmps:=(v0::u 1::u 2::v3::v4::u 5::u 6::u 7::u 8::u 9::u 10::u 11::u 12::u 13::u 14::u 15::u 16::u 17::u 18::u 19::u 20::u 21::u 22::u 23::u 24::u 25::u 26::u 27::u 28::u 29::u 30::u 31::u 32::u 33::u 34::u 35::u 36::u 37::u 38::u 39::u 40::u 41::u 42::u 43::u 44::u 45::u 46::u 47::u 48::u 49::u 50::u 51::u 52::u 53::u 54::v55::u 56::u 57::u 58::u 59::u 60::u 61::u 62::u 63::u 64::u 65::u 66::u 67::u 68::u 69::u 70::u 71::u 72::u 73::u 74::u 75::u 76::u 77::u 78::u 79::u 80::u 81::u 82::u 83::u 84::u 85::u 86::u 87::u 88::u 89::u 90::u 91::u 92::u 93::u 94::u 95::u 96::u 97::u 98::u 99::u 100::u 101::u 102::u 103::u 104::u 105::u 106::u 107::u 108::u 109::u 110::u 111::u 112::u 113::u 114::u 115::u 116::u 117::u 118::u 119::u 120::u 121::u 122::u 123::u 124::u 125::u 126::u 127::u 128::u 129::u 130::u 131::u 132::u 133::[]).toArray,defers:=[]}:=by
 obtain⟨hd,hn,rfl,rfl,rfl,rfl⟩:=h;obtain⟨ts,ds⟩:=a;subst hd;exact⟨λi=>ts.getD i undef,congrArg (λt=>({tmps:=t,defers:=[]}:Act)) (dp 134 ts hn)⟩
def Lu(v0 v3 v4 v55 v56:BY)(a:Act):Prop:=a.defers=[]/\a.tmps.size=134/\a.tmps.getD 0 undef=v0/\a.tmps.getD 3 undef=v3/\a.tmps.getD 4 undef=v4/\a.tmps.getD 55 undef=v55/\a.tmps.getD 56 undef=v56
theorem Lu.out{v0 v3 v4 v55 v56 a}(h:Lu v0 v3 v4 v55 v56 a):∃u:Nat->BY,a= {tmps:=(v0::u 1::u 2::v3::v4::u 5::u 6::u 7::u 8::u 9::u 10::u 11::u 12::u 13::u 14::u 15::u 16::u 17::u 18::u 19::u 20::u 21::u 22::u 23::u 24::u 25::u 26::u 27::u 28::u 29::u 30::u 31::u 32::u 33::u 34::u 35::u 36::u 37::u 38::u 39::u 40::u 41::u 42::u 43::u 44::u 45::u 46::u 47::u 48::u 49::u 50::u 51::u 52::u 53::u 54::v55::v56::u 57::u 58::u 59::u 60::u 61::u 62::u 63::u 64::u 65::u 66::u 67::u 68::u 69::u 70::u 71::u 72::u 73::u 74::u 75::u 76::u 77::u 78::u 79::u 80::u 81::u 82::u 83::u 84::u 85::u 86::u 87::u 88::u 89::u 90::u 91::u 92::u 93::u 94::u 95::u 96::u 97::u 98::u 99::u 100::u 101::u 102::u 103::u 104::u 105::u 106::u 107::u 108::u 109::u 110::u 111::u 112::u 113::u 114::u 115::u 116::u 117::u 118::u 119::u 120::u 121::u 122::u 123::u 124::u 125::u 126::u 127::u 128::u 129::u 130::u 131::u 132::u 133::[]).toArray,defers:=[]}:=by
 obtain⟨hd,hn,rfl,rfl,rfl,rfl,rfl⟩:=h;obtain⟨ts,ds⟩:=a;subst hd;exact⟨λi=>ts.getD i undef,congrArg (λt=>({tmps:=t,defers:=[]}:Act)) (dp 134 ts hn)⟩
structure l9(E:eK)(F:Array BY)(w0 w:AS)(p:Nat):Prop where
 sb:SB E w p F
 kp:Kp w0.heap.size [E.x] w0 w
theorem l9.af{E F w0 w w' p}(h:l9 E F w0 w p)(he:w'.heap=w.heap):l9 E F w0 w' p:=⟨h.sb.af he,h.kp.af he⟩
theorem l9.move{E F w0 w}{p q:Nat}(h:l9 E F w0 w p):l9 E F w0 (w.setCell ⟨E.x,1,none⟩ (.int .i64 (q:Int))) q:=⟨h.sb.move,h.kp.setCell (λ_=>AI.2 rfl) _⟩
theorem Sent.Li{E F w w1 w' y}(h:Sent E F w1 w' [E.x,E.r] y)(hk:Kp w.heap.size [E.x] w w1):Sent E F w w' [E.x,E.r] y:=by
 obtain⟨e,h1,h2,h3⟩:=h;have hle:=hk.1;exact⟨e,h1,λq hq=>⟨(h2 q hq).1,SW hle (h2 q hq).2⟩,(hk.mono (By _) λx hx _=>by simp[AI.1 hx]).trans (h3.mono hle λx hx _=>hx)⟩
theorem l9.sent{E F w0 w p sd k at_ more}(h:l9 E F w0 w p):Sent E F w0 (ay w E.r (.chan E.cap (F.push (Tok.val 0 (ly k at_))) false sd E.rc E.tm)) [E.x,E.r] ⟨ly k at_,none,more,p⟩:=
 ⟨0,h.sb.push h.sb.lt.2.2 h.sb.tL _,λq hq=>(by cases hq),(h.kp.mono (By _) λx hx _=>by simp[AI.1 hx]).ay λ_=>by simp _⟩
theorem nO{a b:UInt8}{n}(hn:(b.toNat:Int)=n)(h:a≠b):(a.toNat:Int)≠n:=λe=>h (by rw[<- Ta];omega)
theorem Hg
 {c0 c1 c4 c5 c6 c7 c8 c11 cE1 cE2 cS1 cS2 c33 c34 c35 c36 cM c16 c17 c18 c19 c20 c21 c22 c23 c24 cX cY i o1 o2 o3 o4 o5 o6} (hc:(Tryz.f116).body=some (.seq c0 (.seq (.seq c1 (.cond o1 cE1 cE2)) (.seq c4 (.seq c5 (.seq c6 (.seq (.seq c7 (.seq c8 (.cond o2 cS1 cS2))) (.seq (.seq c11 (.block i (.seq cM (.cond o3 c16 (.seq c17 (.cond o4 c18 (.seq c19 (.cond o5 (.seq c20 (.seq c21 (.seq c22 c23))) (.seq c24 (.cond o6 cX cY)))))))))) (.seq c33 (.seq c34 (.seq c35 c36)))))))))))
 {E F w y p} (hs:E.s.size<=1000) (hF:F.size<E.cap) (hfl:E.fl<256) (hps:p<=E.s.size) (h:SB E w p F) (hy:eB E.ln E.fold E.l p=some y) {us} (hj:us=List.replicate 133 undef):
 cL (aH T) (.seq c0 (.seq (.seq c1 (.cond o1 cE1 cE2)) (.seq c4 (.seq c5 (.seq c6 (.seq (.seq c7 (.seq c8 (.cond o2 cS1 cS2))) (.seq (.seq c11 (.block i (.seq cM (.cond o3 c16 (.seq c17 (.cond o4 c18 (.seq c19 (.cond o5 (.seq c20 (.seq c21 (.seq c22 c23))) (.seq c24 (.cond o6 cX cY)))))))))) (.seq c33 (.seq c34 (.seq c35 c36)))))))))) (bodyPost PB Tryz.f116 (rC E F w y)) {tmps:=#[.pointer (some ⟨E.x,0,none⟩)]++T5 (134-1) undef,defers:=[]} w:=by
 have hT:=λat_ c a w7 p y Q=> @Hf T _ _ _ _ _ _ _ _ _ _ _ _ _ _ _ _ _ _ _ _ _ _ _ _ _ _ _ _ _ _ _ _ _ _ _ hc E F w at_ c a w7 p y Q hs hF
 have hD:=λat_ v a w7 p y Q=> @JP T _ _ _ _ _ _ _ _ _ _ _ _ _ _ _ _ _ _ _ _ _ _ _ _ _ _ _ _ _ _ _ _ _ _ _ hc E F w at_ v a w7 p y Q hs hF hfl
 replace hT:=up hT;replace hD:=up hD;cases hc;simp only[SD,SH,SF,SR,SQ,No,Sv,SI,SE,SL,SK];clear hj us;have I8:=up (⟨h,Kp.refl w⟩:l9 E F w w p);clear h;refine ac (λK hK=> ?_);refine ag (λw1 he=> ?_);replace I8:=up (I8.out.af he);clear he;go_wp2;refine hK.out _ _ ?_;clear hK K;refine ac (λK1 hK1=> ?_);refine ac (λK hK=> ?_);refine ag (λw2 he=> ?_);replace I8:=up (I8.out.af he);have c0:w2.cell? ⟨E.x,0,none⟩=some (.string E.s):=I8.out.sb.blk.cell 0;have c1:w2.cell? ⟨E.x,1,none⟩=some (.int .i64 p):=I8.out.sb.blk.cell 1;clear he;go_quiet (fail)
 refine hK.out _ _ ?_;clear hK K c0 c1;replace I8:=up (I8.out.af (w':=w2.drewN nq) rfl);generalize w2.drewN nq=w3 at *;clear w2 nq w1;unfold eB at hy;by_cases hpe:p=E.s.size
 .have hd:E.l.drop p=[]:=by
   refine T8 ?_;unfold eK.l;rw[<- Su,hpe];exact By _
  rw[hd]at hy;cases hy;have hpe':(p:Int)=(E.s.size:Int):=by omega
  refine bG (by simp[If,hpe']) ?_;clear hd hpe hpe';refine ac (λM hM=> ?_);refine li 9 (by kernel_rfl) (by kernel_rfl) (λK hK w4 he4=> ?_);simp only[Tc,Tr];have c1:w4.cell? ⟨E.x,1,none⟩=some (.int .i64 p):=(I8.out.sb.blk.af he4).cell 1;have c3:w4.cell? ⟨E.x,3,none⟩=some (.chan (some E.r)):=(I8.out.sb.blk.af he4).cell 3;clear he4;repeat still_step
  refine wpStill_nil (hK.out _ ?_);clear hK K c1 c3;obtain⟨sd,hch⟩:=I8.out.sb.chan;refine mh (rest:=[]) (v:=Tok.val 0 (ly 0 p)) rfl rfl (PB.send E.r _ rfl rfl ?_) hch hF ?_
  .rfl
  refine az ?_;simp only[SC];refine hM.out _ _ ?_;clear hM M;have hS:=up (I8.out.sent (sd:=sd+1) (k:=0) (at_:=p) (more:=false));clear hch I8;show cL _ _ _ _ (ay w3 E.r (.chan E.cap (F.push (Tok.val 0 (ly 0 p))) false (sd+1) E.rc E.tm));generalize ay w3 E.r (.chan E.cap (F.push (Tok.val 0 (ly 0 p))) false (sd+1) E.rc E.tm)=w5 at *;refine ag (λw6 he=> ?_);replace hS:=up (hS.out.af he);clear he;go_wp2;go_ret;exact⟨rfl,hS.out⟩
 have hlt:p<E.s.size:=by omega
 have hd:E.l.drop p=E.s[p]::E.l.drop (p+1):=drop_at E.s p hlt;rw[hd]at hy;dsimp only at hy;have hpe':¬ (p:Int)=(E.s.size:Int):=by omega
 refine bK (by simp[If,hpe']) (fS ?_);refine hK1.out _ _ ?_;clear hK1 K1 hpe hpe' hd;have hp0:(p:Int)<(E.s.size:Int):=by omega
 have hc8:=E.s[p].toNat_lt;generalize hcc:E.s[p]=c at hy hc8;replace hy:=up hy;refine bQ (λa' w'=>xk (.pointer (some ⟨E.x,0,none⟩)) (.int .i64 p) undef a'/\l9 E F w w' p) ?_ ?_
 .refine ag (λw4 he=> ?_);replace I8:=up (I8.out.af he);have c1:w4.cell? ⟨E.x,1,none⟩=some (.int .i64 p):=I8.out.sb.blk.cell 1;clear he;go_wp2;refine⟨?_,I8.out⟩;exact⟨rfl,rfl,rfl,rfl,rfl⟩
 intro a w4 ⟨h0,hI⟩;clear I8;have I8:=up hI;clear hI;obtain⟨u,rfl⟩:=h0.out;refine bQ (λa' w'=>xk (.pointer (some ⟨E.x,0,none⟩)) (.int .i64 p) (.int .u8 c.toNat) a'/\l9 E F w w' p) ?_ ?_
 .refine ag (λw5 he=> ?_);replace I8:=up (I8.out.af he);have c0:w5.cell? ⟨E.x,0,none⟩=some (.string E.s):=I8.out.sb.blk.cell 0;clear he;subst hcc;go_wp2;refine⟨?_,I8.out⟩;exact⟨rfl,rfl,rfl,rfl,rfl⟩
 intro a w5 ⟨h0,hI⟩;clear I8;have I8:=up hI;clear hI;obtain⟨u,rfl⟩:=h0.out;replace hcc:=up hcc;have hw1:IntKind.i64.wrap ((p:Int)+1)=((p+1:Nat):Int):=by rw[IN];omega
 refine bQ (λa' w'=>xk (.pointer (some ⟨E.x,0,none⟩)) (.int .i64 p) (.int .u8 c.toNat) a'/\l9 E F w w' (p+1)) ?_ ?_
 .refine ag (λw6 he=> ?_);replace I8:=up (I8.out.af he);have c1:w6.cell? ⟨E.x,1,none⟩=some (.int .i64 p):=I8.out.sb.blk.cell 1;have f1:∀i,w6.frozen? ⟨E.x,i,none⟩=false:=I8.out.sb.blk.frozen;clear he;go_wp2;refine⟨?_,I8.out.move (q:=p+1)⟩;exact⟨rfl,rfl,rfl,rfl,rfl⟩
 intro a w6 ⟨h0,hI⟩;clear I8 hw1;have I8:=up hI;clear hI;obtain⟨u,rfl⟩:=h0.out;have hSg:=up (λw=>Jk c.toNat w);refine ac (λK1 hK1=> ?_);refine bQ (λa' w'=>Of (.pointer (some ⟨E.x,0,none⟩)) (.int .i64 p) (.int .u8 c.toNat) (.int .i64 (fG c.toNat)) a'/\l9 E F w w' (p+1)) ?_ ?_
 .refine ag (λw7 he=> ?_);replace I8:=up (I8.out.af he);clear he;generalize fG c.toNat=sk at *;go_wp2_with (first |(go_at_call 132;refine(hSg.out _).mono ?_;rintro e w' ⟨rfl,rfl⟩)|fail)
  refine⟨?_,I8.out⟩;exact⟨rfl,rfl,rfl,rfl,rfl,rfl⟩
 intro a w7 ⟨h0,hI⟩;clear I8 hSg;have I8:=up hI;clear hI;obtain⟨u,rfl⟩:=h0.out;by_cases h6:0<=fG c.toNat
 .have hy:=hy.out;rw[if_pos h6]at hy;cases hy;generalize fG c.toNat=sk at *;refine ac (λK hK=> ?_);refine ag (λw8 he=> ?_);replace I8:=up (I8.out.af he);clear he;go_wp2;refine hK.out _ _ ?_;clear hK K;refine bG (by simp[If,h6]) ?_;refine ac (λK hK=> ?_);refine ao ?_;show aV _ _ _ (AT 0 (7+1)) _ _;refine aW 0 7 1 (λN hN w9 he=> ?_) (by decide);simp only[zq1];replace I8:=up (I8.out.af he);have c3:w9.cell? ⟨E.x,3,none⟩=some (.chan (some E.r)):=I8.out.sb.blk.cell 3;clear he;go_wp2;refine hN.out _ _ ?_;clear hN N c3;obtain⟨sd,hch⟩:=I8.out.sb.chan;refine mh (rest:=[]) (v:=Tok.val 0 (ly sk p)) rfl rfl (PB.send E.r _ rfl rfl ?_) hch hF ?_
  .rfl
  refine az ?_;simp only[SC];refine hK.out _ _ ?_;clear hK K;have hS:=up (I8.out.sent (sd:=sd+1) (k:=sk) (at_:=p) (more:=true));clear hch I8;show cL _ _ _ _ (ay w9 E.r (.chan E.cap (F.push (Tok.val 0 (ly sk p))) false (sd+1) E.rc E.tm));generalize ay w9 E.r (.chan E.cap (F.push (Tok.val 0 (ly sk p))) false (sd+1) E.rc E.tm)=wa at *;refine ag (λwb he=> ?_);replace hS:=up (hS.out.af he);clear he;go_wp2;go_ret;exact⟨rfl,hS.out⟩
 replace hy:=up (by have:=hy.out;rw[if_neg h6]at this;exact this);have hh:¬ 0<=fG c.toNat:=h6;generalize fG c.toNat=sk at *;refine ac (λK hK=> ?_);refine ag (λw8 he=> ?_);replace I8:=up (I8.out.af he);clear he;go_wp2;refine hK.out _ _ ?_;clear hK K;refine bK (by simp[If,hh]) (fS ?_);refine hK1.out _ _ ?_;clear hK1 K1 h6 hh;refine ac (λK1 hK1=> ?_);refine bQ (λa' w'=>Og (.pointer (some ⟨E.x,0,none⟩)) (.int .i64 p) (.int .u8 c.toNat) (.int .u8 c.toNat) a'/\l9 E F w w' (p+1)) ?_ ?_
 .refine ag (λw9 he=> ?_);replace I8:=up (I8.out.af he);clear he;go_wp2;refine⟨?_,I8.out⟩;exact⟨rfl,rfl,rfl,rfl,rfl,rfl⟩
 intro a w9 ⟨h0,hI⟩;clear I8;have I8:=up hI;clear hI;obtain⟨u,rfl⟩:=h0.out;have hEl:E.l.length=E.s.size:=by unfold eK.l;rw[<- Su]
 refine ec ?_;have h7:∀n:Nat,n<256->((c.toNat:Int)=(n:Int)↔c=n.toUInt8):=λn hn=>by
  rw[<- Ta];have:n.toUInt8.toNat=n:=by simp;omega
  rw[this];omega
 by_cases hrep:c=42\/c=43\/c=63\/c=123
 .have hy:=hy.out;rw[if_pos hrep]at hy;cases hy;refine bQ (λa' w'=>Lu (.pointer (some ⟨E.x,0,none⟩)) (.int .i64 p) (.int .u8 c.toNat) (.int .u8 c.toNat) (.bool true) a'/\l9 E F w w' (p+1)) ?_ ?_
  .refine ag (λwa he=> ?_);replace I8:=up (I8.out.af he);clear he h7;rcases hrep with rfl|rfl|rfl|rfl
   all_goals
    go_wp2;refine⟨?_,I8.out⟩;exact⟨rfl,rfl,rfl,rfl,rfl,rfl,rfl⟩
  intro a wa ⟨h0,hI⟩;clear I8;have I8:=up hI;clear hI;obtain⟨u,rfl⟩:=h0.out;have hrep':c.toNat=42\/c.toNat=43\/c.toNat=63\/c.toNat=123:=by
   rcases hrep with rfl|rfl|rfl|rfl
   .exact .inl rfl
   .exact .inr (.inl rfl)
   .exact .inr (.inr (.inl rfl))
   .exact .inr (.inr (.inr rfl))
  refine bG rfl ?_;have hRp:=up (λ(u:AS)(hu:SB E u (p+1) F)=>OJ (T:=T) c.toNat p hrep' rfl hs (by omega) hu hF);clear hrep hrep' h7;refine ac (λK hK=> ?_);refine ao ?_;show aV _ _ _ (AT 0 (3+2)) _ _;refine aW 0 3 2 (λN hN wd he=> ?_) (by decide);simp only[zq1];have I9:=up (I8.out.af he);clear he I8;go_wp2;refine hN.out _ _ ?_;clear hN N;refine bF (f:=133) (i:=3) (rest:=AT 4 (1+0)) rfl rfl (λu=>by simp[go_sem]) trivial (hRp.out _ I9.out.sb) (λu wz hr=> ?_) (λch wz hr=>(by cases hr.1));obtain⟨h1,hr⟩:=hr;cases h1;have hS:=up (hr.Li I9.out.kp);clear hr;simp only[SC,zq0];refine aW 4 1 0 (λN hN wy he=> ?_) (by decide);simp only[zq1];replace hS:=up (hS.out.af he);clear he;go_wp2;refine hN.out _ _ (az (hK.out _ _ ?_));clear hN N hK K;refine ag (λwx he=> ?_);replace hS:=up (hS.out.af he);clear he;go_wp2;go_ret;exact⟨rfl,hS.out⟩
 replace hy:=up (by have:=hy.out;rw[if_neg hrep]at this;exact this);refine bQ (λa' w'=>Lu (.pointer (some ⟨E.x,0,none⟩)) (.int .i64 p) (.int .u8 c.toNat) (.int .u8 c.toNat) (.bool false) a'/\l9 E F w w' (p+1)) ?_ ?_
 .refine ag (λwa he=> ?_);replace I8:=up (I8.out.af he);have e1:(c.toNat:Int)≠42:=nO (b:=42) rfl λh=>hrep (.inl h)
  have e2:(c.toNat:Int)≠43:=nO (b:=43) rfl λh=>hrep (.inr (.inl h))
  have e3:(c.toNat:Int)≠63:=nO (b:=63) rfl λh=>hrep (.inr (.inr (.inl h)))
  have e4:(c.toNat:Int)≠123:=nO (b:=123) rfl λh=>hrep (.inr (.inr (.inr h)))
  clear he h7 hrep;go_wp2;refine⟨⟨rfl,rfl,rfl,rfl,rfl,rfl,?_⟩,I8.out⟩;show Tj _=_;simp[e4]
 intro a wa ⟨h0,hI⟩;clear I8 hrep;have I8:=up hI;clear hI;obtain⟨u,rfl⟩:=h0.out;refine bK rfl ?_;by_cases h9:c=91
 .subst h9;replace hy:=up (by have:=hy.out;rw[if_pos rfl]at this;exact this);refine ac (λK hK=> ?_);refine ag (λwb he=> ?_);replace I8:=up (I8.out.af he);clear he h7;go_wp2;refine hK.out _ _ ?_;clear hK K;refine bG rfl ?_;have hk:=up (λ(u:AS)(hu:SB E u (p+1) F)=>OD (T:=T) p hs (by omega) hu hF hfl hy.out);refine ac (λK hK=> ?_);refine ao ?_;show aV _ _ _ (AT 0 (2+2)) _ _;refine aW 0 2 2 (λN hN wd he=> ?_) (by decide);simp only[zq1];have I9:=up (I8.out.af he);clear he I8;go_wp2;refine hN.out _ _ ?_;clear hN N;refine bF (f:=134) (i:=2) (rest:=AT 3 (1+0)) rfl rfl (λu=>by simp[go_sem]) trivial (hk.out _ I9.out.sb) (λu wz hr=> ?_) (λch wz hr=>by cases hr.1);obtain⟨h1,hr⟩:=hr;cases h1;have hS:=up (hr.Li I9.out.kp);clear hr;simp only[SC,zq0];refine aW 3 1 0 (λN hN wy he=> ?_) (by decide);simp only[zq1];replace hS:=up (hS.out.af he);clear he;go_wp2;refine hN.out _ _ (az (hK.out _ _ ?_));clear hN N hK K;refine ag λwx he=> ?_
  replace hS:=up (hS.out.af he);clear he;go_wp2;go_ret;exact⟨rfl,hS.out⟩
 replace hy:=up (by have:=hy.out;rw[if_neg h9]at this;exact this);refine ac λK hK=> ?_
 refine ag λwb he=> ?_
 replace I8:=up (I8.out.af he);have e1:(c.toNat:Int)≠91:=nO (b:=91) rfl h9;clear he h7 h9;go_wp2;refine hK.out _ _ ?_;clear hK K;refine bK (by simp[If,e1]) ?_;clear e1;by_cases ha:c=46
 .subst ha;replace hy:=up (by have:=hy.out;rw[if_pos rfl]at this;exact this);refine ac λK hK=> ?_
  refine ag λwc he=> ?_
  replace I8:=up (I8.out.af he);clear he;go_wp2;refine hK.out _ _ ?_;clear hK K;refine bG rfl ?_;have hy:=hy.out;refine hD.out p (.int .u8 ((46:UInt8).toNat:Int)) _ _ (p+1) y _ ?_ I8.out.sb I8.out.kp (Option.some.inj hy).symm λa w' h=>h
  exact⟨rfl,rfl,rfl,rfl,rfl⟩
 replace hy:=up (by have:=hy.out;rw[if_neg ha]at this;exact this);refine ac λK hK=> ?_
 refine ag λwc he=> ?_
 replace I8:=up (I8.out.af he);have e1:(c.toNat:Int)≠46:=nO (b:=46) rfl ha;clear he ha;go_wp2;refine hK.out _ _ ?_;clear hK K;refine bK (by simp[If,e1]) ?_;clear e1;by_cases hf:c=92
 .subst hf;replace hy:=up (by have:=hy.out;rw[if_pos rfl]at this;exact this);refine ac λK hK=> ?_
  refine ag λwd he=> ?_
  replace I8:=up (I8.out.af he);clear he;go_wp2;refine hK.out _ _ ?_;clear hK K;refine bG rfl ?_;refine ac λK2 hK2=> ?_
  refine ac λK hK=> ?_
  refine ag λw2 he=> ?_
  replace I8:=up (I8.out.af he);have c0:w2.cell? ⟨E.x,0,none⟩=some (.string E.s):=I8.out.sb.blk.cell 0;have c1:w2.cell? ⟨E.x,1,none⟩=some (.int .i64 ((p+1:Nat):Int)):=I8.out.sb.blk.cell 1;obtain⟨p1,h2⟩:∃p1,p1=p+1:=⟨_,rfl⟩;rw[<- h2]at c1;replace h2:=up h2;clear he;go_quiet (fail)
  refine hK.out _ _ ?_;clear hK K c0 c1;replace I8:=up (I8.out.af (w':=w2.drewN nq) rfl);generalize w2.drewN nq=w3 at *;rw[<- h2.out]at I8 hy;have hp1s:p1<=E.s.size:=by have:=h2.out;omega
  by_cases hpe:p1=E.s.size
  .have hd:E.l.drop p1=[]:=T8 (by rw[hEl,hpe];exact By _);have hpe':(p1:Int)=(E.s.size:Int):=by omega
   have hy':y=ez 2 p p1:=by
    have h8:=hy.out;rw[hd]at h8;rw[(Option.some.inj h8).symm,h2.out]
   subst hy';refine bG (by simp[If,hpe']) ?_;clear hd hpe hpe';refine ac λK hK=> ?_
   refine ao ?_;show aV _ _ _ (AT 0 (2+2)) _ _;refine aW 0 2 2 (λN hN wb he=> ?_) (by decide);simp only[zq1];have I9:=up (I8.out.af he);clear he I8;go_wp2;refine hN.out _ _ ?_;clear hN N;refine bF (f:=138) (i:=2) (rest:=AT 3 (1+0)) rfl rfl λu=>by simp[go_sem] trivial (nF 2 p I9.out.sb hF) (λu wz hr=> ?_) λch wz hr=>by cases hr.1
   obtain⟨h1,hr⟩:=hr;cases h1;have hS:=up (hr.from I9.out.kp);clear hr;simp only[SC,zq0];refine aW 3 1 0 (λN hN wy he=> ?_) (by decide);simp only[zq1];replace hS:=up (hS.out.af he);clear he;go_wp2;refine hN.out _ _ (az (hK.out _ _ ?_));clear hN N hK K;refine ag λwx he=> ?_
   replace hS:=up (hS.out.af he);clear he;go_wp2;go_ret;exact⟨rfl,hS.out⟩
  have hlt1:p1<E.s.size:=by omega
  have hd:E.l.drop p1=E.s[p1]::E.l.drop (p1+1):=drop_at E.s p1 hlt1;have hy:=hy.out;rw[hd]at hy;dsimp only at hy;have hpe':¬ (p1:Int)=(E.s.size:Int):=by omega
  refine bK (by simp[If,hpe']) (fS ?_);refine hK2.out _ _ ?_;clear hK2 K2 hpe hpe' hd;have hp2:(p1:Int)<(E.s.size:Int):=by omega
  have hi:=E.s[p1].toNat_lt;generalize hdd:E.s[p1]=d at hy hi;replace hy:=up hy;refine bQ (λa' w'=>xk (.pointer (some ⟨E.x,0,none⟩)) (.int .i64 p) (.int .u8 d.toNat) a'/\l9 E F w w' p1) ?_ ?_
  .refine ag λw5 he=> ?_
   replace I8:=up (I8.out.af he);have c0:w5.cell? ⟨E.x,0,none⟩=some (.string E.s):=I8.out.sb.blk.cell 0;have c1:w5.cell? ⟨E.x,1,none⟩=some (.int .i64 p1):=I8.out.sb.blk.cell 1;clear he;subst hdd;go_quiet (fail)
   refine⟨?_,I8.out.af (w':=w5.drewN nq) rfl⟩;exact⟨rfl,rfl,rfl,rfl,rfl⟩
  intro a w5 ⟨h0,hI⟩;clear I8;have I8:=up hI;clear hI;obtain⟨u,rfl⟩:=h0.out;replace hdd:=up hdd;have hw1:IntKind.i64.wrap ((p1:Int)+1)=((p1+1:Nat):Int):=by rw[IN];omega
  refine bQ (λa' w'=>xk (.pointer (some ⟨E.x,0,none⟩)) (.int .i64 p) (.int .u8 d.toNat) a'/\l9 E F w w' (p1+1)) ?_ ?_
  .refine ag λw6 he=> ?_
   replace I8:=up (I8.out.af he);have c1:w6.cell? ⟨E.x,1,none⟩=some (.int .i64 p1):=I8.out.sb.blk.cell 1;have f1:∀i,w6.frozen? ⟨E.x,i,none⟩=false:=I8.out.sb.blk.frozen;clear he;go_wp2;refine⟨?_,I8.out.move (q:=p1+1)⟩;exact⟨rfl,rfl,rfl,rfl,rfl⟩
  intro a w6 ⟨h0,hI⟩;clear I8 hw1;have I8:=up hI;clear hI;obtain⟨u,rfl⟩:=h0.out;refine ac λK2 hK2=> ?_
  by_cases h3:49<=d.toNat/\d.toNat<=57
  .have hy':y=ez 3 p (p1+1):=by
    have h8:=hy.out;rw[if_pos h3]at h8;rw[(Option.some.inj h8).symm,h2.out]
   subst hy';have e1:(49:Int)<=(d.toNat:Int):=by omega
   have e2:(d.toNat:Int)<=57:=by omega
   refine ac λK hK=> ?_
   refine ag λw7 he=> ?_
   replace I8:=up (I8.out.af he);clear he h3;go_wp2;refine hK.out _ _ ?_;clear hK K;refine bG (by simp[If,e1,e2]) ?_;refine ac λK hK=> ?_
   refine ao ?_;show aV _ _ _ (AT 0 (2+2)) _ _;refine aW 0 2 2 (λN hN wb he=> ?_) (by decide);simp only[zq1];have I9:=up (I8.out.af he);clear he I8;go_wp2;refine hN.out _ _ ?_;clear hN N;refine bF (f:=138) (i:=2) (rest:=AT 3 (1+0)) rfl rfl λu=>by simp[go_sem] trivial (nF 3 p I9.out.sb hF) (λu wz hr=> ?_) λch wz hr=>by cases hr.1
   obtain⟨h1,hr⟩:=hr;cases h1;have hS:=up (hr.from I9.out.kp);clear hr;simp only[SC,zq0];refine aW 3 1 0 (λN hN wy he=> ?_) (by decide);simp only[zq1];replace hS:=up (hS.out.af he);clear he;go_wp2;refine hN.out _ _ (az (hK.out _ _ ?_));clear hN N hK K;refine ag λwx he=> ?_
   replace hS:=up (hS.out.af he);clear he;go_wp2;go_ret;exact⟨rfl,hS.out⟩
  replace hy:=up (by have:=hy.out;rw[if_neg h3]at this;exact this);refine bQ (λa' w'=>Oh (.pointer (some ⟨E.x,0,none⟩)) (.int .i64 p) (.int .u8 d.toNat) (.bool false) a'/\l9 E F w w' (p1+1)) ?_ ?_
  .refine ag λw7 he=> ?_
   replace I8:=up (I8.out.af he);by_cases h4:49<=d.toNat
   .have e1:(49:Int)<=(d.toNat:Int):=by omega
    have e2:¬ (d.toNat:Int)<=57:=by omega
    clear he h3;go_wp2;refine⟨⟨rfl,rfl,rfl,rfl,rfl,?_⟩,I8.out⟩;show Tj _=_;simp[e1,e2]
   .have e1:¬ (49:Int)<=(d.toNat:Int):=by omega
    clear he h3;go_wp2;refine⟨⟨rfl,rfl,rfl,rfl,rfl,?_⟩,I8.out⟩;show Tj _=_;simp[e1]
  intro a w7 ⟨h0,hI⟩;clear I8;have I8:=up hI;clear hI;obtain⟨u,rfl⟩:=h0.out;refine bK rfl (fS ?_);refine hK2.out _ _ ?_;clear hK2 K2 h3;have hg:∀(w:AS),Calls PB 139 #[.string ⟨#[40,41,91,46,94,36,92,124,42,43,63,123,93,125]⟩,.int .u8 d.toNat] w λe w'=>e= .returned (.int .i64 (Sw Km d))/\w'=w:=λw=>by
   have:=xW ⟨#[40,41,91,46,94,36,92,124,42,43,63,123,93,125]⟩ d.toNat w;rw[show d.toNat.toUInt8=d from by simp]at this;exact this
  replace hg:=up hg;generalize hl:Sw Km d=ix at *;refine ac λK hK=> ?_
  refine ag λw8 he=> ?_
  replace I8:=up (I8.out.af he);clear he hl;go_wp2_with (first |(go_at_call 139;refine(hg.out _).mono ?_;rintro e w' ⟨rfl,rfl⟩)|fail)
  refine hK.out _ _ ?_;clear hK K hg;have hy:=hy.out;by_cases h5:ix<0
  .have hy':y=ez 2 p (p1+1):=by
    rw[if_pos h5]at hy;rw[(Option.some.inj hy).symm,h2.out]
   subst hy';refine bG (by simp[If,h5]) ?_;refine ac λK hK=> ?_
   refine ao ?_;show aV _ _ _ (AT 0 (2+2)) _ _;refine aW 0 2 2 (λN hN wb he=> ?_) (by decide);simp only[zq1];have I9:=up (I8.out.af he);clear he I8;go_wp2;refine hN.out _ _ ?_;clear hN N;refine bF (f:=138) (i:=2) (rest:=AT 3 (1+0)) rfl rfl λu=>by simp[go_sem] trivial (nF 2 p I9.out.sb hF) (λu wz hr=> ?_) λch wz hr=>by cases hr.1
   obtain⟨h1,hr⟩:=hr;cases h1;have hS:=up (hr.from I9.out.kp);clear hr;simp only[SC,zq0];refine aW 3 1 0 (λN hN wy he=> ?_) (by decide);simp only[zq1];replace hS:=up (hS.out.af he);clear he;go_wp2;refine hN.out _ _ (az (hK.out _ _ ?_));clear hN N hK K;refine ag λwx he=> ?_
   replace hS:=up (hS.out.af he);clear he;go_wp2;go_ret;exact⟨rfl,hS.out⟩
  rw[if_neg h5]at hy;refine bK (by simp[If];omega) (fS ?_);refine hK1.out _ _ ?_;refine hT.out p d.toNat _ _ (p1+1) y _ hi ?_ I8.out.sb I8.out.kp ?_ λa w' h=>h
  .exact⟨rfl,rfl,rfl,rfl,rfl⟩
  .rw[(Option.some.inj hy).symm,h2.out]
 replace hy:=up (by have:=hy.out;rw[if_neg hf]at this;exact this);refine ac λK hK=> ?_
 refine ag λwd he=> ?_
 replace I8:=up (I8.out.af he);have e1:(c.toNat:Int)≠92:=nO (b:=92) rfl hf;clear he hf;go_wp2;refine hK.out _ _ ?_;clear hK K;refine bK (by simp[If,e1]) (fS ?_);clear e1;refine hK1.out _ _ ?_;have hy:=hy.out;refine hT.out p c.toNat _ _ (p+1) y _ hc8 ?_ I8.out.sb I8.out.kp (Option.some.inj hy).symm λa w' h=>h
 exact⟨rfl,rfl,rfl,rfl,rfl⟩
theorem Ny{E F w y p}(hs:E.s.size<=1000)(hF:F.size<E.cap)(hfl:E.fl<256)(h0:p<=E.s.size)(h:SB E w p F)(hy:eB E.ln E.fold E.l p=some y):
 cb (aH T) 116 #[.pointer (some ⟨E.x,0,none⟩)] w (rC E F w y):=
 bu trivial (λw' h=>nomatch h.1) (PB.func Tryz.func116 (by decide)) rfl (Hg rfl hs hF hfl h0 h hy rfl)
theorem zU{t}(h:t.bad=false)(e e'):Tok.val e t=Tok.val e' t:=by
 simp_all[Tok.val,gH]
structure nE(E:eK)(ob xb:Nat)(w:AS):Prop where
 o:w.cell? ⟨ob,0,none⟩=some (.chan (some E.r))
 x:w.cell? ⟨xb,0,none⟩=some (.pointer (some ⟨E.x,0,none⟩))
theorem nE.af{E ob xb w w'}(h:nE E ob xb w)(he:w'.heap=w.heap):nE E ob xb w':=⟨by simp[Sy,he];exact h.o,by simp[Sy,he];exact h.x⟩
theorem cell_lt{w:AS}{b i v}(h:w.cell? ⟨b,i,none⟩=some v):b<w.heap.size:=by
 rcases SN b w.heap.size with hlt|hge
 .exact hlt
 simp_all[Sy]
theorem nE.kp{E ob xb w w'}(h:nE E ob xb w){X}(hk:Kp w.heap.size X w w')(ho:ob∉X)(hx:xb∉X):nE E ob xb w':=
 ⟨(iq (hk.2 _ (cell_lt h.o) ho) 0).trans h.o,(iq (hk.2 _ (cell_lt h.x) hx) 0).trans h.x⟩
def PE(ats:Array TypeId)(ty:TypeId)(cs:Array Bool)(r:Nat):Deferred:= {target:=.builtin .close ats ty cs,args:=#[.chan (some r)]}
def Lq(E:eK)(ob xb:Nat)(a:Act):Prop:=∃u2 u3 u4 ats ty cs,a= {tmps:=#[.pointer (some ⟨ob,0,none⟩),.pointer (some ⟨xb,0,none⟩),u2,u3,u4],defers:=[PE ats ty cs E.r]}
structure Lp(E:eK)(ob xb:Nat)(all:List Tok)(wr:Option (Int×Int))(w0:AS)(n:Nat)(w:AS):Prop where
 box:nE E ob xb w
 kp:Kp w0.heap.size [E.x,E.r] w0 w
 go:∃p F done rest,SB E w p F/\p<=E.s.size/\F.size+n<=E.cap/\F.toList=done.map (Tok.val 0)/\(∀t∈done,t.bad=false)/\ew E.ln E.fold E.l n p=some (rest,wr)/\all=done++rest
structure Lr(E:eK)(all:List Tok)(wr:Option (Int×Int))(w0:AS)(w:AS):Prop where
 kp:Kp w0.heap.size [E.x,E.r] w0 w
 go:∃p F e,SB E w p F/\F.toList=all.map (Tok.val e)/\∀q,wr=some q->a7 w e 137 #[.int .i64 q.2,.int .i64 q.1]/\w0.heap.size<=e
theorem Gd{E ob xb all wr w}(hs:E.s.size<=1000)(hcap:E.s.size+1<=E.cap)(hfl:E.fl<256)(h:SB E w 0 #[])(hb:nE E ob xb w)(ho:ob∉[E.x,E.r])(hx:xb∉[E.x,E.r])
 (hall:ew E.ln E.fold E.l (E.l.length+1) 0=some (all,wr)) {c} (hc:(Tryz.f115).body=some c):
 cL (aH T) c (λe a w'=>e= .normal/\Lq E ob xb a/\Lr E all wr w w') {tmps:=#[.pointer (some ⟨ob,0,none⟩),.pointer (some ⟨xb,0,none⟩)]++T5 (5-2) undef,defers:=[]} w:=by
 cases hc;have hEl:E.l.length=E.s.size:=by rfl
 simp only[SD,SH,SF,SR,SQ,No,Sv,SI,SE,SL,SK];have I0:Lp E ob xb all wr w (E.l.length+1) w:=⟨hb,Kp.refl w,0,#[],[],all,h,T3 _,by rw[hEl];grind,rfl,(λt h=>by cases h),hall,rfl⟩;clear h hb hall;refine bQ (λa w'=>Lq E ob xb a/\Lp E ob xb all wr w (E.l.length+1) w') ?_ ?_
 .refine ag λw1 he=> ?_
  have hI1:Lp E ob xb all wr w (E.l.length+1) w1:=by
   obtain⟨p,F,d,r,h1,h2⟩:=I0.go;exact⟨I0.box.af he,I0.kp.af he,p,F,d,r,h1.af he,h2⟩
  have c0:w1.cell? ⟨ob,0,none⟩=some (.chan (some E.r)):=hI1.box.o;replace hI1:=up hI1;clear I0 he;go_wp2;exact⟨⟨_,_,_,_,_,_,rfl⟩,hI1.out⟩
 .intro a w1 ⟨h8,hI⟩;refine ec ?_;refine m9 (λn a w'=>Lq E ob xb a/\Lp E ob xb all wr w n w') (E.l.length+1) ⟨h8,hI⟩ ?_;clear I0 h8 hI;rintro n a w2 ⟨⟨u2,u3,u4,ats,ty,cs,rfl⟩,hI⟩;obtain⟨p,F,done,rest,hB,hp,hF,h5,h0,hsc,hal⟩:=hI.go;cases n with
  |zero=>cases hsc
  |succ n=>
  unfold ew at hsc;obtain⟨y,hy,hp1,hp2,hp3,hok⟩:=ib E.ln E.fold E.l p (by rw[hEl];omega);rw[hy]at hsc;dsimp only at hsc;have h3:=up hI.box;have h4:=up hI.kp;clear hI;refine ac λK hK=> ?_
  refine ac λK2 hK2=> ?_
  refine ao ?_;show aV _ _ _ (AT 0 (1+1)) _ _;refine aW 0 1 1 (λN hN w3 he=> ?_) (by decide);simp only[zq1];replace hB:=up (hB.af he);replace h3:=up (h3.out.af he);replace h4:=up (h4.out.af he);have c1:w3.cell? ⟨xb,0,none⟩=some (.pointer (some ⟨E.x,0,none⟩)):=h3.out.x;replace hsc:=up hsc;replace hal:=up hal;replace h5:=up h5;replace h0:=up h0;clear he;go_wp2;refine hN.out _ _ ?_;clear hN N c1;refine bF (f:=116) (i:=1) (rest:=[]) rfl rfl λu=>by simp[go_sem] trivial (Ny hs (by omega) hfl hp hB.out hy) (λu we hr=> ?_) λch we hr=>by cases hr.1
  obtain⟨hg,e,h9,ha,hd⟩:=hr;cases hg;refine az (hK2.out _ _ ?_);simp only[SC,zq0];clear hK2 K2;have h7:=h3.out.kp hd ho hx;have h6:Kp w.heap.size [E.x,E.r] w we:=h4.out.trans (hd.mono h4.out.1 λx hx _=>hx);cases hm:y.more with
  |true=>
   have hsc2:=hsc.out;rw[if_pos hm,OF]at hsc2;obtain⟨⟨ts,wr'⟩,hf,heq⟩:=hsc2;obtain⟨rfl,rfl⟩:=heq;have hh:y.t.bad=false:=by rw[hok.bad,hok.wrn hm];rfl
   refine bG (by simp[If]) (fS ?_);refine hK.out _ _ ?_;refine ec (fS ?_);refine⟨n,Ty n,⟨_,_,_,_,_,_,rfl⟩,h7,h6,y.p,F.push (Tok.val e y.t),done++[y.t],ts,h9,by omega,by grind,?_,λt ht=> ?_,hf,by rw[hal.out];simp⟩
   .rw[Tx,h5.out,List.map_append,zU hh e 0];rfl
   .rcases List.mem_append.1 ht with ht|ht
    .exact h0.out t ht
    grind
  |false=>
   rw[if_neg (by rw[hm];simp)]at hsc;obtain⟨rfl,rfl⟩:=hsc;refine bK (by simp[If]) (J0 ?_);refine⟨rfl,⟨_,_,_,_,_,_,rfl⟩,h6,y.p,F.push (Tok.val e y.t),e,h9,?_,λq hq=>⟨(ha q hq).1,SW h4.out.1 (ha q hq).2⟩⟩;rw[Tx,h5.out,hal.out,List.map_append];congr 1
   exact List.map_congr_left λt ht=>zU (h0.out t ht) 0 e
def BV:T9:= {(default:T9)with fn:=115,kind:=.deferred}
noncomputable def kZ:T9:= {(default:T9)with fn:=Tryz.prog.funcs.size,mode:=.panicking [goexitEntry]}
def rX(E:eK)(ob xb:Nat)(all:List Tok)(wr:Option (Int×Int))(D0:T9)(w0:AS)(g:Tv)(w:AS):Prop:=
 ∃a,g=bO {BV.at a []with mode:=.returning} [kZ,D0]/\Lq E ob xb a/\Lr E all wr w0 w
theorem Gc{E ob xb all wr w D0}(hs:E.s.size<=1000)(h0:E.s.size+1<=E.cap)(hfl:E.fl<256)(h:SB E w 0 #[])(hb:nE E ob xb w)(ho:ob∉[E.x,E.r])(hx:xb∉[E.x,E.r])
 (hall:ew E.ln E.fold E.l (E.l.length+1) 0=some (all,wr)):
 (aH T).H (rX E ob xb all wr D0 w) (bO {kZ with defers:=[{target:=.fn (.func 115) #[.pointer (some ⟨ob,0,none⟩),.pointer (some ⟨xb,0,none⟩)],args:=#[]}]} [D0]) w:=by
 obtain⟨c,hc⟩:∃c,(Tryz.f115).body=some c:=⟨_,rfl⟩;have hent:T4 PB 115 #[.pointer (some ⟨ob,0,none⟩),.pointer (some ⟨xb,0,none⟩)] .deferred=BV.at {tmps:=#[.pointer (some ⟨ob,0,none⟩),.pointer (some ⟨xb,0,none⟩)]++T5 (5-2) undef,defers:=[]} [.code c]:=by
  have hf:=PB.func Tryz.func115 (by decide);simp_all[T4,Frame.at,BV]
 refine(aH T).one (fr':=T4 PB 115 #[.pointer (some ⟨ob,0,none⟩),.pointer (some ⟨xb,0,none⟩)] .deferred) (cs':=kZ::[D0]) (λu=>step_defer (by simp[kZ]) rfl rfl ?_) trivial ?_
 .exact a8 (PB.func Tryz.func115 (by decide)) (by kernel_rfl) rfl _ u
 rw[hent];refine(@Gd T E ob xb all wr w hs h0 hfl h hb ho hx hall c hc) BV [] [kZ,D0] _ trivial (by simp[BV]) λe a' w' hq=> ?_
 obtain⟨rfl,h1,h2⟩:=hq;exact(aH T).one (λu=>step_end) trivial ((aH T).stop _ _ _ ⟨a',rfl,h1,h2⟩)
end
section
open Go.RowKit Go.Conc
attribute [local instance] fI
theorem ru(w τ d a):(ah w τ d).cell? a=w.cell? a:=rfl
theorem wQ(w τ d a):(ah w τ d).frozen? a=w.frozen? a:=rfl
theorem ky(w τ d o):(ah w τ d).alloc o=ah (w.alloc o) τ d:=rfl
theorem uk(w τ d a v):(ah w τ d).setCell a v=ah (w.setCell a v) τ d:=rfl
theorem lz(w τ d):(ah w τ d).heap=w.heap:=rfl
theorem uV{P}{f:Nat}{fn c}(hf:P.funcs[f]?=some fn)(hb:fn.body=some c)(args):Hu P (x5 f args):=by
 refine⟨?_⟩;show ia P 0 (match P.funcs[f]? with |none=>_|some fn=>_);simp only[hf,hb];exact(js zq2 zq2:Hu P (if(fn.name== "runtime.NumGoroutine")=true then pure Next.numGoroutine else pure (.enter f args))).hu
theorem GQ{P}{f:Nat}{fn c}(hf:P.funcs[f]?=some fn)(hb:fn.body=some c)(hn:(fn.name== "runtime.NumGoroutine")=false)(args w):(x5 f args).run P w= .ok (.enter f args) w:=by
 simp_all[x5]
def Lt(v14 v15:BY)(a:Act):Prop:=a.defers=[]/\a.tmps.size=29/\a.tmps.getD 14 undef=v14/\a.tmps.getD 15 undef=v15
theorem Lt.out{v14 v15 a}(h:Lt v14 v15 a):∃u:Nat->BY,a= {tmps:=(u 0::u 1::u 2::u 3::u 4::u 5::u 6::u 7::u 8::u 9::u 10::u 11::u 12::u 13::v14::v15::u 16::u 17::u 18::u 19::u 20::u 21::u 22::u 23::u 24::u 25::u 26::u 27::u 28::[]).toArray,defers:=[]}:=by
 obtain⟨hd,hn,rfl,rfl⟩:=h;obtain⟨ts,ds⟩:=a;subst hd;exact⟨λi=>ts.getD i undef,congrArg (λt=>({tmps:=t,defers:=[]}:Act)) (dp 29 ts hn)⟩
section
variable(w:AS)(s:ByteArray)(fl:Nat)(fold:Bool)
def yM:AS:=w.alloc (.chan 0 #[] false 0 0 false)
def Bp:AS:=(yM w).alloc (.cells #[.chan none] 239)
def ov:AS:=(Bp w).setCell ⟨w.heap.size+1,0,none⟩ (.chan (some w.heap.size))
def DU:AS:=(ov w).alloc (.cells (iR s 0 fl w.heap.size fold) 243)
def HO:AS:=(DU w s fl fold).alloc (.cells #[.pointer none] 240)
def fq:AS:=(HO w s fl fold).setCell ⟨w.heap.size+3,0,none⟩ (.pointer (some ⟨w.heap.size+2,0,none⟩))
end
def goT(n:Nat)(s:ByteArray)(fl:Nat):Act:= {tmps:=#[.string s,.int .u8 fl,undef,undef,.chan none,vp (n+1),vp (n+3),.chan (some n),.string s,.int .u8 fl,.chan (some n),.int .u8 fl,.int .u8 ((fl%2:Nat):Int),.bool (decide (fl%2=1)),.agg (iR s 0 fl n (decide (fl%2=1))),vp (n+2),.func (.func 115) #[] #[vp (n+1),vp (n+3)],undef],defers:=[]}
theorem NO(n s fl):IK (vp (n+1)) (goT n s fl):=⟨rfl,rfl,rfl⟩
theorem and_one{fl:Nat}(h:fl<256):bits .and .u8 (fl:Int) 1=(fl:Int)%2:=by
 rw[Dr fl h];split <;>omega
theorem Ge{R t0 t1 t2 t4 t5 p0 p1 p4 iT iP opsT opsP kP cs w aP s}{fl:Nat}
 (hP:(Tryz.f53).body=some (.seq p0 (.seq p1 (.seq (.region iP opsP false) p4)))) (h0:Lt (.string s) (.int .u8 fl) aP) (hfl:fl<256)
 (hT:(Tryz.f91).body=some (.seq t0 (.seq t1 (.seq t2 (.seq (.region iT opsT false) (.seq t4 t5))))))
 (H:∀gs sl q τ d t k,k≠0->di Tryz.prog k (G (pu.at (goT w.heap.size s fl) (.inRegion opsT []::[.code (.seq t4 t5)])) (gw.at aP (.inRegion opsP [2,3,4,5,6]::kP)::cs))
  (born Tryz.prog {target:=.fn (.func 115) #[vp (w.heap.size+1),vp (w.heap.size+3)],args:=#[]}) gs q t->PT k (λ_=>False) (λ_=>False) t->Runs Tryz.prog (crowd gs (ah (fq w s fl (decide (fl%2=1))) τ d) sl) t R):
 ca Tryz.prog R (G (gw.at aP (.inRegion opsP [2,3,4,5,6]::kP)) cs) w:=by
 intro m t hF;cases hP;obtain⟨u,rfl⟩:=h0.out;refine hF.enter (f:=91) (args:=#[.string s,.int .u8 fl]) rfl (by rfl) (by simp[gw]) ?_ Tryz.func91 hT (λτ d=> ?_) ?_
 .show Hu Tryz.prog (x5 91 _);exact uV Tryz.func91 hT _
 .have:=GQ Tryz.func91 hT (by kernel_rfl) #[.string s,.int .u8 fl] (ah w τ d);simp[SP,go_sem,If,this]
 show ca Tryz.prog R _ _;clear hF;generalize gw.at _ _::cs=cs2 at H ⊢;cases hT;rw[show(Tryz.f91).ntmps=18 from Tryz.ntmps91];simp only[SD,SH,SF,SR,SQ,No,Sv,SI,SE,SL,SK];refine ca.ctl (λw=>stepG_seq) rfl ?_;refine ca.ctl (λw=>stepG_region) rfl ?_;refine ca.value (v:=.chan none) w rfl rfl (by simp[base]) (λc h=>by cases h) λτ d=>by rfl ?_
 walk_nrm
 refine ca.ctl (λw=>stepG_region_end) rfl ?_;refine ca.ctl (λw=>stepG_seq) rfl ?_;refine ca.ctl (λw=>stepG_region) rfl ?_;refine ca.value (v:=.chan (some w.heap.size)) (yM w) rfl rfl (by simp[base]) (λc h=>by cases h) (λτ d=> ?_) ?_
 .obtain⟨i,hi⟩:∃i,Tryz.prog.info? 195=some i:=⟨_,rfl⟩;have:=run_makeChan (P:=Tryz.prog) (w:=ah w τ d) (t:=239) (dir:=.both) (e:=195) (i:=i) (by kernel_rfl) hi .i64 0 (by decide) (by simp);simp[SP,go_sem,If];rw[show Value.int IntKind.i64 0= .int .i64 ((0:Nat):Int)from rfl,this];simp[yM,ky,lz]
 walk_nrm
 refine ca.value (v:=.pointer (some ⟨w.heap.size+1,0,none⟩)) (Bp w) rfl rfl (by simp[base]) (λc h=>by cases h) (λτ d=> ?_) ?_
 .simp[SP,go_sem,If,Bp,yM,ky,lz]
 walk_nrm
 refine ca.none (ov w) rfl rfl (by simp[base]) (λc h=>by cases h) (λτ d=> ?_) ?_
 .simp[SP,go_sem,If,ov,Bp,yM,ru,wQ,ky,lz,uk]
 walk_nrm
 have c1:(ov w).cell? ⟨w.heap.size+1,0,none⟩=some (.chan (some w.heap.size)):=by
  simp[ov,Bp,yM,go_sem]
 have z3:(ov w).heap.size=w.heap.size+2:=by simp[ov,Bp,yM]
 refine ca.ctl (λw=>stepG_region_end) rfl ?_;refine ca.ctl (λw=>stepG_seq) rfl ?_;refine ca.ctl (λw=>stepG_region) rfl ?_;refine ca.value (v:=.string s) (ov w) rfl rfl (by simp[base]) (λc h=>by cases h) λτ d=>by rfl ?_
 walk_nrm
 refine ca.value (v:=.int .u8 fl) (ov w) rfl rfl (by simp[base]) (λc h=>by cases h) λτ d=>by rfl ?_
 walk_nrm
 refine ca.value (v:=.chan (some w.heap.size)) (ov w) rfl rfl (by simp[base]) (λc h=>by cases h) (λτ d=> ?_) ?_
 .simp[SP,go_sem,If,ru,c1]
 walk_nrm
 refine ca.value (v:=.int .u8 fl) (ov w) rfl rfl (by simp[base]) (λc h=>by cases h) λτ d=>by rfl ?_
 walk_nrm
 refine ca.value (v:=.int .u8 ((fl%2:Nat):Int)) (ov w) rfl rfl (by simp[base]) (λc h=>by cases h) (λτ d=> ?_) ?_
 .simp[SP,go_sem,If];exact and_one hfl
 walk_nrm
 refine ca.value (v:=.bool (decide (fl%2=1))) (ov w) rfl rfl (by simp[base]) (λc h=>by cases h) (λτ d=> ?_) ?_
 .simp[SP,go_sem,If];rcases Nat.mod_two_eq_zero_or_one fl with h|h
  .have:(fl:Int)%2=0:=by omega
   simp[h,this]
  .have:(fl:Int)%2=1:=by omega
   simp[h,this]
 walk_nrm
 refine ca.value (v:=.agg (iR s 0 fl w.heap.size (decide (fl%2=1)))) (ov w) rfl rfl (by simp[base]) (λc h=>by cases h) (λτ d=> ?_) ?_
 .simp[SP,go_sem,If];simp[iR]
 walk_nrm
 refine ca.value (v:=.pointer (some ⟨w.heap.size+2,0,none⟩)) (DU w s fl (decide (fl%2=1))) rfl rfl (by simp[base]) (λc h=>by cases h) (λτ d=> ?_) ?_
 .simp[SP,go_sem,If,DU,ky,lz,z3]
 walk_nrm
 refine ca.value (v:=.pointer (some ⟨w.heap.size+3,0,none⟩)) (HO w s fl (decide (fl%2=1))) rfl rfl (by simp[base]) (λc h=>by cases h) (λτ d=> ?_) ?_
 .simp[SP,go_sem,If,HO,DU,ky,lz,z3]
 walk_nrm
 refine ca.none (fq w s fl (decide (fl%2=1))) rfl rfl (by simp[base]) (λc h=>by cases h) (λτ d=> ?_) ?_
 .simp[SP,go_sem,If,fq,HO,DU,ru,wQ,ky,lz,uk,z3]
 walk_nrm
 refine ca.ctl (λw=>stepG_region_end) rfl ?_;refine ca.ctl (λw=>stepG_seq) rfl ?_;refine ca.ctl (λw=>stepG_region) rfl ?_;refine ca.value (v:=.func (.func 115) #[] #[.pointer (some ⟨w.heap.size+1,0,none⟩),.pointer (some ⟨w.heap.size+3,0,none⟩)]) (fq w s fl (decide (fl%2=1))) rfl rfl (by simp[base]) (λc h=>by cases h) (λτ d=> ?_) ?_
 .simp[SP,go_sem,If]
 walk_nrm
 refine ca.hire (d0:= {target:=.fn (.func 115) #[vp (w.heap.size+1),vp (w.heap.size+3)],args:=#[]}) rfl rfl (by simp[base]) (λτ d=> ?_) (λτ d=> ?_) rfl ?_
 .simp[SP,go_sem,If]
 .simp[SP,go_sem,If]
 walk_nrm
 exact H
end
section
open Go.RowKit Go.Conc
attribute [local instance] dJ
def DX:T9:= {(default:T9)with todo:=[.code (.refuse "")],defers:=[{target:=.fn (.func 0) #[],args:=#[]}]}
theorem Lh:∃fn,Tryz.prog.funcs[0]?=some fn:=by
 simp
theorem PD:m8 Tryz.prog bA DX:=by
 obtain⟨fn,hf⟩:=Lh;obtain⟨c,hc⟩:∃c,bA 0=some c:=⟨_,rfl⟩;obtain⟨why,rfl⟩:=fa _ _ _ hc;exact⟨⟨⟨_,rfl⟩,rfl⟩,0,fn,why,rfl,hc,hf⟩
theorem PC:m8 Tryz.prog bB DX:=by
 obtain⟨fn,hf⟩:=Lh;obtain⟨c,hc⟩:∃c,bB 0=some c:=⟨_,rfl⟩;obtain⟨why,rfl⟩:=fa _ _ _ hc;exact⟨⟨⟨_,rfl⟩,rfl⟩,0,fn,why,rfl,hc,hf⟩
theorem yO{Q β}(hβ:gS β){g}(h:qc Q β g):∃why,g.frame.todo=[.code (.refuse why)]:=by
 obtain⟨f,args,k,h0,h1,hst,hdy⟩:=h;obtain⟨c,hc⟩:=Tl.1 h1;obtain⟨why,rfl⟩:=hβ f c hc;simp[h0,T4];have hget:= @ft Q β f;grind [ax]
theorem OQ{E ops k D0 w0 x}:tn Tryz.prog bA (pG E ops k D0 w0 x) where
 run g w:=λ⟨a,PF,pb,h,_⟩=>by rw[h];rfl
 dep g w:=λ⟨a,PF,pb,h,_⟩=>by simp[h,bO]
 foul g w:=λ⟨a,PF,pb,h,_⟩ hf=>by
  obtain⟨why,hw⟩:=yO (fa _) hf;simp[h,bO,Frame.at]at hw
theorem OP{E ob xb all wr D0 w0}:tn Tryz.prog bB (rX E ob xb all wr D0 w0) where
 run g w:=λ⟨a,h,_⟩=>by rw[h];rfl
 dep g w:=λ⟨a,h,_⟩=>by simp[h,bO]
 foul g w:=λ⟨a,h,_⟩ hf=>by
  obtain⟨why,hw⟩:=yO (fa _) hf;simp[h,bO,Frame.at]at hw
theorem L0{q0 q1 q2 q3 cQ i iQ ops}(hc:(Tryz.f92).body=some (.seq (.seq q0 (.seq q1 q2)) (.seq q3 (.block i (.loop (.seq (.region iQ ops false) cQ))))))
 {E k D0 w0 x g w} (h:pG E ops k D0 w0 x g w):
 ∃z,∀m w2,stepG PA m g w2= .comm (bo g) #[{chan:=.chan (some E.r),send:=none,zero:=z}] true (.recv true) w2 #[]:=by
 cases hc;obtain⟨a,PF,pb,rfl,hq,_⟩:=h;obtain⟨u,rfl⟩:=hq.out;refine⟨.agg #[.int .i64 0,.int .i64 0,.int .u64 0,.int .u64 0,.int .u64 0,.int .u64 0,.int .i64 0,.int .i64 0,.pointer none],λm w2=> ?_⟩;rfl
theorem KH{E ob xb all wr D0 w0 g w}(h:rX E ob xb all wr D0 w0 g w):AtClose g:=by
 obtain⟨a,rfl,⟨u2,u3,u4,ats,ty,cs,rfl⟩,_⟩:=h;exact⟨nofun,_,[],ats,ty,cs,E.r,rfl,rfl,rfl⟩
theorem Ju(σ τ){t}(h:t.bad=false)(e e'):ab σ (Tok.val e t)=ab τ (Tok.val e' t):=by
 simp_all[Tok.val,gH]
theorem M4(σ τ){t}(h:t.bad=true){e e'}(he:σ e=τ e'):ab σ (Tok.val e t)=ab τ (Tok.val e' t):=by
 simp_all[bi,Tok.val,gH]
theorem DE(σ τ){t}(h:t.bad=true){e e'}(he:ab σ (Tok.val e t)=ab τ (Tok.val e' t)):σ e=τ e':=by
 simp_all[bi,Tok.val,gH]
theorem GL{ln fold l}:∀n p{all wr},p<=l.length->ew ln fold l n p=some (all,wr)->∀i t,all[i]?=some t->t.bad=true->i+1=all.length/\wr.isSome=true:=by
 intro n;induction n with
 |zero=>intro p all wr hp h;cases h
 |succ n ih=>
  intro p all wr hp h i t hi ht;unfold ew at h;obtain⟨x,hx,_,_,hle,hok⟩:=ib ln fold l p hp
  .rw[hx]at h;dsimp only at h;cases hm:x.more with
   |true=>
    rw[if_pos hm,OF]at h;obtain⟨⟨ts,wr'⟩,h3,heq⟩:=h;simp only[Prod.mk.injEq]at heq;obtain⟨rfl,rfl⟩:=heq;cases i with
    |zero=>
     exfalso;simp only[T6,Option.some.injEq]at hi;subst hi;rw[hok.bad,hok.wrn hm]at ht;cases ht
    |succ i=>
     rw[T7]at hi;grind
   |false=>
    rw[if_neg (by rw[hm];simp)]at h;cases h;cases i with
    |zero=>
     simp only[T6,Option.some.injEq]at hi;subst hi;exact⟨rfl,by rw[<- hok.bad];exact ht⟩
    |succ i=>simp at hi
theorem OH{Z E ob xb all wr D0 w0 g w}(h:rX E ob xb all wr D0 w0 g w)(hall:ew E.ln E.fold E.l (E.l.length+1) 0=some (all,wr))
 (hT:Z.TA=(all.map (Tok.val Z.eA)).toArray) (hG:Z.lo<w0.heap.size) (hRo:∀i,Z.RoB i->i<w0.heap.size):
 ∃F s,w.heap[E.r]?=some (.chan E.cap F false s E.rc E.tm)/\F.size=Z.TA.size/\∀i a b,Z.TA[i]?=some a->F[i]?=some b->zz Z i a b w:=by
 obtain⟨a,rfl,_,⟨_,p,F,e,hS,hF,hw⟩⟩:=h;obtain⟨sd,hch⟩:=hS.chan;have hF2:F=(all.map (Tok.val e)).toArray:=by rw[<- hF,Array.toArray_toList]
 subst hF2;refine⟨_,sd,hch,by simp[hT],λi a b ha hb=> ?_⟩;rw[hT]at ha;simp[Ts,List.getElem?_map,OF]at ha hb;obtain⟨t,ht,rfl⟩:=ha;obtain⟨t',h0,rfl⟩:=hb;obtain rfl:t=t':=Option.some.inj (ht.symm.trans h0);cases hbad:t.bad with
 |false=>exact .inl λσ τ=>Ju σ τ hbad _ _
 |true=>
  obtain⟨h1,h2⟩:=GL _ _ (T3 _) hall i t ht hbad;obtain⟨q,hq⟩:=Tl.1 h2;obtain⟨hB,hle⟩:=hw q hq;refine .inr ⟨by simp[hT,h1],e,by omega,?_,λhr=>absurd (hRo e hr) (by omega),λσ τ he=>M4 σ τ hbad he,λσ τ he=>DE σ τ hbad he⟩;exact⟨_,_,_,hB⟩
theorem NW:IX Tryz.prog kZ:=⟨rfl,rfl,by show Tryz.prog.funcs[Tryz.prog.funcs.size]?=none;simp,rfl⟩
theorem Mx{Z E ob xb all wr D0 w0}(hQ:Z.Q=Tryz.prog)(hr:Z.restB=[])(hB:Z.rB=E.r):G0 Z (rX E ob xb all wr D0 w0) where
 rest:=hr
 stop g w h:=by
  obtain⟨a,rfl,⟨u2,u3,u4,ats,ty,cs,rfl⟩,_⟩:=h;rw[hQ,hB];exact⟨⟨kZ,rfl,NW⟩,rfl,rfl,⟨ats,ty,cs,rfl⟩,_,Tryz.func115,by kernel_rfl⟩
theorem NI{Z:Duo}{A B q0 q1 q2 q3 cQ i iQ ops}(hc:(Tryz.f92).body=some (.seq (.seq q0 (.seq q1 q2)) (.seq q3 (.block i (.loop (.seq (.region iQ ops false) cQ))))))
 {ob xb all wr k wA wB x} (hall:ew B.ln B.fold B.l (B.l.length+1) 0=some (all,wr))
 (hQ:Z.Q=Tryz.prog) (h0:Z.βA=bA) (h1:Z.βB=bB) (h3:Z.dtA=uy) (h4:Z.dtB=[]) (h5:Z.DA=DX) (h6:Z.DB=DX) (hk:Z.k≠0) (hrA:Z.rA=A.r) (h7:Z.capA=A.cap) (h8:Z.tmA=A.tm)
 (h9:Z.rB=B.r) (ha:Z.capB=B.cap) (h2:Z.rcB=B.rc) (hd:Z.tmB=B.tm) (hT:Z.TA=(all.map (Tok.val Z.eA)).toArray) (hG:Z.lo<wB.heap.size) (hRo:∀i,Z.RoB i->i<wB.heap.size):
 eG Z (pG A ops k DX wA x) (rX B ob xb all wr DX wB) where
 EA:=by rw[hQ,h0,h3];exact Pz
 EB:=by rw[hQ,h1,h4];exact Py
 rA:=by rw[h0];exact fa _
 rB:=by rw[h1];exact fa _
 kA:=by rw[hQ,h0];exact OQ
 kB:=by rw[hQ,h1];exact OP
 dA:=by rw[hQ,h0,h5];exact PD
 dB:=by rw[hQ,h1,h6];exact PC
 k0:=hk
 sA g w h:=by
  rw[hQ,h0,hrA,h7,h8];exact⟨let⟨z,h⟩:=L0 hc h;⟨z,true,h⟩,by obtain⟨a,PF,pb,_,_,_,hch,_⟩:=h;omega⟩
 sB g w h:=by
  refine⟨KH h,?_⟩;rw[h9,ha,h2,hd];exact OH h hall hT hG hRo
end
section
open Go.Conc
variable[aD]
def ghost(w:AS)(n:Nat)(f:Nat->Option Obj):AS:= {w with heap:=TH (n:=n) λi=>(f i).getD (.coro none)}
section
variable{w:AS}{n i:Nat}{f:Nat->Option Obj}{o:Obj}
@[simp] theorem io:(ghost w n f).heap.size=n:=by simp[ghost]
theorem yN(h:i<n):(ghost w n f).heap[i]?=some ((f i).getD (.coro none)):=by
 simp[ghost,h]
theorem eF(h:i<n)(hf:f i=some o):(ghost w n f).heap[i]?=some o:=by simp[yN h,hf]
theorem mn(h:(ghost w n f).heap[i]?=some o):i<n/\o=(f i).getD (.coro none):=by
 have hi:i<n:=by
  have:=(Sx.1 h).1;simp_all
 rw[yN hi]at h;grind
end
structure uB(Q:SV)(Ro:Nat->Prop)(p:Part)(n:Nat)(f:Nat->Option Obj)(w':AS):Prop where
 part:iA Q p n w'.heap.size
 known:∀i o,f i=some o->p.K i
 kind:∀i o,f i=some o->(∃c e z,o= .cells c e z)\/∃cap b d s r t,o= .chan cap b d s r t
 ro:∀i,Ro i->∃c e,f i=some (.cells c e (0,c.size))
 cells:∀i c e z,f i=some (.cells c e z)->∀σ,Ag p σ->yc σ (Ro i) True (.cells c e z) w'.heap[p.κ i]?
 other:∀i,p.K i->(∀c e z,f i≠some (.cells c e z))->∃o',w'.heap[p.κ i]?=some o'/\Plain o'/\((∃c e z,o'= .cells c e z)\/o'.isChan=((f i).getD (.coro none)).isChan)
theorem uB.lt{Q Ro p n f w'}(h:uB Q Ro p n f w'){i o}(hf:f i=some o):i<n:=h.part.dom i (h.known i o hf)
theorem uB.NL{Q Ro p n f w'}(h:uB Q Ro p n f w')(w):an (ghost w n f):=λi o ho=>by
 obtain⟨hi,rfl⟩:=mn ho;cases hf:f i with
 |none=>exact .inr (.inr ⟨_,rfl⟩)
 |some o=>
  refine .inl ?_;rcases h.kind i o hf with⟨c,e,z,rfl⟩|⟨_,_,_,_,_,_,rfl⟩<;>trivial
theorem uB.side{Q β D0 dt cl Ro os rest p n f w' g g'}
 (h:uB Q Ro p n f w') (hos:w'.os=os) (hg:uD Q D0 dt cl g) (hj:JG g) (hd:g.dying=none) (hr:∀σ,Ag p σ->mQ σ rest g g'):Side Q β D0 dt cl Ro os rest p g (ghost w' n f) g' w':=by
 refine⟨by rw[io];exact h.part,hg,⟨h.NL w',.inr ⟨hj,λd e=>by rw[hd]at e;cases e⟩⟩,λi hi=> ?_,hr,λσ hσ=> ?_⟩
 .obtain⟨c,e,hf⟩:=h.ro i hi;exact⟨c,e,eF (h.lt hf) hf⟩
 .have hget:∀(i:Nat)(o:Obj),(ah (ghost w' n f) w'.tape w'.drawn).heap[i]?=some o->i<n/\o=(f i).getD (.coro none):=λi o ho=>mn ho
  refine⟨hσ.1,rfl,rfl,λi hi=> ?_,λi o ho=> ?_,λi a l ho=> ?_,hos,hos⟩
  .obtain⟨c,e,hf⟩:=h.ro i hi;show i<(ghost w' n f).heap.size;rw[io];exact h.lt hf
  .obtain⟨hi,rfl⟩:=hget i o ho;cases hf:f i with
   |none=>
    intro hk;obtain⟨o',h1,h2,h3⟩:=h.other i hk λc e z h=>by rw[hf]at h;cases h
    rw[hf]at h3;exact⟨o',by rw[hσ.2 i hk];omega,h2,h3⟩
   |some o=>
    have hk:=h.known i o hf;rcases h.kind i o hf with⟨c,e,z,rfl⟩|⟨_,_,_,_,_,_,rfl⟩
    .have:=h.cells i c e z hf σ hσ;rw[<- hσ.2 i hk]at this;exact this
    .intro _;obtain⟨o',h1,h2,h3⟩:=h.other i hk λc e z h=>by rw[hf]at h;cases h
     rw[hf]at h3;exact⟨o',by rw[hσ.2 i hk];omega,h2,h3⟩
  .obtain⟨hi,e⟩:=hget i _ ho;cases hf:f i with
   |none=>rw[hf]at e;cases e
   |some o=>
    rw[hf]at e;rcases h.kind i o hf with⟨c,e,z,rfl⟩|⟨_,_,_,_,_,_,rfl⟩<;>cases e
theorem wP{w n r cap s rc b tm f}(hr:r<n)(hf:f r=some (.chan cap b false s rc tm))(ho:∀i o,f i=some o->o.isChan=true->i=r):cG (ghost w n f) r cap b s rc tm:=by
 refine⟨eF hr hf,λi o h hc=> ?_⟩;obtain⟨hi,rfl⟩:=mn h;cases h0:f i with
 |none=>rw[h0]at hc;cases hc
 |some o=>grind
theorem lX{w n i f}(h:aJ (ghost w n f) i):∃c e z,f i=some (.cells c e z):=by
 obtain⟨c,e,z,h⟩:=h;obtain⟨hi,h⟩:=mn h;cases hf:f i<;>grind
theorem inv_start{Z}{pA pB}{fA fB}{nA nB}{gA gA' gB gB'}{w'}{t}{tm sA rcA sB}
 (PA:uB Z.Q Z.RoA pA nA fA w') (PB:uB Z.Q Z.RoB pB nB fB w') (hos:w'.os=Z.os)
 (gAok:uD Z.Q Z.DA Z.dtA false gA) (gBok:uD Z.Q Z.DB Z.dtB true gB) (jA:JG gA) (jB:JG gB) (dA:gA.dying=none) (dB:gB.dying=none)
 (rA:∀σ,Ag pA σ->mQ σ Z.restA gA gA') (rB:∀σ,Ag pB σ->mQ σ Z.restB gB gB')
 (cA:fA Z.rA=some (.chan Z.capA Z.TA false sA rcA Z.tmA)) (cA1:∀i o,fA i=some o->o.isChan=true->i=Z.rA) (kA:pA.κ Z.rA=Z.c)
 (cB:fB Z.rB=some (.chan Z.capB #[] false sB Z.rcB Z.tmB)) (cB1:∀i o,fB i=some o->o.isChan=true->i=Z.rB) (kB:pB.κ Z.rB=Z.c)
 (hch:w'.heap[Z.c]?=some (.chan 0 #[] Z.cls 0 0 tm)) (eA:Z.eA<nA) (eA1:¬ pA.K Z.eA)
 (oth:∀i,pA.K i->(∃c e z,fA i=some (.cells c e z))\/(∃j,j<=Z.lo/\pB.K j/\pB.κ j=pA.κ i)\/i=Z.rA)
 (disj:∀i j,(∃c e z,fA i=some (.cells c e z))->(∃c e z,fB j=some (.cells c e z))->pA.κ i=pB.κ j->Z.RoA i/\Z.RoB j)
 (ht:PT Z.k (λ_=>False) (λ_=>False) t)
 (mA:∀i,(∃c e z,fA i=some (.cells c e z))->¬ Z.RoA i->pA.κ i<Z.N0->Z.MA (pA.κ i)) (mB:∀i,(∃c e z,fB i=some (.cells c e z))->¬ Z.RoB i->pB.κ i<Z.N0->Z.MB (pB.κ i))
 (fr:∀b,b<Z.N0->b≠Z.c->¬ Z.MA b->¬ Z.MB b->w'.heap[b]?=Z.h0[b]?) (nz:Z.N0<=w'.heap.size) (out:w'.output=Z.out0):
 Inv2 Z 0 pA gA (ghost w' nA fA) gA' pB gB (ghost w' nB fB) gB' w' t:=by
 have hOB:cG (ghost w' nB fB) Z.rB Z.capB #[] sB Z.rcB Z.tmB:=wP (PB.lt cB) cB cB1;refine⟨PA.side hos gAok jA dA rA,PB.side hos gBok jB dB rB,⟨sA,rcA,?_⟩,⟨#[],sB,hOB,rfl⟩,⟨PA.known _ _ cA,kA⟩,⟨PB.known _ _ cB,kB⟩,⟨tm,hch⟩,⟨by rw[io];omega,λo ho=> ?_,λ_=>eA1⟩,T3 _,λi hi=> ?_,λi j hi hj=>disj i j (lX hi) (lX hj),ht.mono (λ_ h=>h.elim) λ_ h=>h.elim,λi hi=>mA i (lX hi),λi hi=>mB i (lX hi),fr,nz,out,⟨#[],sB,hOB,λi x y hx hy=> ?_⟩⟩
 .have:=wP (w:=w') (PA.lt cA) cA cA1;rw[show Z.TA.extract 0 Z.TA.size=Z.TA from by simp];omega
 .obtain⟨_,rfl⟩:=mn ho;cases hf:fA Z.eA with
  |none=>exactλh=>h
  |some o=>exact absurd (PA.known _ _ hf) eA1
 .rcases oth i hi with⟨c,e,z,hf⟩|h|h
  .exact .inl ⟨_,eF (PA.lt hf) hf,trivial⟩
  .exact .inr (.inl h)
  omega
 grind
open Classical in
noncomputable def cU(w w':AS):AS:= {w' with heap:=TH (n:=w'.heap.size) λi=>if i.1<w.heap.size then(w.heap[i.1]?).getD (.coro none)else dQ w'.heap[i]}
section
variable{w w0' w':AS}{i:Nat}
@[simp] theorem mF:(cU w w').heap.size=w'.heap.size:=by simp[cU]
theorem iX(h:i<w.heap.size)(hle:w.heap.size<=w'.heap.size):(cU w w').heap[i]?=w.heap[i]?:=by
 have h2:i<w'.heap.size:=by omega
 simp[cU,h,h2]
theorem o8(h:w.heap.size<=i)(h2):(cU w w').heap[i]?=some (dQ w'.heap[i]):=by
 have:¬ i<w.heap.size:=by omega
 simp[cU,this,h2]
theorem rJ(c e z):dQ (.cells c e z)= .cells c e z:=by
 unfold dQ;rw[if_pos (.inl trivial)]
theorem xL(h:w.heap.size<=i){c e z}(hc:w'.heap[i]?=some (.cells c e z)):(cU w w').heap[i]?=some (.cells c e z):=by
 grind [o8,rJ]
theorem pK(o):dQ o=o\/dQ o= .coro none/\((∃l,o= .loop l)\/∃d,o= .deferred d):=by
 unfold dQ;split
 .exact .inl rfl
 .rename_i hn;refine .inr ⟨rfl,?_⟩;cases o;case loop l=>exact .inl ⟨l,rfl⟩
  case deferred d=>exact .inr ⟨d,rfl⟩
  case pending c t=>exact absurd (.inr (.inl ⟨c,t,rfl⟩)) hn
  case coro c=>exact absurd (.inr (.inr ⟨c,rfl⟩)) hn
  all_goals exact absurd (.inl trivial) hn
end
open Classical in
noncomputable def nV(w w':AS):Array Obj:=TH (n:=w'.heap.size) λi=>if(cU w w').heap[i.1]?=some (.coro none)then w'.heap[i]else .coro none
theorem ss{w w' i}(h2:i<w'.heap.size)(h:(cU w w').heap[i]?=some (.coro none)):(nV w w')[i]?=w'.heap[i]?:=by
 simp_all[nV]
theorem Cm{w w' i}(h2:i<w'.heap.size)(h:¬ (cU w w').heap[i]?=some (.coro none)):(nV w w')[i]?=some (.coro none):=by
 simp_all[nV]
theorem HT{Q h0 h1 w w0' w' g m t}(hp:bg h1 w w0')(ho:rE h0 h1)(hu:Under h0 w)(hold:∀b,b<w.heap.size->w'.heap[b]?=w0'.heap[b]?)(hle:w.heap.size<=w'.heap.size)
 (hF:fX Q g w' m t):pH h0 Q g (cU w w') m t:=by
 obtain⟨⟨gs,sl,q,τ,d,rfl,hg,hL⟩,hH,hD⟩:=hF;refine⟨nV w w',⟨⟨gs,sl,q,ah w' τ d,rfl,?_,hg,hL⟩,hH,hD⟩,λi hi hl=> ?_⟩
 .refine⟨by simp,rfl,rfl,rfl,rfl,λi=> ?_,λi hi=> ?_⟩
  .show(cU w w').heap[i]?=w'.heap[i]?\/(cU w w').heap[i]?=_/\((∃l,w'.heap[i]?=_)\/∃d,w'.heap[i]?=_);rcases SN i w.heap.size with h|h
   .rw[iX h hle,hold i h];exact hp.blk i
   .rcases SN i w'.heap.size with h2|h2
    .rw[o8 h h2,SS h2];rcases pK w'.heap[i]with e|⟨e,⟨l,e'⟩|⟨l,e'⟩⟩<;>grind
    simp_all
  .have hi':(cU w w').heap[i]?=some (.coro none):=hi;have h2:i<w'.heap.size:=by
    have:=(Sx.1 hi').1;rwa [mF]at this
   exact(ss h2 hi').symm
 .have hsz:=hu.le;have h2:i<w'.heap.size:=by omega
  have h3:i<w.heap.size:=by omega
  by_cases hc:(cU w w').heap[i]?=some (.coro none)
  .rw[ss h2 hc]at hl ⊢;rw[iX h3 hle]at hc;have hk:=hp.keep i hc;rw[hold i h3,hk]at hl ⊢;exact ho i hi hl
  .exfalso;rw[Cm h2 hc]at hl;rcases hl with(⟨l,h⟩|⟨l,h⟩)|h
   .cases h
   .cases h
   .exact hc (by rw[iX h3 hle];exact hu.st i hi h)
theorem CS{w w'}(hw:an w)(h0:aD.lim<=w.heap.size)(hle:w.heap.size<=w'.heap.size):an (cU w w'):=λi o ho=>by
 rcases SN i w.heap.size with h|h
 .rw[iX h hle]at ho;exact hw i o ho
 .have h2:=by
   have:=(Sx.1 ho).1;rwa [mF]at this
  rw[o8 h h2]at ho;cases ho;unfold dQ;split
  .rename_i hc;rcases hc with hc|hc|hc
   .exact .inl hc
   .exact .inr (.inl ⟨hc,SW h0 h⟩)
   .exact .inr (.inr hc)
  .exact .inr (.inr ⟨_,rfl⟩)
theorem pH.real{Q h0 g w m t}(h:pH h0 Q g w m t):∃h1 w',bg h1 w w'/\rE h0 h1/\fX Q g w' m t:=by
 obtain⟨h1,⟨⟨gs,sl,q,w',e,hp,hg,hL⟩,hH,hD⟩,ho⟩:=h;refine⟨h1,ah w' w.tape w.drawn,⟨hp.size,rfl,rfl,hp.os,hp.output,hp.blk,hp.keep⟩,ho,⟨gs,sl,q,w'.tape,w'.drawn,e,hg,hL⟩,hH,hD⟩
theorem Done.Rz{Z KA KB m t}(h:Done Z KA KB m t):
 ∃pA gA wA gA' pB gB wB gB' w' c0 z ok t0,Inv2 Z.shut Z.TA.size pA gA wA gA' pB gB wB gB' w' t0/\KA gA wA/\KB gB wB/\(∀m w2,stepG (alt Z.Q Z.βA) m gA w2= .comm (bo gA) #[c0] true (.recv ok) w2 #[])/\(∀σ,Ag pA σ->rcase Z.c z=jS σ c0)/\
  fX Z.Q (Conc.served (bo gA') (recvd ok z false)) w' m t:=by
 obtain⟨gs,sl,q,pA,gA,wA,gA',pB,gB,wB,gB',w',c0,z,ok,t0,rfl,h1,h2,hB,h3,h4,h5,h6,h7,h8⟩:=h;exact⟨pA,gA,wA,gA',pB,gB,wB,gB',w',c0,z,ok,t0,h1,h2,hB,h3,h4,⟨gs,sl,q,w'.tape,w'.drawn,rfl,h5,h6⟩,h7,h8⟩
end
section
open Go.RowKit Go.Conc
section
variable(w:AS)(s:ByteArray)(fl:Nat)(fold:Bool)
theorem lC:(fq w s fl fold).heap=(((w.heap.push (.chan 0 #[] false 0 0 false)).push (.cells #[.chan (some w.heap.size)] 239)).push (.cells (iR s 0 fl w.heap.size fold) 243)).push (.cells #[.pointer (some ⟨w.heap.size+2,0,none⟩)] 240):=by
 apply Tw;intro i;simp only[fq,HO,DU,ov,Bp,yM,Tg,World.alloc,Array.getElem?_modify,Te,Array.size_modify,To];grind
theorem uZ:(fq w s fl fold).heap.size=w.heap.size+4:=by simp[lC]
theorem ku{i}(h:i<w.heap.size):(fq w s fl fold).heap[i]?=w.heap[i]?:=by
 rw[lC];rw[SM (by grind),IT (by grind),IT (by grind),IT h,SS h]
theorem Fl:(fq w s fl fold).heap[w.heap.size]?=some (.chan 0 #[] false 0 0 false):=by
 rw[lC];grind
theorem HM:(fq w s fl fold).heap[w.heap.size+1]?=some (.cells #[.chan (some w.heap.size)] 239):=by
 rw[lC];grind
theorem Lg:(fq w s fl fold).heap[w.heap.size+2]?=some (.cells (iR s 0 fl w.heap.size fold) 243):=by
 rw[lC];grind
theorem HL:(fq w s fl fold).heap[w.heap.size+3]?=some (.cells #[.pointer (some ⟨w.heap.size+2,0,none⟩)] 240):=by
 rw[lC];grind
theorem NM:(fq w s fl fold).os=w.os:=rfl
theorem Mv:(fq w s fl fold).output=w.output:=rfl
end
def FZ(w:AS):Prop:=∀g,g<=Tryz.prog.globals.size->∃o,w.heap[g]?=some o/\Plain o/\((∃c e z,o= .cells c e z)\/o.isChan=false)
structure zF(w:AS)(nb gb eb:Nat):Prop where
 n:a7 w nb 86 #[.nilIface]
 g:a7 w gb 3 #[.int .i64 0]
 e:a7 w eb 105 #[.nilIface]
 ln:Tryz.prog.globals.size<nb
 lg:Tryz.prog.globals.size<gb
 le:Tryz.prog.globals.size<eb
 n_g:nb≠gb
 n_e:nb≠eb
 g_e:gb≠eb
 glob:FZ w
theorem a7.lt'{w b t c}(h:a7 w b t c):b<w.heap.size:=(Sx.1 h).1
def wo(n nb gb eb:Nat):Part:=⟨λi=>i<=Tryz.prog.globals.size\/i=nb\/i=gb\/i=eb\/i=n\/i=n+1\/i=n+2\/i=n+3,id⟩
def gD(n nb gb eb cap:Nat)(T:Array BY)(i:Nat):Option Obj:=
 if i=nb then some (.cells #[.nilIface] 86)else if i=gb then some (.cells #[.int .i64 0] 3)else if i=eb then some (.cells #[.nilIface] 105)
 else if i=n then some (.chan cap T false 0 0 false)else if i=n+1 then some (.cells #[.chan (some n)] 239 (0,1))else none
theorem ON{w nb gb eb cap T}(h:zF w nb gb eb)(s fl fold):
 uB Tryz.prog (λi=>i=w.heap.size+1) (wo w.heap.size nb gb eb) (w.heap.size+5) (gD w.heap.size nb gb eb cap T) (fq w s fl fold):=by
 have h1:=h.n.lt';have h2:=h.g.lt';have h3:=h.e.lt';have h4:=h.ln;have key:∀i o,gD w.heap.size nb gb eb cap T i=some o->i=nb/\o= .cells #[.nilIface] 86\/i=gb/\o= .cells #[.int .i64 0] 3\/i=eb/\o= .cells #[.nilIface] 105\/i=w.heap.size/\o= .chan cap T false 0 0 false\/i=w.heap.size+1/\o= .cells #[.chan (some w.heap.size)] 239 (0,1):=λi o hf=>by
  unfold gD at hf;repeat' split at hf
  all_goals first
   |(cases hf;simp_all;done)
   |(cases hf)
 refine⟨⟨λi j _ _ e=>e,λi hi=> ?_,λi hi=> ?_,λg hg=>⟨.inl hg,rfl⟩⟩,λi o hf=> ?_,λi o hf=> ?_,λi hi=> ?_,λi c e z hf σ hσ=> ?_,λi hi hc=> ?_⟩
 .rcases hi with hi|rfl|rfl|rfl|rfl|rfl|rfl|rfl<;>omega
 .rw[uZ];show i<_;rcases hi with hi|rfl|rfl|rfl|rfl|rfl|rfl|rfl<;>omega
 .rcases key i o hf with⟨rfl,_⟩|⟨rfl,_⟩|⟨rfl,_⟩|⟨rfl,_⟩|⟨rfl,_⟩
  .exact .inr (.inl rfl)
  .exact .inr (.inr (.inl rfl))
  .exact .inr (.inr (.inr (.inl rfl)))
  .exact .inr (.inr (.inr (.inr (.inl rfl))))
  .exact .inr (.inr (.inr (.inr (.inr (.inl rfl)))))
 .rcases key i o hf with⟨_,rfl⟩|⟨_,rfl⟩|⟨_,rfl⟩|⟨_,rfl⟩|⟨_,rfl⟩
  .exact .inl ⟨_,_,_,rfl⟩
  .exact .inl ⟨_,_,_,rfl⟩
  .exact .inl ⟨_,_,_,rfl⟩
  .exact .inr ⟨_,_,_,_,_,_,rfl⟩
  .exact .inl ⟨_,_,_,rfl⟩
 .have hi:i=w.heap.size+1:=hi;subst hi;refine⟨_,239,show gD _ _ _ _ _ _ _=some (.cells #[.chan (some w.heap.size)] 239 (0,1))from ?_⟩;unfold gD;rw[if_neg (by omega),if_neg (by omega),if_neg (by omega),if_neg (by omega),if_pos rfl]
 .show yc σ (i=w.heap.size+1) True (.cells c e z) (fq w s fl fold).heap[i]?;rcases key i _ hf with⟨rfl,e1⟩|⟨rfl,e1⟩|⟨rfl,e1⟩|⟨rfl,e1⟩|⟨rfl,e1⟩
  .cases e1;refine⟨λhr=>absurd hr (by omega),λ_=> ?_⟩;rw[ku w s fl fold h1,h.n];simp
  .cases e1;refine⟨λhr=>absurd hr (by omega),λ_=> ?_⟩;rw[ku w s fl fold h2,h.g];simp
  .cases e1;refine⟨λhr=>absurd hr (by omega),λ_=> ?_⟩;rw[ku w s fl fold h3,h.e];simp
  .cases e1
  .cases e1;have e2:σ w.heap.size=w.heap.size:=hσ.2 _ (.inr (.inr (.inr (.inr (.inl rfl)))));refine⟨λ_=>⟨rfl,(0,0),?_,by simp⟩,λhr=>absurd rfl hr⟩;rw[HM];simp[e2]
 .show∃o',(fq w s fl fold).heap[i]?=some o'/\_;rcases hi with hi|rfl|rfl|rfl|rfl|rfl|rfl|rfl
  .obtain⟨o,g1,g2,g3⟩:=h.glob i hi;have hn:gD w.heap.size nb gb eb cap T i=none:=by
    cases hp:gD w.heap.size nb gb eb cap T i with
    |none=>rfl
    |some o=>
     have:=h.lg;have:=h.le;rcases key i o hp with⟨rfl,_⟩|⟨rfl,_⟩|⟨rfl,_⟩|⟨rfl,_⟩|⟨rfl,_⟩<;>omega
   rw[ku w s fl fold (by omega),hn];exact⟨o,g1,g2,g3⟩
  .exact absurd (by unfold gD;rw[if_pos rfl]) (hc #[.nilIface] 86 (0,0))
  .exact absurd (by unfold gD;rw[if_neg (Sz h.n_g),if_pos rfl]) (hc #[.int .i64 0] 3 (0,0))
  .exact absurd (by unfold gD;rw[if_neg (Sz h.n_e),if_neg (Sz h.g_e),if_pos rfl]) (hc #[.nilIface] 105 (0,0))
  .have hn:gD w.heap.size nb gb eb cap T w.heap.size=some (.chan cap T false 0 0 false):=by
    unfold gD;rw[if_neg (by omega),if_neg (by omega),if_neg (by omega),if_pos rfl]
   rw[Fl,hn];exact⟨_,rfl,trivial,.inr rfl⟩
  .exact absurd (by unfold gD;rw[if_neg (by omega),if_neg (by omega),if_neg (by omega),if_neg (by omega),if_pos rfl]) (hc #[.chan (some w.heap.size)] 239 (0,1))
  .exact⟨_,Lg ..,trivial,.inl ⟨_,_,_,rfl⟩⟩
  .exact⟨_,HL ..,trivial,.inl ⟨_,_,_,rfl⟩⟩
structure Ls(w:AS)(C:Array BY)(tC tM:TypeId)(m:Int):Prop where
 cls:∃z,w.heap[1]?=some (.cells C tC z)/\z.2<=C.size
 ren:∀σ,C.map (ab σ)=C
 max:∃z,w.heap[2]?=some (.cells #[.int .i64 m] tM z)/\z.2<=1
def EZ(n:Nat):Part:=⟨λi=>i<=Tryz.prog.globals.size\/i=n\/i=n+1\/i=n+2\/i=n+3,id⟩
def f8(n cap:Nat)(s:ByteArray)(fl:Nat)(fold:Bool)(C:Array BY)(tC tM:TypeId)(m:Int)(i:Nat):Option Obj:=
 if i=1 then some (.cells C tC (0,C.size))else if i=2 then some (.cells #[.int .i64 m] tM (0,1))else if i=n then some (.chan cap #[] false 0 0 false)
 else if i=n+1 then some (.cells #[.chan (some n)] 239 (0,1))else if i=n+2 then some (.cells (iR s 0 fl n fold) 243)else if i=n+3 then some (.cells #[.pointer (some ⟨n+2,0,none⟩)] 240 (0,1))else none
def Lb(n:Nat)(i:Nat):Prop:=i=1\/i=2\/i=n+1\/i=n+3
theorem wN:Tryz.prog.globals.size=3:=by kernel_rfl
theorem OM{w cap C tC tM m}(hg:FZ w)(h:Ls w C tC tM m)(hn:Tryz.prog.globals.size<w.heap.size)(s fl fold):
 uB Tryz.prog (Lb w.heap.size) (EZ w.heap.size) (w.heap.size+4) (f8 w.heap.size cap s fl fold C tC tM m) (fq w s fl fold):=by
 have h0:=wN;have key:∀i o,f8 w.heap.size cap s fl fold C tC tM m i=some o->i=1/\o= .cells C tC (0,C.size)\/i=2/\o= .cells #[.int .i64 m] tM (0,1)\/i=w.heap.size/\o= .chan cap #[] false 0 0 false\/i=w.heap.size+1/\o= .cells #[.chan (some w.heap.size)] 239 (0,1)\/i=w.heap.size+2/\o= .cells (iR s 0 fl w.heap.size fold) 243\/i=w.heap.size+3/\o= .cells #[.pointer (some ⟨w.heap.size+2,0,none⟩)] 240 (0,1):=λi o hf=>by
  unfold f8 at hf;repeat' split at hf
  all_goals first
   |(cases hf;simp_all;done)
   |(cases hf)
 have p1:f8 w.heap.size cap s fl fold C tC tM m 1=some (.cells C tC (0,C.size)):=by unfold f8;rw[if_pos rfl]
 have p2:f8 w.heap.size cap s fl fold C tC tM m 2=some (.cells #[.int .i64 m] tM (0,1)):=by unfold f8;rw[if_neg (by decide),if_pos rfl]
 have p3:f8 w.heap.size cap s fl fold C tC tM m w.heap.size=some (.chan cap #[] false 0 0 false):=by unfold f8;rw[if_neg (by omega),if_neg (by omega),if_pos rfl]
 have p4:f8 w.heap.size cap s fl fold C tC tM m (w.heap.size+1)=some (.cells #[.chan (some w.heap.size)] 239 (0,1)):=by unfold f8;rw[if_neg (by omega),if_neg (by omega),if_neg (by omega),if_pos rfl]
 have p5:f8 w.heap.size cap s fl fold C tC tM m (w.heap.size+2)=some (.cells (iR s 0 fl w.heap.size fold) 243):=by unfold f8;rw[if_neg (by omega),if_neg (by omega),if_neg (by omega),if_neg (by omega),if_pos rfl]
 have p6:f8 w.heap.size cap s fl fold C tC tM m (w.heap.size+3)=some (.cells #[.pointer (some ⟨w.heap.size+2,0,none⟩)] 240 (0,1)):=by unfold f8;rw[if_neg (by omega),if_neg (by omega),if_neg (by omega),if_neg (by omega),if_neg (by omega),if_pos rfl]
 refine⟨⟨λi j _ _ e=>e,λi hi=> ?_,λi hi=> ?_,λg hg=>⟨.inl hg,rfl⟩⟩,λi o hf=> ?_,λi o hf=> ?_,λi hi=> ?_,λi c e z hf σ hσ=> ?_,λi hi hc=> ?_⟩
 .rcases hi with hi|rfl|rfl|rfl|rfl<;>omega
 .rw[uZ];show i<_;rcases hi with hi|rfl|rfl|rfl|rfl<;>omega
 .rcases key i o hf with⟨rfl,_⟩|⟨rfl,_⟩|⟨rfl,_⟩|⟨rfl,_⟩|⟨rfl,_⟩|⟨rfl,_⟩
  .exact .inl (by omega)
  .exact .inl (by omega)
  .exact .inr (.inl rfl)
  .exact .inr (.inr (.inl rfl))
  .exact .inr (.inr (.inr (.inl rfl)))
  .exact .inr (.inr (.inr (.inr rfl)))
 .rcases key i o hf with⟨_,rfl⟩|⟨_,rfl⟩|⟨_,rfl⟩|⟨_,rfl⟩|⟨_,rfl⟩|⟨_,rfl⟩
  .exact .inl ⟨_,_,_,rfl⟩
  .exact .inl ⟨_,_,_,rfl⟩
  .exact .inr ⟨_,_,_,_,_,_,rfl⟩
  .exact .inl ⟨_,_,_,rfl⟩
  .exact .inl ⟨_,_,_,rfl⟩
  .exact .inl ⟨_,_,_,rfl⟩
 .rcases hi with rfl|rfl|rfl|rfl
  .exact⟨_,_,p1⟩
  .exact⟨_,_,p2⟩
  .exact⟨_,_,p4⟩
  .exact⟨_,_,p6⟩
 .show yc σ (Lb w.heap.size i) True (.cells c e z) (fq w s fl fold).heap[i]?;have e2:σ w.heap.size=w.heap.size:=hσ.2 _ (.inr (.inl rfl));have e3:σ (w.heap.size+2)=w.heap.size+2:=hσ.2 _ (.inr (.inr (.inr (.inl rfl))));rcases key i _ hf with⟨rfl,e1⟩|⟨rfl,e1⟩|⟨rfl,e1⟩|⟨rfl,e1⟩|⟨rfl,e1⟩|⟨rfl,e1⟩
  .cases e1;obtain⟨z,hz,h1⟩:=h.cls;refine⟨λ_=>⟨rfl,z,?_,h1⟩,λhr=>absurd (.inl rfl) hr⟩;rw[ku w s fl fold (by omega),hz,h.ren]
  .cases e1;obtain⟨z,hz,h1⟩:=h.max;refine⟨λ_=>⟨rfl,z,?_,by simpa using h1⟩,λhr=>absurd (.inr (.inl rfl)) hr⟩;rw[ku w s fl fold (by omega),hz];simp
  .cases e1
  .cases e1;refine⟨λ_=>⟨rfl,(0,0),?_,by simp⟩,λhr=>absurd (.inr (.inr (.inl rfl))) hr⟩;rw[HM];simp[e2]
  .cases e1;refine⟨λhr=> ?_,λ_=> ?_⟩
   .exfalso;rcases hr with hr|hr|hr|hr<;>omega
   .rw[Lg];simp[iR,e2]
  .cases e1;refine⟨λ_=>⟨rfl,(0,0),?_,by simp⟩,λhr=>absurd (.inr (.inr (.inr rfl))) hr⟩;rw[HL];simp[bi,e3]
 .show∃o',(fq w s fl fold).heap[i]?=some o'/\_;rcases hi with hi|rfl|rfl|rfl|rfl
  .obtain⟨o,g1,g2,g3⟩:=hg i hi;have hn:f8 w.heap.size cap s fl fold C tC tM m i=none:=by
    cases hp:f8 w.heap.size cap s fl fold C tC tM m i with
    |none=>rfl
    |some o=>
     exfalso;rcases key i o hp with⟨rfl,rfl⟩|⟨rfl,rfl⟩|⟨rfl,_⟩|⟨rfl,_⟩|⟨rfl,_⟩|⟨rfl,_⟩
     .exact hc _ _ _ hp
     .exact hc _ _ _ hp
     all_goals omega
   rw[ku w s fl fold (by omega),hn];exact⟨o,g1,g2,g3⟩
  .rw[Fl,p3];exact⟨_,rfl,trivial,.inr rfl⟩
  .exact absurd p4 (hc _ _ _)
  .exact absurd p5 (hc _ _ _)
  .exact absurd p6 (hc _ _ _)
theorem LX{σ n s fl}(h0:σ n=n)(h1:σ (n+1)=n+1)(h2:σ (n+2)=n+2)(h3:σ (n+3)=n+3)(todo):
 aC σ (pu.at (goT n s fl) todo)=pu.at (goT n s fl) todo:=by
 simp[aC,goT,Frame.at,iR,bi,h0];exact⟨by simp[kO],rfl⟩
def pj(nb gb eb:Nat)(s:ByteArray)(fl:Nat):Act:= {tmps:=#[.string s,.int .u8 fl,undef,undef,vp nb,vp gb,vp eb,undef,.string s,.int .i64 s.size,.bool false,undef,undef,undef,.string s,.int .u8 fl,undef,undef,undef,undef,undef,undef,undef,undef,undef,undef,undef,undef,undef],defers:=[]}
theorem NP(nb gb eb s)(fl:Nat):Lt (.string s) (.int .u8 fl) (pj nb gb eb s fl):=⟨rfl,rfl,rfl,rfl⟩
theorem LY{σ nb gb eb s fl}(h0:σ nb=nb)(h1:σ gb=gb)(h2:σ eb=eb)(todo):
 aC σ (gw.at (pj nb gb eb s fl) todo)=gw.at (pj nb gb eb s fl) todo:=by
 simp[aC,pj,Frame.at,bi];rfl
theorem LZ{σ n}(h1:σ (n+1)=n+1)(h3:σ (n+3)=n+3):
 aC σ {kZ with defers:=[{target:=.fn (.func 115) #[vp (n+1),vp (n+3)],args:=#[]}]}= {kZ with defers:=[{target:=.fn (.func 115) #[vp (n+1),vp (n+3)],args:=#[]}]}:=by
 simp[aC,kZ,lu,oa,jn,goexitEntry];exact⟨by simp[show(default:T9).tmps=#[]from rfl],by simp[AG,kO,bi]⟩
end
section
open Go.Conc
variable[aD]
section
variable{Q:SV}{R:Machine->Trace->Prop}{w:AS}{fr PF c:T9}{cs:List T9}{fn:Func}{v:BY}
theorem Cq(hm:fr.mode= .returning)(hk:fr.kind= .deferred)(hd:fr.defers=[])(hf:Q.funcs[fr.fn]?=some fn)(hr:fn.results=#[])
 (hPF:PF.mode= .returning\/∃v,PF.mode= .panicking [{v:=v,recovered:=true}]) (m w):stepG Q m (bO fr (PF::cs)) w= .go (bO {PF with mode:=.returning} cs) w:=by
 simp[stepG,bO,unwind,hd,hm,hf,results_none hr fr.tmps Q w,events_results_none hr _ _,doReturn,hk];rcases hPF with h|⟨v,h⟩
 .rw[h];have:PF= {PF with mode:=.returning}:=by rw[<- h]
  rw[<- this];rfl
 .rw[h];rfl
theorem ca.OW(hm:fr.mode= .returning)(hk:fr.kind= .deferred)(hd:fr.defers=[])(hf:Q.funcs[fr.fn]?=some fn)(hr:fn.results=#[])
 (hPF:PF.mode= .returning\/∃v,PF.mode= .panicking [{v:=v,recovered:=true}]) (k1:ca Q R (bO {PF with mode:=.returning} cs) w):ca Q R (bO fr (PF::cs)) w:=
 ca.ctl (λw=>Cq hm hk hd hf hr hPF true w) rfl k1
theorem Cp(hm:fr.mode= .returning)(hk:fr.kind= .normal)(hd:fr.defers=[])(hf:Q.funcs[fr.fn]?=some fn){u}(hr:(results fn fr.tmps).run Q u= .ok v u):
 ∃E,stepG Q true (bO fr (c::cs)) u= .go (bO (c.finish v) cs) u E/\deafBehind 0 E=0:=by
 refine⟨seen Q fr.fn ((results fn fr.tmps).runT Q u #[]).2,?_,?_⟩
 .simp_all[GStep.after,stepG,bO,unwind,doReturn]
 .rcases j7 0 (wJ (P:=Q) fn fr.tmps).hu u #[] gP with⟨_,_,_,hl⟩|⟨x,u2,e1,_⟩
  .exact(dO Q _ hl.ev).trans hl.deaf
  simp_all
theorem ca.FO(hm:fr.mode= .returning)(hk:fr.kind= .normal)(hd:fr.defers=[])(hf:Q.funcs[fr.fn]?=some fn)(hr:∀τ d,(results fn fr.tmps).run Q (ah w τ d)= .ok v (ah w τ d))
 (k1:ca Q R (bO (c.finish v) cs) w):ca Q R (bO fr (c::cs)) w:=λm t hF=>
 hF.go rfl λτ d=>by obtain⟨E,h1,h2⟩:=Cp (c:=c) (cs:=cs) hm hk hd hf (hr τ d)<;>grind k1
end
def qa(n:Nat)(w:AS):AS:= {w with heap:=w.heap.extract 0 n}
section
variable{n:Nat}{w w':AS}{h1:Array Obj}
theorem lF(i):(qa n w).heap[i]?=if i<n then w.heap[i]? else none:=by
 unfold qa;grind
theorem Ip(h:n<=w.heap.size):(qa n w).heap.size=n:=by
 unfold qa;grind
theorem JD(hp:bg h1 w w')(n):bg h1 (qa n w) (qa n w'):=by
 refine⟨by simp[qa,hp.size],hp.tape,hp.drawn,hp.os,hp.output,λi=> ?_,λi hi=> ?_⟩
 .rw[lF,lF];split
  .exact hp.blk i
  simp
 .rw[lF]at hi ⊢;split at hi
  .rename_i h;rw[if_pos h];exact hp.keep i hi
  grind
theorem Iq{we:AS}(h:n=we.heap.size)(hk:∀b,b<n->w.heap[b]?=we.heap[b]?):(qa n w).heap=we.heap:=by
 apply Tw;grind [lF]
theorem zm{we}(h:w.heap=we.heap)(w'):cU w w'=cU we w':=by
 simp[cU,h]
theorem Ke{Q h0 we wc wc' g m t}(hp:bg h1 wc wc')(ho:rE h0 h1)(hu:Under h0 we)(h2:we.heap.size<=wc.heap.size)(hk:∀b,b<we.heap.size->wc.heap[b]?=we.heap[b]?)
 (hold:∀b,b<we.heap.size->w'.heap[b]?=wc'.heap[b]?) (hle:we.heap.size<=w'.heap.size) (hF:fX Q g w' m t):pH h0 Q g (cU we w') m t:=by
 have hs:=Ip h2;have:=HT (w:=qa we.heap.size wc) (w0':=qa we.heap.size wc') (JD hp _) ho ⟨by rw[hs];exact hu.le,λi hi h3=>by have h1:=hu.le;rw[lF,if_pos (by omega),hk i (by omega)];exact hu.st i hi h3⟩ (λb hb=>by
  rw[lF];grind) (by omega) hF
 rwa [zm (Iq (w:=wc) rfl hk)]at this
end
end
section
open Go.RowKit Go.Conc
attribute [local instance] dJ
noncomputable def duo(w:AS)(nb gb eb:Nat)(s:ByteArray)(fl:Nat)(all:List Tok)(cs:List T9)(k:Nat):Duo where
 Q:=Tryz.prog
 βA:=bA
 βB:=bB
 DA:=DX
 DB:=DX
 dtA:=uy
 dtB:=[]
 RoA:=λi=>i=w.heap.size+1
 RoB:=Lb w.heap.size
 os:=w.os
 restA:=cs
 restB:=[]
 k:=k
 rA:=w.heap.size
 rB:=w.heap.size
 capA:=0
 capB:=s.size+1
 tmA:=false
 tmB:=false
 rcB:=0
 c:=w.heap.size
 eA:=w.heap.size+4
 TA:=(all.map (Tok.val (w.heap.size+4))).toArray
 N0:=w.heap.size+4
 h0:=(fq w s fl (decide (fl%2=1))).heap
 out0:=w.output
 MA:=λb=>b=nb\/b=gb\/b=eb
 MB:=λb=>b=w.heap.size+2
 cls:=false
 lo:=w.heap.size+3
def AU(n nb gb eb:Nat):oJ:= {nb,gb,eb,r:=n,e:=n+4,cap:=0,tm:=false,B:=n+5}
def uL(n:Nat)(s:ByteArray)(fl:Nat)(m:Int):eK:= {x:=n+2,r:=n,cap:=s.size+1,rc:=0,tm:=false,m:=m,s:=s,fl:=fl,fold:=decide (fl%2=1)}
theorem pG.af{E ops k D0 w0 x g w w'}(h:pG E ops k D0 w0 x g w)(he:w'.heap=w.heap):pG E ops k D0 w0 x g w':=by
 obtain⟨a,PF,pb,h1,h2,h3,⟨s,rc,h4⟩,h5⟩:=h;exact⟨a,PF,pb,h1,h2,h3,⟨s,rc,by rw[he];omega⟩,h5.af he⟩
theorem rX.af{E ob xb all wr D0 w0 g w w'}(h:rX E ob xb all wr D0 w0 g w)(he:w'.heap=w.heap):rX E ob xb all wr D0 w0 g w':=by
 obtain⟨a,h1,h2,⟨h3,p,F,e,h4,h5,h6⟩⟩:=h;exact⟨a,h1,h2,h3.af he,p,F,e,h4.af he,h5,λq hq=>⟨(h6 q hq).1.af he,(h6 q hq).2⟩⟩
theorem Hb:dg DX:=⟨λit hi=>by
 simp[DX]at hi;subst hi;rfl,λd hd=>by
 simp[DX]at hd;subst hd;trivial⟩
section
variable{t0 t1 t2 t4 t5 p0 p1 p4 p5 p6 p7 p8:Code}{iT iP:Nat}{opsT opsP:Array Oper}
theorem tokF(hT:(Tryz.f91).body=some (.seq t0 (.seq t1 (.seq t2 (.seq (.region iT opsT false) (.seq t4 t5))))))(n s fl):
 ck Tryz.prog uy false (pu.at (goT n s fl) (.inRegion opsT []::[.code (.seq t4 t5)]))/\dg (pu.at (goT n s fl) (.inRegion opsT []::[.code (.seq t4 t5)])):=by
 cases hT;refine⟨⟨rfl,λi hi=> ?_,λt ht=> ?_,(λd hd=>nomatch hd),.inl rfl,by kernel_rfl⟩,λit hi=> ?_,λd hd=>nomatch hd⟩
 .simp[Frame.at]at hi;rcases hi with rfl|rfl
  .exactλi hi=>by cases hi
  .show codeOk Tryz.prog uy false 91 _=true;kernel_rfl
 .simp[uy,pu,Frame.at]at ht
 .simp[Frame.at]at hi;rcases hi with rfl|rfl
  .exactλi hi=>by cases hi
  .show cT _=true;kernel_rfl
theorem Po(hP:(Tryz.f53).body=some (.seq p0 (.seq p1 (.seq (.region iP opsP false) (.seq p4 (.seq p5 (.seq p6 (.seq p7 p8))))))))(nb gb eb s fl):
 (ck Tryz.prog uy false (gw.at (pj nb gb eb s fl) (.inRegion opsP [2,3,4,5,6]::[.code (.seq p4 (.seq p5 (.seq p6 (.seq p7 p8))))]))/\dg (gw.at (pj nb gb eb s fl) (.inRegion opsP [2,3,4,5,6]::[.code (.seq p4 (.seq p5 (.seq p6 (.seq p7 p8))))])))/\
 lZ uy (gw.at (pj nb gb eb s fl) (.inRegion opsP [2,3,4,5,6]::[.code (.seq p4 (.seq p5 (.seq p6 (.seq p7 p8))))])):=by
 cases hP;refine⟨⟨⟨rfl,λi hi=> ?_,λt ht=> ?_,(λd hd=>nomatch hd),.inl rfl,by kernel_rfl⟩,λit hi=> ?_,λd hd=>nomatch hd⟩,λo t ho hd=> ?_⟩
 .simp[Frame.at]at hi;rcases hi with rfl|rfl
  .refine pX (f:=53) ?_ _;kernel_rfl
  .show codeOk Tryz.prog uy false 53 _=true;kernel_rfl
 .obtain rfl:t=19:=by simpa[uy,gw,Frame.at]using ht
  exact lT
 .simp[Frame.at]at hi;rcases hi with rfl|rfl
  .refine ws (id:=0) (draw:=false) ?_ _;kernel_rfl
  .show cT _=true;kernel_rfl
 .cases ho;cases hd;show(53,16)∉[(53,19)];simp
end
theorem PL(n):ck Tryz.prog [] true {kZ with defers:=[{target:=.fn (.func 115) #[vp (n+1),vp (n+3)],args:=#[]}]}/\dg {kZ with defers:=[{target:=.fn (.func 115) #[vp (n+1),vp (n+3)],args:=#[]}]}:=by
 refine⟨⟨rfl,(λi hi=>nomatch hi),(λt ht=>nomatch ht),λd hd=> ?_,.inl rfl,by kernel_rfl⟩,(λit hi=>nomatch hi),λd hd=> ?_⟩
 .obtain rfl:=AI.1 hd;rfl
 .obtain rfl:=AI.1 hd;trivial
theorem Hw{t0 t1 t2 t4 t5 p0 p1 p4 p5 p6 p7 p8 q0 q1 q2 q3 cQ i iT iP iQ opsT opsP opsQ}
 (hT:(Tryz.f91).body=some (.seq t0 (.seq t1 (.seq t2 (.seq (.region iT opsT false) (.seq t4 t5))))))
 (hP:(Tryz.f53).body=some (.seq p0 (.seq p1 (.seq (.region iP opsP false) (.seq p4 (.seq p5 (.seq p6 (.seq p7 p8))))))))
 (hQ:(Tryz.f92).body=some (.seq (.seq q0 (.seq q1 q2)) (.seq q3 (.block i (.loop (.seq (.region iQ opsQ false) cQ))))))
 {w nb gb eb s fl cs tC tM m all wr x} (hs:s.size<=1000) (hfl:fl<256) (hat:zF w nb gb eb) (hg:Ls w jb.toArray tC tM m)
 (hall:ew (decide (fl/2%2=1)) (decide (fl%2=1)) s.data.toList (s.data.toList.length+1) 0=some (all,wr)) (hx:pT qJ all=some x)
 {gs sl q t k} (k0:k≠0)
 (C:di Tryz.prog k (G (pu.at (goT w.heap.size s fl) (.inRegion opsT []::[.code (.seq t4 t5)])) (gw.at (pj nb gb eb s fl) (.inRegion opsP [2,3,4,5,6]::[.code (.seq p4 (.seq p5 (.seq p6 (.seq p7 p8))))])::cs))
  (born Tryz.prog {target:=.fn (.func 115) #[vp (w.heap.size+1),vp (w.heap.size+3)],args:=#[]}) gs q t) (ht:PT k (λ_=>False) (λ_=>False) t):
 Runs Tryz.prog (crowd gs (fq w s fl (decide (fl%2=1))) sl) t (Done (duo w nb gb eb s fl all cs k)
  (pG (AU w.heap.size nb gb eb) opsQ [.code cQ,.inLoop (.seq (.region iQ opsQ false) cQ),.inBlock i] DX (ghost (fq w s fl (decide (fl%2=1))) (w.heap.size+5) (gD w.heap.size nb gb eb 0 (all.map (Tok.val (w.heap.size+4))).toArray)) x)
  (rX (uL w.heap.size s fl m) (w.heap.size+1) (w.heap.size+3) all wr DX (ghost (fq w s fl (decide (fl%2=1))) (w.heap.size+4) (f8 w.heap.size (s.size+1) s fl (decide (fl%2=1)) jb.toArray tC tM m)))):=by
 have h1:=hat.n.lt';have h2:=hat.g.lt';have h3:=hat.e.lt';have h4:=hat.ln;have h5:=hat.lg;have h6:=hat.le;have hgl:=wN;have PA0:= @ON w nb gb eb 0 (all.map (Tok.val (w.heap.size+4))).toArray hat s fl (decide (fl%2=1));have PB0:=OM (cap:=s.size+1) hat.glob hg (by omega) s fl (decide (fl%2=1));generalize hfA:gD w.heap.size nb gb eb 0 (all.map (Tok.val (w.heap.size+4))).toArray=fA at PA0 ⊢;generalize hfB:f8 w.heap.size (s.size+1) s fl (decide (fl%2=1)) jb.toArray tC tM m=fB at PB0 ⊢;have a1:fA nb=some (.cells #[.nilIface] 86):=by rw[<- hfA];unfold gD;rw[if_pos rfl]
 have a2:fA gb=some (.cells #[.int .i64 0] 3):=by rw[<- hfA];unfold gD;rw[if_neg (Sz hat.n_g),if_pos rfl]
 have a3:fA eb=some (.cells #[.nilIface] 105):=by rw[<- hfA];unfold gD;rw[if_neg (Sz hat.n_e),if_neg (Sz hat.g_e),if_pos rfl]
 have a4:fA w.heap.size=some (.chan 0 (all.map (Tok.val (w.heap.size+4))).toArray false 0 0 false):=by rw[<- hfA];unfold gD;rw[if_neg (by omega),if_neg (by omega),if_neg (by omega),if_pos rfl]
 have a5:fA (w.heap.size+1)=some (.cells #[.chan (some w.heap.size)] 239 (0,1)):=by rw[<- hfA];unfold gD;rw[if_neg (by omega),if_neg (by omega),if_neg (by omega),if_neg (by omega),if_pos rfl]
 have ak:∀i o,fA i=some o->i=nb\/i=gb\/i=eb\/i=w.heap.size/\o.isChan=true\/i=w.heap.size+1:=λi o hf=>by
  rw[<- hfA]at hf;unfold gD at hf;repeat' split at hf
  all_goals first
   |(cases hf;simp_all[Obj.isChan];done)
   |(cases hf)
 have b3:fB w.heap.size=some (.chan (s.size+1) #[] false 0 0 false):=by rw[<- hfB];unfold f8;rw[if_neg (by omega),if_neg (by omega),if_pos rfl]
 have b1:fB 1=some (.cells jb.toArray tC (0,jb.toArray.size)):=by rw[<- hfB];unfold f8;rw[if_pos rfl]
 have b2:fB 2=some (.cells #[.int .i64 m] tM (0,1)):=by rw[<- hfB];unfold f8;rw[if_neg (by decide),if_pos rfl]
 have b4:fB (w.heap.size+1)=some (.cells #[.chan (some w.heap.size)] 239 (0,1)):=by rw[<- hfB];unfold f8;rw[if_neg (by omega),if_neg (by omega),if_neg (by omega),if_pos rfl]
 have b5:fB (w.heap.size+2)=some (.cells (iR s 0 fl w.heap.size (decide (fl%2=1))) 243):=by rw[<- hfB];unfold f8;rw[if_neg (by omega),if_neg (by omega),if_neg (by omega),if_neg (by omega),if_pos rfl]
 have b6:fB (w.heap.size+3)=some (.cells #[.pointer (some ⟨w.heap.size+2,0,none⟩)] 240 (0,1)):=by rw[<- hfB];unfold f8;rw[if_neg (by omega),if_neg (by omega),if_neg (by omega),if_neg (by omega),if_neg (by omega),if_pos rfl]
 have bk:∀i o,fB i=some o->i=1\/i=2\/i=w.heap.size/\o.isChan=true\/i=w.heap.size+1\/i=w.heap.size+2\/i=w.heap.size+3:=λi o hf=>by
  rw[<- hfB]at hf;unfold f8 at hf;repeat' split at hf
  all_goals first
   |(cases hf;simp_all[Obj.isChan];done)
   |(cases hf)
 have kA0:iA Tryz.prog (wo w.heap.size nb gb eb) (w.heap.size+5) (fq w s fl (decide (fl%2=1))).heap.size:=PA0.part;clear hfA hfB;obtain⟨ft1,ft2⟩:=tokF hT w.heap.size s fl;obtain⟨⟨fp1,fp2⟩,fp3⟩:=Po hP nb gb eb s fl;obtain⟨fb1,fb2⟩:=PL w.heap.size;let Z:=duo w nb gb eb s fl all cs k
 let gA:Tv:=bO (pu.at (goT w.heap.size s fl) (.inRegion opsT []::[.code (.seq t4 t5)])) ([gw.at (pj nb gb eb s fl) (.inRegion opsP [2,3,4,5,6]::[.code (.seq p4 (.seq p5 (.seq p6 (.seq p7 p8))))])]++[DX])
 let gB:Tv:=bO {kZ with defers:=[{target:=.fn (.func 115) #[vp (w.heap.size+1),vp (w.heap.size+3)],args:=#[]}]} ([]++[DX])
 have I:Inv2 Z 0 (wo w.heap.size nb gb eb) gA (ghost (fq w s fl (decide (fl%2=1))) (w.heap.size+5) fA) (G (pu.at (goT w.heap.size s fl) (.inRegion opsT []::[.code (.seq t4 t5)])) (gw.at (pj nb gb eb s fl) (.inRegion opsP [2,3,4,5,6]::[.code (.seq p4 (.seq p5 (.seq p6 (.seq p7 p8))))])::cs))
  (EZ w.heap.size) gB (ghost (fq w s fl (decide (fl%2=1))) (w.heap.size+4) fB) (born Tryz.prog {target:=.fn (.func 115) #[vp (w.heap.size+1),vp (w.heap.size+3)],args:=#[]}) (fq w s fl (decide (fl%2=1))) t:=by
  refine inv_start (Z:=Z) (tm:=false) (sA:=0) (rcA:=0) (sB:=0) PA0 PB0 (NM ..) (gQ ft1 (λc hc=>by obtain rfl:=AI.1 hc;exact fp1) ⟨λ_=>fp3,rfl⟩) (gQ fb1 (λc hc=>by cases hc) rfl)
   ⟨ft2,λc hc=> ?_,nofun,nofun⟩ ⟨fb2,λc hc=> ?_,nofun,nofun⟩ rfl rfl (λσ hσ=> ?_) (λσ hσ=> ?_) a4 (λi o hf hc=> ?_) rfl b3 (λi o hf hc=> ?_) rfl (Fl ..) (by show w.heap.size+4<_;omega) ?_ (λi hi=> ?_) (λi j hi hj he=> ?_) ht
   (λi hi hr hlt=> ?_) (λi hi hr hlt=> ?_) (λb _ _ _ _=>rfl) (by rw[uZ];exact By _) (Mv ..)
  .have hc:c∈[_,DX]:=hc;simp only[Th,Tz,or_false]at hc;rcases hc with rfl|rfl
   .exact fp2
   .exact Hb
  .have hc:c∈[DX]:=hc;obtain rfl:=AI.1 hc;exact Hb
  .have e:= @fO σ cs (pu.at (goT w.heap.size s fl) (.inRegion opsT []::[.code (.seq t4 t5)])) [gw.at (pj nb gb eb s fl) (.inRegion opsP [2,3,4,5,6]::[.code (.seq p4 (.seq p5 (.seq p6 (.seq p7 p8))))])] DX;have k:∀i,(wo w.heap.size nb gb eb).K i->σ i=i:=λi hi=>hσ.2 i hi
   rw[LX (k _ (.inr (.inr (.inr (.inr (.inl rfl)))))) (k _ (.inr (.inr (.inr (.inr (.inr (.inl rfl))))))) (k _ (.inr (.inr (.inr (.inr (.inr (.inr (.inl rfl)))))))) (k _ (.inr (.inr (.inr (.inr (.inr (.inr (.inr rfl))))))))]at e;simp only[List.map_cons,List.map_nil]at e;rw[LY (k _ (.inr (.inl rfl))) (k _ (.inr (.inr (.inl rfl)))) (k _ (.inr (.inr (.inr (.inl rfl)))))]at e;exact e
  .have e:= @fO σ [] {kZ with defers:=[{target:=.fn (.func 115) #[vp (w.heap.size+1),vp (w.heap.size+3)],args:=#[]}]} [] DX;have k:∀i,(EZ w.heap.size).K i->σ i=i:=λi hi=>hσ.2 i hi
   rw[LZ (k _ (.inr (.inr (.inl rfl)))) (k _ (.inr (.inr (.inr (.inr rfl)))))]at e;exact e
  .rcases ak i o hf with rfl|rfl|rfl|⟨rfl,_⟩|rfl
   .rw[a1]at hf;cases hf;cases hc
   .rw[a2]at hf;cases hf;cases hc
   .rw[a3]at hf;cases hf;cases hc
   .rfl
   .rw[a5]at hf;cases hf;cases hc
  .rcases bk i o hf with rfl|rfl|⟨rfl,_⟩|rfl|rfl|rfl
   .rw[b1]at hf;cases hf;cases hc
   .rw[b2]at hf;cases hf;cases hc
   .rfl
   .rw[b4]at hf;cases hf;cases hc
   .rw[b5]at hf;cases hf;cases hc
   .rw[b6]at hf;cases hf;cases hc
  .show¬ (wo w.heap.size nb gb eb).K (w.heap.size+4);rintro(h|h|h|h|h|h|h|h)<;>omega
  .rcases hi with hi|rfl|rfl|rfl|rfl|rfl|rfl|rfl
   .exact .inr (.inl ⟨i,by show i<=w.heap.size+3;omega,.inl hi,rfl⟩)
   .exact .inl ⟨_,_,_,a1⟩
   .exact .inl ⟨_,_,_,a2⟩
   .exact .inl ⟨_,_,_,a3⟩
   .exact .inr (.inr rfl)
   .exact .inl ⟨_,_,_,a5⟩
   .exact .inr (.inl ⟨_,by show w.heap.size+2<=w.heap.size+3;omega,.inr (.inr (.inr (.inl rfl))),rfl⟩)
   .exact .inr (.inl ⟨_,By _,.inr (.inr (.inr (.inr rfl))),rfl⟩)
  .have he:i=j:=he;subst he;obtain⟨c1,e1,z1,hi⟩:=hi;obtain⟨c2,e2,z2,hj⟩:=hj;show i=w.heap.size+1/\Lb w.heap.size i;rcases ak i _ hi with rfl|rfl|rfl|⟨rfl,hc⟩|rfl
   .rcases bk _ _ hj with h|h|⟨h,_⟩|h|h|h<;>omega
   .rcases bk _ _ hj with h|h|⟨h,_⟩|h|h|h<;>omega
   .rcases bk _ _ hj with h|h|⟨h,_⟩|h|h|h<;>omega
   .cases hc
   .exact⟨rfl,.inr (.inr (.inl rfl))⟩
  .obtain⟨c1,e1,z1,hi⟩:=hi;rcases ak i _ hi with rfl|rfl|rfl|⟨rfl,hc⟩|rfl
   .exact .inl rfl
   .exact .inr (.inl rfl)
   .exact .inr (.inr rfl)
   .cases hc
   .exact absurd rfl hr
  .obtain⟨c1,e1,z1,hi⟩:=hi;rcases bk i _ hi with rfl|rfl|⟨rfl,hc⟩|rfl|rfl|rfl
   .exact absurd (.inl rfl) hr
   .exact absurd (.inr (.inl rfl)) hr
   .cases hc
   .exact absurd (.inr (.inr (.inl rfl))) hr
   .rfl
   .exact absurd (.inr (.inr (.inr rfl))) hr
 have hne:∀(b:Nat),b=nb\/b=gb\/b=eb->b<w.heap.size:=λb hb=>by rcases hb with rfl|rfl|rfl<;>assumption
 have TA:=F0 (T:=KY) hT hP hQ (E:=AU w.heap.size nb gb eb) (D0:=DX) (ob:=w.heap.size+1) (w:=ghost (fq w s fl (decide (fl%2=1))) (w.heap.size+5) fA) (x:=x) (aT:=goT w.heap.size s fl) (aP:=pj nb gb eb s fl) (ts:=all)
  (v7:=undef) (n0:=.nilIface) (g0:=.int .i64 0) (e0:=.nilIface) (s:=0) (rc:=0) (by show w.heap.size<w.heap.size+5;omega) ⟨by show w.heap.size≠nb;omega,by show w.heap.size≠gb;omega,by show w.heap.size≠eb;omega⟩ ⟨hat.n_g,hat.n_e,hat.g_e⟩
  ⟨by show nb<w.heap.size+5;omega,by show gb<w.heap.size+5;omega,by show eb<w.heap.size+5;omega⟩ hx (by rw[io];rfl) (by
   unfold Sy;rw[eF (by show w.heap.size+1<_;omega) a5];rfl) (eF (by show w.heap.size<_;omega) a4)
  ⟨eF (by show nb<_;omega) a1,eF (by show gb<_;omega) a2,eF (by show eb<_;omega) a3⟩ (NO ..) ⟨rfl,rfl,rfl,rfl,rfl,rfl⟩ I.SA.iv
 have TB:=Gc (T:=KX) (E:=uL w.heap.size s fl m) (ob:=w.heap.size+1) (xb:=w.heap.size+3) (all:=all) (wr:=wr) (w:=ghost (fq w s fl (decide (fl%2=1))) (w.heap.size+4) fB) (D0:=DX) hs (By _) hfl
  ⟨eF (by show w.heap.size+2<_;omega) b5,⟨0,eF (by show w.heap.size<_;omega) b3⟩,by
   unfold Sy;rw[eF (by show 2<_;omega) b2];rfl,⟨_,_,eF (by show 1<_;omega) b1⟩⟩
  ⟨by
   unfold Sy;rw[eF (by show w.heap.size+1<_;omega) b4];rfl,by
   unfold Sy;rw[eF (by show w.heap.size+3<_;omega) b6];rfl⟩ (by simp[uL]) (by simp[uL]) hall I.SB.iv
 have TA':=TA.FN (K':=pG (AU w.heap.size nb gb eb) opsQ [.code cQ,.inLoop (.seq (.region iQ opsQ false) cQ),.inBlock i] DX (ghost (fq w s fl (decide (fl%2=1))) (w.heap.size+5) fA) x) λg u ⟨τ,d,h⟩=>.stop (h.af rfl)
 have TB':=TB.FN (K':=rX (uL w.heap.size s fl m) (w.heap.size+1) (w.heap.size+3) all wr DX (ghost (fq w s fl (decide (fl%2=1))) (w.heap.size+4) fB)) λg u ⟨τ,d,h⟩=>.stop (h.af rfl)
 have HY:=NI (Z:=Z) (A:=AU w.heap.size nb gb eb) (B:=uL w.heap.size s fl m) hQ (ob:=w.heap.size+1) (xb:=w.heap.size+3) (all:=all) (wr:=wr) (k:=[.code cQ,.inLoop (.seq (.region iQ opsQ false) cQ),.inBlock i])
  (wA:=ghost (fq w s fl (decide (fl%2=1))) (w.heap.size+5) fA) (wB:=ghost (fq w s fl (decide (fl%2=1))) (w.heap.size+4) fB) (x:=x) hall rfl rfl rfl rfl rfl rfl rfl k0 rfl rfl rfl rfl rfl rfl rfl rfl
  (by rw[io];show w.heap.size+3<_;omega) (λi hi=>by
   rw[io];rcases hi with rfl|rfl|rfl|rfl<;>omega)
 exact pair (Z:=Z) rfl HY (Mx rfl rfl rfl) TA' TB' I C
end
section
open Go.RowKit
theorem CY{σ}{w w':AS}{base base' e size n v xs}(h:w.ownsRow base e size v n xs)(hb:∀b,v.ownBlock=some b->base'<=σ b)
 (hk:∀b c,v.ownBlock=some b->w.heap[b]?=some (.cells c e (0,0))->w'.heap[σ b]?=some (.cells (c.map (ab σ)) e (0,0))):w'.ownsRow base' e size (ab σ v) n (xs.map (ab σ)):=by
 obtain⟨h1,h2⟩:=h;refine⟨by simpa using h1,?_⟩;rcases h2 with⟨rfl,h2⟩|⟨g,cap,cur,rfl,h3,h4,h5,h6,h7,h8⟩
 .exact .inl ⟨by simp,h2⟩
 .refine .inr ⟨σ g,cap,cur.map (ab σ),by simp[bi],hb g rfl,hk g cur rfl h4,h5,h6,by simpa using h7,?_⟩;simp[<- h8]
theorem AC{σ v b}(h:(ab σ v).ownBlock=some b):∃a,v.ownBlock=some a/\b=σ a:=by
 cases v;case slice a n c=>
  cases a with
  |none=>simp[Tq]at h
  |some a=>exact⟨a.block,rfl,by simpa[Tq,eq_comm]using h⟩
 all_goals simp[Tq]at h
theorem Repr.ren{σ w w' S S' v nd}(h:Repr w S v nd)(hk:∀b t c,S b->w.heap[b]?=some (.cells c t (0,0))->w'.heap[σ b]?=some (.cells (c.map (ab σ)) t (0,0))/\S' (σ b)):Repr w' S' (ab σ v) nd:=by
 have blk:∀{q t c},S q->a7 w q t c->a7 w' (σ q) t (c.map (ab σ)):=λhs hb=>(hk _ _ _ hs hb).1
 have ins:∀{q t c},S q->a7 w q t c->S' (σ q):=λhs hb=>(hk _ _ _ hs hb).2
 have row:∀{sl:BY}{vs:List BY},w.ownsRow 0 86 1 sl vs.length vs->(∀b,sl.ownBlock=some b->S b)->w'.ownsRow 0 86 1 (ab σ sl) (vs.map (ab σ)).length (vs.map (ab σ)):=λh1 h2=>by
  rw[List.length_map];exact CY h1 (λ_ _=>T3 _) λb c e hb=>(hk b _ c (h2 b e) hb).1
 have own:∀{sl:BY}{vs:List BY},w.ownsRow 0 86 1 sl vs.length vs->(∀b,sl.ownBlock=some b->S b)->∀b,(ab σ sl).ownBlock=some b->S' b:=λ{sl vs} h1 h2 b hb=>by
  obtain⟨a,ha,rfl⟩:=AC hb;rcases h1.2 with⟨rfl,_⟩|⟨g,cap,cur,rfl,_,h4,_⟩
  .cases ha
  .cases ha;exact(hk g _ _ (h2 g rfl) h4).2
 have kid:∀{vs:List BY}{ks:List Nd}{S2:Nat->Prop},(∀(i:Nat) v k,vs[i]?=some v->ks[i]?=some k->Repr w' S2 (ab σ v) k)->∀(i:Nat) v k,(vs.map (ab σ))[i]?=some v->ks[i]?=some k->Repr w' S2 v k:=λhh i v k h1 h2=>by
  grind
 induction h with
 |set hs hb=>simpa[bi]using Repr.set (ins hs hb) (by simpa using blk hs hb)
 |edge hs hb=>simpa[bi]using Repr.edge (ins hs hb) (by simpa using blk hs hb)
 | @seq q id sl ks vs hs hb ho hS hl _ ih=>simpa[bi]using Repr.seq (ins hs hb) (by simpa using blk hs hb) (row ho hS) (own ho hS) (by simpa using hl) (kid λi v k h1 h2=>ih i v k h1 h2)
 | @alt q id sl ks vs hs hb ho hS hl _ ih=>simpa[bi]using Repr.alt (ins hs hb) (by simpa using blk hs hb) (row ho hS) (own ho hS) (by simpa using hl) (kid λi v k h1 h2=>ih i v k h1 h2)
 |grp hs hb _ ih=>simpa[bi]using Repr.grp (ins hs hb) (by simpa using blk hs hb) ih
 |rep hs hb _ ih=>simpa[bi]using Repr.rep (ins hs hb) (by simpa using blk hs hb) ih
end
section
open Go.RowKit Go.Conc
attribute [local instance] dJ
theorem kr{P t b v w}(h0:∀w,(isAgg t).run P w= .ok false w)(hc:w.cell? ⟨b,0,none⟩=some v):(loadVar t ⟨b,0,none⟩).run P w= .ok v w:=by
 simp[loadVar,h0,hc]
theorem vi{w:AS}{b}{v:BY}{f t z}(h:w.heap[b]?=some (.cells (Array.map f #[v]) t z)):w.cell? ⟨b,0,none⟩=some (f v):=by
 simp_all[Sy]
theorem ca.app{Q R g w m t}(h:ca Q R g w)(hF:fX Q g w m t):Runs Q m t R:=h m t hF
theorem rO{P fn p q r t u v}(h:fn.results=#[.cell p t,.cell q u,.cell r v]){tmps a b c x y z w}
 (ha:tmps.getD p undef=vp a) (hb:tmps.getD q undef=vp b) (hc:tmps.getD r undef=vp c) (la:(loadVar t ⟨a,0,none⟩).run P w= .ok x w) (lb:(loadVar u ⟨b,0,none⟩).run P w= .ok y w) (lc:(loadVar v ⟨c,0,none⟩).run P w= .ok z w):
 (results fn tmps).run P w= .ok (.tuple #[x,y,z]) w:=by
 simp_all[results,asAddr]
def lN(n0:Nat)(w':AS)(wr:Option (Int×Int))(x:eJ Nd)(v:BY):Prop:=match x with
 | .ok nd s=>∃nv,v= .tuple #[nv,.int .i64 s.g,.nilIface]/\Repr w' (λb=>n0<=b) nv nd
 | .err y s=>∃q,v= .tuple #[.nilIface,.int .i64 0,.iface 133 (.pointer q)]/\(match y with
  | .own k a=>∃b,q=some ⟨b,0,none⟩/\n0<=b/\a7 w' b 137 #[.int .i64 a,.int .i64 k]
  | .tok=>s.t.bad=true->∀p,wr=some p->∃b,q=some ⟨b,0,none⟩/\n0<=b/\a7 w' b 137 #[.int .i64 p.2,.int .i64 p.1])
theorem lN.keep{n0 w w' wr x v}(h:lN n0 w wr x v)(hk:∀b t c,n0<=b->w.heap[b]?=some (.cells c t (0,0))->w'.heap[b]?=some (.cells c t (0,0)))(hs:∀b,n0<=b->b<w.heap.size->w'.heap[b]?=w.heap[b]?):lN n0 w' wr x v:=by
 cases x with
 |ok nd s=>obtain⟨nv,h1,h2⟩:=h;exact⟨nv,h1,h2.keep hs⟩
 |err y s=>
  obtain⟨q,h1,h2⟩:=h;refine⟨q,h1,?_⟩;cases y with
  |own k a=>obtain⟨b,h3,h4,h5⟩:=h2;exact⟨b,h3,h4,hk _ _ _ h4 h5⟩
  |tok=>exactλhb p hp=>by obtain⟨b,h3,h4,h5⟩:=h2 hb p hp;exact⟨b,h3,h4,hk _ _ _ h4 h5⟩
theorem Jp{ln fold l}:∀n p{all wr},p<=l.length->ew ln fold l n p=some (all,wr)->∀q,wr=some q->∃(i:Nat)(t:Tok),all[i]?=some t/\t.bad=true:=by
 intro n;induction n with
 |zero=>intro p all wr hp h;cases h
 |succ n ih=>
  intro p all wr hp h q hq;unfold ew at h;obtain⟨x,hx,_,_,hle,hok⟩:=ib ln fold l p hp;simp[hx]at h;cases hm:x.more with
  |true=>
   rw[if_pos hm,OF]at h;obtain⟨⟨ts,wr'⟩,h3,heq⟩:=h;obtain⟨rfl,rfl⟩:=heq;obtain⟨i,t,h4,h5⟩:=ih x.p hle h3 q hq;exact⟨i+1,t,by simpa using h4,h5⟩
  |false=>
   rw[if_neg (by simp[hm])]at h;cases h;exact⟨0,x.t,rfl,by simp[hok.bad,hq]⟩
theorem M6(σ)(b:T9)(a todo):aC σ (b.at a todo)=b.at {tmps:=a.tmps.map (ab σ),defers:=a.defers.map (lu σ)} todo:=by
 rfl
section
variable{Z:Duo}{n:Nat}{pA pB:Part}{gA gA' gB gB':Tv}{wA wB w':AS}{t:Trace}
theorem Inv2.BS(I:Inv2 Z n pA gA wA gA' pB gB wB gB' w' t){σ}(hσ:Ag pA σ){b ty c z}(h:wA.heap[b]?=some (.cells c ty z))(hr:¬ Z.RoA b):w'.heap[σ b]?=some (.cells (c.map (ab σ)) ty z):=
 ((I.SA.relW σ hσ).blk b _ h).2 hr
theorem Inv2.PK(I:Inv2 Z n pA gA wA gA' pB gB wB gB' w' t){σ}(hσ:Ag pB σ){b ty c z}(h:wB.heap[b]?=some (.cells c ty z))(hr:¬ Z.RoB b):w'.heap[σ b]?=some (.cells (c.map (ab σ)) ty z):=
 ((I.SB.relW σ hσ).blk b _ h).2 hr
end
theorem Il{q0 q1 q2 q3 cQ}{i iQ}{opsQ}(hQ:(Tryz.f92).body=some (.seq (.seq q0 (.seq q1 q2)) (.seq q3 (.block i (.loop (.seq (.region iQ opsQ false) cQ))))))
 {R} {w} {nb gb eb} {s} {fl} {c} {cs} {m} {all} {wr} {x} {k n0} {wA0 wB0} (hB0:w.heap.size+4<=wB0.heap.size)
 (hn:n0<=nb/\n0<=gb/\n0<=eb/\n0<=w.heap.size) (hlt:nb<w.heap.size/\gb<w.heap.size/\eb<w.heap.size) (hgl:Tryz.prog.globals.size<n0) (hall:ew (decide (fl/2%2=1)) (decide (fl%2=1)) s.data.toList (s.data.toList.length+1) 0=some (all,wr))
 (k1:∀w' v,lN n0 w' wr x v->(∀b,b<n0->w'.heap[b]?=w.heap[b]?)->n0<=w'.heap.size->w'.os=w.os->w'.output=w.output->ca Tryz.prog R (bO (c.finish v) cs) w')
 {mc t} (h:Done (duo w nb gb eb s fl all (c::cs) k) (pG (AU w.heap.size nb gb eb) opsQ [.code cQ,.inLoop (.seq (.region iQ opsQ false) cQ),.inBlock i] DX wA0 x) (rX (uL w.heap.size s fl m) (w.heap.size+1) (w.heap.size+3) all wr DX wB0) mc t):Runs Tryz.prog mc t R:=by
 obtain⟨pA,gA,wA,gA',pB,gB,wB,gB',w',c0,z,ok,t0,I,h2,hKB,hst,_,hF⟩:=h.Rz;obtain⟨z',h1⟩:=L0 hQ h2;have hok:ok=true:=by
  have:=(hst true w).symm.trans (h1 true w);simpa using(by simpa using this:_/\ok=true).2
 subst hok;obtain⟨a,PF,pb,rfl,hq,hPF,⟨s0,rc0,hch⟩,h4,nv,gv,ev,hRs,h0⟩:=h2;have hσ:Ag pA (pA.far w'.heap.size 0):=bL I.SA.part 0;have hτ:Ag pB (pB.far w'.heap.size 0):=bL I.SB.part 0;generalize pA.far w'.heap.size 0=σ at hσ;generalize pB.far w'.heap.size 0=τ at hτ;have hrel:=I.SA.relG σ hσ;have hroA:∀b,b≠w.heap.size+1->¬ (duo w nb gb eb s fl all (c::cs) k).shut.RoA b:=λb hb h=>hb h
 have hin:∀b ty cc z,wA.heap[b]?=some (.cells cc ty z)->b≠w.heap.size+1->n0<=σ b:=λb ty cc z hb hne=>by
  have hK:=I.SA.cells ⟨_,_,_,hb⟩;have e:σ b=pA.κ b:=hσ.2 b hK;rcases SN (pA.κ b) (w.heap.size+4)with hl|hl
  .rcases I.mA b ⟨_,_,_,hb⟩ (hroA b hne) hl with h|h|h<;>omega
  .omega
 have hinB:∀b ty cc z,wB.heap[b]?=some (.cells cc ty z)->w.heap.size+4<=b->n0<=τ b/\¬ (duo w nb gb eb s fl all (c::cs) k).shut.RoB b:=λb ty cc z hb hne=>by
  have hK:=I.SB.cells ⟨_,_,_,hb⟩;have e:τ b=pB.κ b:=hτ.2 b hK;have hg3:=wN;have hro:¬ (duo w nb gb eb s fl all (c::cs) k).shut.RoB b:=λh=>by
   rcases h with h|h|h|h<;>omega
  refine⟨?_,hro⟩;rcases SN (pB.κ b) (w.heap.size+4)with hl|hl
  .have:pB.κ b=w.heap.size+2:=I.mB b ⟨_,_,_,hb⟩ hro hl;omega
  .omega
 have hOut:lN n0 w' wr x (.tuple #[ab σ nv,ab σ gv,ab σ ev]):=by
  cases x with
  |ok nd s2=>
   obtain⟨rfl,rfl,h7⟩:=h0;refine⟨ab σ nv,by simp,?_⟩;refine h7.ren λb ty cc hb hc=> ?_
   have hne:b≠w.heap.size+1:=by
    have:w.heap.size+5<=b:=hb;omega
   exact⟨I.BS hσ hc (hroA b hne),hin b _ _ _ hc hne⟩
  |err y s2=>
   obtain⟨rfl,rfl,q,rfl,hE⟩:=h0;refine⟨q.map (bi σ),by simp,?_⟩;cases y with
   |own kk aa=>
    obtain⟨b,rfl,hb,hc⟩:=hE;have hne:b≠w.heap.size+1:=by
     have:w.heap.size+5<=b:=hb;omega
    refine⟨σ b,rfl,hin b _ _ _ hc hne,?_⟩;have:=I.BS hσ hc (hroA b hne);show w'.heap[σ b]?=_;simpa using this
   |tok=>
    intro hbad p hp;obtain⟨a2,_,_,⟨_,p2,F,e,h8,h9,ha⟩⟩:=hKB;obtain⟨hce,hle⟩:=ha p hp;obtain⟨h5,h6⟩:=hinB e _ _ _ hce (by omega);obtain⟨j,tk,hj,hd⟩:=Jp _ _ (T3 _) hall p hp;obtain⟨bf,sd,hO,h3⟩:=I.val;obtain⟨sd2,hch2⟩:=h8.chan;have he:bf=F:=by
     have:=hO.1.symm.trans hch2;simpa using And.left (And.right (by simpa using this))
    subst he;have hje:σ (w.heap.size+4)=τ e:=by
     refine DE σ τ hd (h3 j (Tok.val (w.heap.size+4) tk) (Tok.val e tk) ?_ ?_ σ τ hσ hτ)
     .show(all.map (Tok.val (w.heap.size+4))).toArray[j]?=_;simp[hj]
     .rw[<- Array.getElem?_toList,h9];simp[hj]
    have hq:q=gH (w.heap.size+4) s2.t.bad:=hE;rw[hbad]at hq;subst hq;refine⟨τ e,by simp[gH,bi,hje],h5,?_⟩;have:=I.PK hτ hce h6;show w'.heap[τ e]?=_;simpa using this
 have hold:∀b,b<n0->w'.heap[b]?=w.heap[b]?:=λb hb=>by
  have:=I.fr b (by show b<w.heap.size+4;omega) (by show b≠w.heap.size;omega) (by rintro(h|h|h)<;>omega) (by intro h;have h:b=w.heap.size+2:=h;omega);exact this.trans (ku w s fl _ (by omega))
 have hsz:w.heap.size+4<=w'.heap.size:=I.nz;have hNxt:=k1 w' _ hOut hold (by omega) (I.SA.relW σ hσ).os.2 I.out;have hnbs:∀b,b<w.heap.size->b≠w.heap.size+1:=λb h=>by omega
 have c1:w'.cell? ⟨σ nb,0,none⟩=some (ab σ nv):=vi (I.BS hσ hRs.n (hroA _ (hnbs nb hlt.1)));have c2:w'.cell? ⟨σ gb,0,none⟩=some (ab σ gv):=vi (I.BS hσ hRs.g (hroA _ (hnbs gb hlt.2.1)));have c3:w'.cell? ⟨σ eb,0,none⟩=some (ab σ ev):=vi (I.BS hσ hRs.e (hroA _ (hnbs eb hlt.2.2)));have e1:gA'.frame=aC σ (rW.at a (.inRegion opsQ [0,1]::[.code cQ,.inLoop (.seq (.region iQ opsQ false) cQ),.inBlock i])):=hrel.frame;have e2:gA'.callers=aC σ PF::c::cs:=hrel.callers;have hF2:fX Tryz.prog (bO ((aC σ (rW.at a (.inRegion opsQ [0,1]::[.code cQ,.inLoop (.seq (.region iQ opsQ false) cQ),.inBlock i]))).finish (recvd true z false)) (aC σ PF::c::cs)) w' mc t:=by
  rw[<- e1,<- e2];exact hF
 have hPFf:(aC σ PF).fn=53:=hPF.fn;have k2:ca Tryz.prog R (bO {aC σ PF with mode:=.returning} (c::cs)) w':=by
  refine ca.FO (fn:=Tryz.f53) (v:=.tuple #[ab σ nv,ab σ gv,ab σ ev]) rfl hPF.kind ?_ ?_ (λτ d=> ?_) hNxt
  .show PF.defers.map (lu σ)=[];rw[hPF.defers];rfl
  .show Tryz.prog.funcs[PF.fn]?=_;rw[hPF.fn];exact Tryz.func53
  .have hr:(Tryz.f53).results=#[.cell 4 86,.cell 5 3,.cell 6 105]:=by rfl
   have get:∀j v,PF.tmps.getD j undef=v->j<29->((aC σ PF).tmps).getD j undef=ab σ v:=λj v h hj=>by
    have hs:=hPF.size;subst h;simp[Array.getD,hs,hj]
   exact rO hr ((get 4 _ hPF.s4 (by decide)).trans (by simp[vp,bi];rfl)) ((get 5 _ hPF.s5 (by decide)).trans (by simp[vp,bi];rfl)) ((get 6 _ hPF.s6 (by decide)).trans (by simp[vp,bi];rfl))
    (kr λu=>by simp[go_sem] c1) (kr λu=>by simp[go_sem] c2) (kr λu=>by simp[go_sem] c3)
 have hPm:(aC σ PF).mode= .returning\/∃v,(aC σ PF).mode= .panicking [{v:=v,recovered:=true}]:=by
  rcases hPF.mode with h|⟨v,h⟩
  .exact .inl (by rw[fL,h];rfl)
  .exact .inr ⟨ab σ v,by rw[fL,h];rfl⟩
 clear hF hst h1 hrel hOut hold hNxt I hKB e1 e2 c1 c2 c3 hRs h0 h4 hin hinB hroA;cases hQ;rw[M6 σ rW]at hF2;obtain⟨u,rfl⟩:=hq.out;refine ca.app ?_ hF2;rw[TE];simp only[List.map_toArray,List.map_cons,List.map_nil];simp only[SC,recvd,Ts,T6,Option.bind_some,List.setIfInBounds_toArray,List.set_cons_succ,List.set_cons_zero,if_true];refine ca.value (v:=.bool false) w' rfl rfl (by simp[rW]) (λc h=>by cases h) (λτ d=> ?_) ?_
 .simp[SP,go_sem,If]
 simp only[SC,zq0];refine ca.ctl (λw=>stepG_region_end) rfl ?_;refine ca.ctl (λw=>stepG_seq) rfl ?_;refine ca.ctl (λw=>stepG_cond (t:=false) (by rfl)) rfl ?_;refine ca.ctl (λw=>stepG_exit (by rfl)) rfl ?_;refine ca.ctl (λw=>stepG_end) rfl ?_;exact ca.OW (fn:=Tryz.f92) rfl rfl rfl Tryz.func92 (by rfl) hPm k2
end
section
open Go.RowKit
theorem PH.func{f fn}(hf:Tryz.prog.funcs[f]?=some fn)(h:lH.contains f=true):PH.funcs[f]?=some fn:=ry hf (bP h)
section
attribute [local instance] fI
end
@[go_sem] theorem PH.RS(args w):(x5 52 args).run PH w= .ok (.enter 52 args) w:=a8 (PH.func Tryz.func52 (by decide)) (by kernel_rfl) rfl args w
@[go_sem] theorem PH.RG(args w):(x5 90 args).run PH w= .ok (.enter 90 args) w:=a8 (PH.func Tryz.func90 (by decide)) (by kernel_rfl) rfl args w
@[go_sem] theorem PH.Sr(args w):(x5 3 args).run PH w= .ok (.enter 3 args) w:=a8 (PH.func Tryz.func3 (by decide)) (by kernel_rfl) rfl args w
@[go_sem] theorem PH.Sj(args w):(x5 13 args).run PH w= .ok (.enter 13 args) w:=a8 (PH.func Tryz.func13 (by decide)) (by kernel_rfl) rfl args w
@[go_sem] theorem PH.call14(args w):(x5 14 args).run PH w= .ok (.enter 14 args) w:=a8 (PH.func Tryz.func14 (by decide)) (by kernel_rfl) rfl args w
@[go_sem] theorem PH.call16(args w):(x5 16 args).run PH w= .ok (.enter 16 args) w:=a8 (PH.func Tryz.func16 (by decide)) (by kernel_rfl) rfl args w
@[go_sem] theorem PH.Sf(args w):(x5 20 args).run PH w= .ok (.enter 20 args) w:=a8 (PH.func Tryz.func20 (by decide)) (by kernel_rfl) rfl args w
@[go_sem] theorem PH.Sa(args w):(x5 26 args).run PH w= .ok (.enter 26 args) w:=a8 (PH.func Tryz.func26 (by decide)) (by kernel_rfl) rfl args w
@[go_sem] theorem PH.RX(args w):(x5 36 args).run PH w= .ok (.enter 36 args) w:=a8 (PH.func Tryz.func36 (by decide)) (by kernel_rfl) rfl args w
@[go_sem] theorem PH.S0(args w):(x5 33 args).run PH w= .ok (.enter 33 args) w:=a8 (PH.func Tryz.func33 (by decide)) (by kernel_rfl) rfl args w
@[go_sem] theorem PH.RR(args w):(x5 53 args).run PH w= .ok (.enter 53 args) w:=a8 (PH.func Tryz.func53 (by decide)) (by kernel_rfl) rfl args w
@[go_sem] theorem PH.S5(args w):(x5 30 args).run PH w= .ok (.enter 30 args) w:=a8 (PH.func Tryz.func30 (by decide)) (by kernel_rfl) rfl args w
@[go_sem] theorem PH.RV(args w):(x5 43 args).run PH w= .ok (.enter 43 args) w:=a8 (PH.func Tryz.func43 (by decide)) (by kernel_rfl) rfl args w
@[go_sem] theorem PH.RQ(args w):(x5 57 args).run PH w= .ok (.enter 57 args) w:=a8 (PH.func Tryz.func57 (by decide)) (by kernel_rfl) rfl args w
@[go_sem] theorem PH.RP(args w):(x5 58 args).run PH w= .ok (.enter 58 args) w:=a8 (PH.func Tryz.func58 (by decide)) (by kernel_rfl) rfl args w
@[go_sem] theorem PH.RO(args w):(x5 59 args).run PH w= .ok (.enter 59 args) w:=a8 (PH.func Tryz.func59 (by decide)) (by kernel_rfl) rfl args w
@[go_sem] theorem PH.RB(args w):(x5 97 args).run PH w= .ok (.enter 97 args) w:=a8 (PH.func Tryz.func97 (by decide)) (by kernel_rfl) rfl args w
@[go_sem] theorem PH.RA(args w):(x5 98 args).run PH w= .ok (.enter 98 args) w:=a8 (PH.func Tryz.func98 (by decide)) (by kernel_rfl) rfl args w
@[go_sem] theorem PH.Ri(args w):(x5 122 args).run PH w= .ok (.enter 122 args) w:=a8 (PH.func Tryz.func122 (by decide)) (by kernel_rfl) rfl args w
@[go_sem] theorem PH.Rh(args w):(x5 123 args).run PH w= .ok (.enter 123 args) w:=a8 (PH.func Tryz.func123 (by decide)) (by kernel_rfl) rfl args w
@[go_sem] theorem PH.Rg(args w):(x5 124 args).run PH w= .ok (.enter 124 args) w:=a8 (PH.func Tryz.func124 (by decide)) (by kernel_rfl) rfl args w
@[go_sem] theorem PH.QX(args w):(x5 148 args).run PH w= .ok (.enter 148 args) w:=a8 (PH.func Tryz.func148 (by decide)) (by kernel_rfl) rfl args w
@[go_sem] theorem PH.QW(args w):(x5 149 args).run PH w= .ok (.enter 149 args) w:=a8 (PH.func Tryz.func149 (by decide)) (by kernel_rfl) rfl args w
@[go_sem] theorem PH.QV(args w):(x5 150 args).run PH w= .ok (.enter 150 args) w:=a8 (PH.func Tryz.func150 (by decide)) (by kernel_rfl) rfl args w
@[go_sem] theorem PH.QU(args w):(x5 151 args).run PH w= .ok (.enter 151 args) w:=a8 (PH.func Tryz.func151 (by decide)) (by kernel_rfl) rfl args w
@[go_sem] theorem PH.QT(args w):(x5 152 args).run PH w= .ok (.enter 152 args) w:=a8 (PH.func Tryz.func152 (by decide)) (by kernel_rfl) rfl args w
@[go_sem] theorem PH.QS(args w):(x5 153 args).run PH w= .ok (.enter 153 args) w:=a8 (PH.func Tryz.func153 (by decide)) (by kernel_rfl) rfl args w
@[go_sem] theorem PH.QK(args w):(x5 164 args).run PH w= .ok (.enter 164 args) w:=a8 (PH.func Tryz.func164 (by decide)) (by kernel_rfl) rfl args w
@[go_sem] theorem PH.QJ(args w):(x5 165 args).run PH w= .ok (.enter 165 args) w:=a8 (PH.func Tryz.func165 (by decide)) (by kernel_rfl) rfl args w
@[go_sem] theorem PH.QC(args w):(x5 176 args).run PH w= .ok (.enter 176 args) w:=a8 (PH.func Tryz.func176 (by decide)) (by kernel_rfl) rfl args w
@[go_sem] theorem PH.QB(args w):(x5 177 args).run PH w= .ok (.enter 177 args) w:=a8 (PH.func Tryz.func177 (by decide)) (by kernel_rfl) rfl args w
@[go_sem] theorem PH.Qz(args w):(x5 186 args).run PH w= .ok (.enter 186 args) w:=a8 (PH.func Tryz.func186 (by decide)) (by kernel_rfl) rfl args w
end
def jQ(s:g7):Prop:=∀t∈s.ts,t.kind=8->t.bad=true
def l5{α:Type}:Option (eJ α)->Prop
 |some (.ok _ s)=>jQ s
 |some (.err .tok s)=>s.t.bad=true
 |_=>True
theorem dv{α β x}{f:α->g7->Option (eJ β)}(hx:l5 x)(hf:∀a s,jQ s->l5 (f a s)):l5 (bN x f):=by
 cases x with
 |none=>trivial
 |some r=>
  cases r with
  |ok a s=>exact hf a s hx
  |err e s=>cases e<;>exact hx
theorem kj{s}(h:jQ s):l5 (cy s):=by
 unfold cy;split
 .trivial
 .rename_i t ts he;split
  .rename_i hk;exact h t (by simp[he]) hk
  .exactλu hu=>h u (by grind)
theorem ma{s}(h:jQ s):l5 (gn s):=by
 unfold gn;split
 .exact h
 .trivial
theorem J7(f):(∀d s,jQ s->l5 (im f d s))/\(∀d id ks s,jQ s->l5 (il f d id ks s))/\(∀d s,jQ s->l5 (kS f d s))/\(∀d id ks s,jQ s->l5 (jP f d id ks s))/\
 (∀d s,jQ s->l5 (gm f d s))/\(∀k s,jQ s->l5 (fP f k s))/\(∀d s,jQ s->l5 (ik f d s))/\∀d s,jQ s->l5 (iy f d s):=by
 induction f with
 |zero=>exact⟨λ_ _ _=>trivial,λ_ _ _ _ _=>trivial,λ_ _ _=>trivial,λ_ _ _ _ _=>trivial,λ_ _ _=>trivial,λ_ _ _=>trivial,λ_ _ _=>trivial,λ_ _ _=>trivial⟩
 |succ f ih=>
  obtain⟨i1,i2,i3,i4,i5,i6,i7,i8⟩:=ih;refine⟨λd s h=>dv (ma h) λ_ _ h=>i2 _ _ _ _ h,λd id ks s h=> ?_,λd s h=>dv (ma h) λ_ _ h=>i4 _ _ _ _ h,λd id ks s h=> ?_,λd s h=>dv (i7 _ _ h) λ_ _ h=>i6 _ _ h,λk s h=> ?_,λd s h=> ?_,λd s h=> ?_⟩
  .unfold il;split
   .refine dv (i3 _ _ h) λk s h=> ?_
    split
    .exact dv (kj h) λ_ _ h=>i2 _ _ _ _ h
    .exact h
   .trivial
  .unfold jP;repeat' split
   all_goals first
    |trivial
    |exact dv (i5 _ _ h) λ_ _ h=>i4 _ _ _ _ h
  .unfold fP;split
   .split
    .rename_i hb;exact hb
    .exact dv (ma h) λ_ _ h=>dv (kj h) λ_ _ h=>i6 _ _ h
   .exact h
  .unfold ik;split
   .exact i8 _ _ h
   .refine dv (kj h) λ_ _ h=>dv (ma h) λ_ _ h=> ?_
    repeat' split
    all_goals exact h
  .unfold iy;split
   .trivial
   .split
    .refine dv (ma (s:=⟨s.ts,s.t,s.n,s.g+1⟩) h) λ_ _ h=>dv (kj h) λ_ _ h=>dv (i1 _ _ h) λ_ _ h=> ?_
     split
     .exact dv (kj h) λ_ _ h=>h
     .trivial
    .trivial
theorem JJ{t0 ts}(h:∀t∈ts,t.kind=8->t.bad=true){s}(hx:pT t0 ts=some (.err .tok s)):s.t.bad=true:=by
 have:l5 (pT t0 ts):=dv (kj (s:=⟨ts,t0,0,0⟩) h) λ_ _ h=>(J7 _).1 _ _ h
 rw[hx]at this;exact this
theorem Jq{ln fold l}:∀n p{all wr},p<=l.length->ew ln fold l n p=some (all,wr)->∀t∈all,t.kind=8->t.bad=true:=by
 intro n;induction n with
 |zero=>intro p all wr hp h;cases h
 |succ n ih=>
  intro p all wr hp h t ht hk;unfold ew at h;obtain⟨x,hx,_,_,hle,hok⟩:=ib ln fold l p hp;simp[hx]at h;cases hm:x.more with
  |true=>
   rw[if_pos hm,OF]at h;obtain⟨⟨ts,wr'⟩,h3,heq⟩:=h;obtain⟨rfl,rfl⟩:=heq;rcases Th.1 ht with rfl|ht
   .exact hok.k8 hk
   grind
  |false=>
   rw[if_neg (by simp[hm])]at h;cases h;obtain rfl:=AI.1 ht;exact hok.k8 hk
section
open Go.RowKit Go.Conc
theorem Repr.OR{w w' S v nd}(h:Repr w S v nd)(hk:∀b t c,S b->w.heap[b]?=some (.cells c t (0,0))->w'.heap[b]?=some (.cells c t (0,0))):Repr w' S v nd:=by
 have row:∀{sl:BY}{vs:List BY},w.ownsRow 0 86 1 sl vs.length vs->(∀b,sl.ownBlock=some b->S b)->w'.ownsRow 0 86 1 sl vs.length vs:=λh1 h2=>by
  refine⟨h1.1,?_⟩;rcases h1.2 with h3|⟨g,cap,cur,rfl,hb,hh,h3⟩
  .exact .inl h3
  .exact .inr ⟨g,cap,cur,rfl,hb,hk g _ _ (h2 g rfl) hh,h3⟩
 induction h with
 |set hs hb=>exact .set hs (hk _ _ _ hs hb)
 |edge hs hb=>exact .edge hs (hk _ _ _ hs hb)
 |seq hs hb ho hS hl _ ih=>exact .seq hs (hk _ _ _ hs hb) (row ho hS) hS hl λi v k h1 h2=>ih i v k h1 h2
 |alt hs hb ho hS hl _ ih=>exact .alt hs (hk _ _ _ hs hb) (row ho hS) hS hl λi v k h1 h2=>ih i v k h1 h2
 |grp hs hb _ ih=>exact .grp hs (hk _ _ _ hs hb) ih
 |rep hs hb _ ih=>exact .rep hs (hk _ _ _ hs hb) ih
def xi(n0:Nat)(w':AS)(r:Option (g8 Nd))(v:BY):Prop:=match r with
 |some (.ok nd s)=>∃nv,v= .tuple #[nv,.int .i64 s.g,.nilIface]/\Repr w' (λb=>n0<=b) nv nd
 |some (.err k a)=>∃b,v= .tuple #[.nilIface,.int .i64 0,.iface 133 (.pointer (some ⟨b,0,none⟩))]/\n0<=b/\a7 w' b 137 #[.int .i64 a,.int .i64 k]
 |none=>False
theorem xi.keep{n0 w w' r v}(h:xi n0 w r v)(hk:∀b t c,n0<=b->w.heap[b]?=some (.cells c t (0,0))->w'.heap[b]?=some (.cells c t (0,0))):xi n0 w' r v:=by
 match r,h with
 |some (.ok nd s),⟨nv,h1,h2⟩=>exact⟨nv,h1,h2.OR hk⟩
 |some (.err k a),⟨b,h1,h2,h3⟩=>exact⟨b,h1,h2,hk _ _ _ h2 h3⟩
theorem LU{n0 w' wr x r v}(h:lN n0 w' wr x v)(ha:Alike wr x r)(hb:∀s,x= .err .tok s->s.t.bad=true):xi n0 w' (some r) v:=by
 cases ha with
 |ok a s σ hg=>obtain⟨nv,h1,h2⟩:=h;exact⟨nv,by rw[<- hg];omega,h2⟩
 |err e s k at_ he=>
  obtain⟨q,h1,h2⟩:=h;cases e with
  |own k' a'=>
   obtain⟨rfl,rfl⟩:=he;obtain⟨b,rfl,h3,h4⟩:=h2;exact⟨b,h1,h3,h4⟩
  |tok=>
   obtain⟨b,rfl,h3,h4⟩:=h2 (hb s rfl) (k,at_) he;exact⟨b,h1,h3,h4⟩
def gK(s:ByteArray)(fl:Nat):Option (g8 Nd):=if 120<s.size then some (.err 1 0)else xP (decide (fl/2%2=1)) (decide (fl%2=1)) s.data.toList
structure fx(w:AS):Prop where
 glob:FZ w
 sc:∃tC tM m,Ls w jb.toArray tC tM m
theorem fx.keep{w w'}(h:fx w)(hk:∀b,b<w.heap.size->w'.heap[b]?=w.heap[b]?):fx w':=by
 have hlt:∀g,g<=Tryz.prog.globals.size->g<w.heap.size:=λg hg=>by
  obtain⟨o,h1,_⟩:=h.glob g hg<;>grind
 have h3:=wN;refine⟨λg hg=> ?_,?_⟩
 .rw[hk g (hlt g hg)];exact h.glob g hg
 .obtain⟨tC,tM,m,⟨h1,h2,h4⟩⟩:=h.sc;refine⟨tC,tM,m,⟨?_,h2,?_⟩⟩
  .rw[hk _ (hlt 1 (by omega))];omega
  grind
theorem fx.pat{h0 w w'}(h:fx w)(hp:bg h0 w w'):fx w':=by
 have hc:∀(b:Nat) c t z,w.heap[b]?=some (.cells c t z)->w'.heap[b]?=some (.cells c t z):=λb c t z hb=>by
  rcases hp.blk b with e|⟨e,_⟩<;>grind
 refine⟨λg hg=> ?_,?_⟩
 .obtain⟨o,h1,h2,h3⟩:=h.glob g hg;rcases hp.blk g with e|⟨e,⟨l,e'⟩|⟨l,e'⟩⟩
  .grind
  .exact⟨_,e',trivial,.inr rfl⟩
  .exact⟨_,e',trivial,.inr rfl⟩
 .obtain⟨tC,tM,m,⟨⟨z,h1,h1'⟩,h2,⟨z2,h4,h5⟩⟩⟩:=h.sc;exact⟨tC,tM,m,⟨⟨z,hc _ _ _ _ h1,h1'⟩,h2,⟨z2,hc _ _ _ _ h4,h5⟩⟩⟩
structure Parsed(w:AS)(s:ByteArray)(fl:Nat)(v:BY)(w':AS):Prop where
 old:∀b,b<w.heap.size->w'.heap[b]?=w.heap[b]?
 size:w.heap.size<=w'.heap.size
 os:w'.os=w.os
 out:w'.output=w.output
 says:xi w.heap.size w' (gK s fl) v
theorem OZ{P}{D:dZ P}{K}{b:T9}{k cs a w}{l:List Oper}{Q1}(s n m)(hok:D.okF b.fn)(hk:b.kind≠.early)(hl:s+n<=l.length)
 (h:∀w1,w1.heap=w.heap->w1.os=w.os->w1.output=w.output->wpList P l.toArray Q1 ((l.drop s).take n) a w1) (hq:∀e a w,Q1 e a w->e= .normal)
 (hn:∀a' w',Q1 .normal a' w'->D.H K (bO (b.at a' (.inRegion l.toArray (AT (s+n) m)::k)) cs) w'):D.H K (bO (b.at a (.inRegion l.toArray (AT s (n+m))::k)) cs) w:=by
 have e:AT s (n+m)=AT s n++AT (s+n) m:=by rw[<- Tt]
 rw[e];have hlen:((l.drop s).take n).length=n:=by rw[SZ,SJ];omega
 refine D.go λτ d=> ?_
 have hw:=h (ah w τ d) rfl rfl rfl;rw[<- qF ((l.drop s).take n) s (λj hj=>by
  rw[hlen]at hj;simp[Tm hj]),hlen]at hw
 rcases DK (AT (s+n) m) _ a _ hw b k cs hk with⟨a',w',h1,h2⟩|⟨ch,a',w',h1,_⟩|⟨a',w',h1⟩
 .exact dD h2 ⟨⟨rfl,hok⟩,hn _ _ h1⟩
 .exact absurd (hq _ _ _ h1) (by simp)
 grind
section
attribute [local instance] fI
theorem F1{p0 p1 p4 p5 p6 p7 p8 iP opsP}
 (hP:(Tryz.f53).body=some (.seq p0 (.seq p1 (.seq (.region iP opsP false) (.seq p4 (.seq p5 (.seq p6 (.seq p7 p8))))))))
 {h0 K w w2 s fl c cs} (hs:s.size<=120) (hfl:fl<256) (h6:Under h0 w) (hG:fx w) (hO:an w)
 (h2:w2.heap=((w.heap.push (.cells #[.nilIface] 86)).push (.cells #[.int .i64 0] 3)).push (.cells #[.nilIface] 105)) (h3:w2.os=w.os) (h4:w2.output=w.output)
 (hr:∀v W,Parsed w s fl v W->an W->∀m t,pH h0 Tryz.prog (bO (c.finish v) cs) W m t->IW h0 Tryz.prog K m t):
 (br ek h0).H K (bO (gw.at (pj w.heap.size (w.heap.size+1) (w.heap.size+2) s fl) (.inRegion opsP [2,3,4,5,6]::[.code (.seq p4 (.seq p5 (.seq p6 (.seq p7 p8))))])) (c::cs)) w2:=by
 obtain⟨t0,t1,t2,t4,t5,iT,opsT,hT⟩:∃t0 t1 t2 t4 t5 iT opsT,(Tryz.f91).body=some (.seq t0 (.seq t1 (.seq t2 (.seq (.region iT opsT false) (.seq t4 t5))))):=⟨_,_,_,_,_,_,_,rfl⟩;obtain⟨q0,q1,q2,q3,cQ,i,iQ,opsQ,hQ⟩:∃q0 q1 q2 q3 cQ i iQ opsQ,(Tryz.f92).body=some (.seq (.seq q0 (.seq q1 q2)) (.seq q3 (.block i (.loop (.seq (.region iQ opsQ false) cQ))))):=⟨_,_,_,_,_,_,_,_,rfl⟩;intro hI m t hF;have hsz2:w2.heap.size=w.heap.size+3:=by rw[h2];simp
 have hold2:∀b,b<w.heap.size->w2.heap[b]?=w.heap[b]?:=λb hb=>by
  rw[h2,SM (by simp;omega),IT (by simp;omega),IT hb,SS hb]
 have b1:w2.heap[w.heap.size]?=some (.cells #[.nilIface] 86):=by
  rw[h2,SM (by simp;omega),IT (by simp),Array.getElem_push_eq]
 have b2:w2.heap[w.heap.size+1]?=some (.cells #[.int .i64 0] 3):=by
  rw[h2];simp only[Te,To];simp
 have b3:w2.heap[w.heap.size+2]?=some (.cells #[.nilIface] 105):=by
  rw[h2];simp only[Te,To];simp
 obtain⟨h1,w2',hp,ho,hD⟩:=hF.real;have hc:∀(b:Nat) c t z,w2.heap[b]?=some (.cells c t z)->w2'.heap[b]?=some (.cells c t z):=λb c t z hb=>by
  rcases hp.blk b with e|⟨e,_⟩
  .rw[<- e];exact hb
  .rw[hb]at e;cases e
 have hG2:fx w2':=(hG.keep hold2).pat hp;have hgl:Tryz.prog.globals.size<w.heap.size:=by
  obtain⟨o,g1,_⟩:=hG.glob _ (By _);exact(Sx.1 g1).1
 have hsz':w2'.heap.size=w.heap.size+3:=hp.size.trans hsz2;obtain⟨ts,wr,hall,_,x,r,hx,hrT,hal⟩:=Gb (decide (fl/2%2=1)) (decide (fl%2=1)) s.data.toList (by rw[<- Su];exact hs) qJ;have hbad:∀s',x= .err .tok s'->s'.t.bad=true:=λs' e=>by
  subst e;exact JJ (Jq _ _ (T3 _) hall) hx
 have hfull:gK s fl=some r:=by unfold gK;rw[if_neg (by omega)];exact hrT
 have hat:zF w2' w.heap.size (w.heap.size+1) (w.heap.size+2):=⟨hc _ _ _ _ b1,hc _ _ _ _ b2,hc _ _ _ _ b3,hgl,by omega,by omega,by omega,by omega,by omega,hG2.glob⟩;obtain⟨tC,tM,mm,hsc⟩:=hG2.sc;refine Ge (R:=λm' t'=>∃g' w',K g' w'/\Iv g' w'/\pH h0 Tryz.prog g' w' m' t') hP (NP ..) hfl hT (λgs sl q τ d t2 k k0 C ht=> ?_) m t hD;have hat2:zF (ah w2' τ d) w.heap.size (w.heap.size+1) (w.heap.size+2):=⟨hat.n,hat.g,hat.e,hat.ln,hat.lg,hat.le,hat.n_g,hat.n_e,hat.g_e,hat.glob⟩;have hsc2:Ls (ah w2' τ d) jb.toArray tC tM mm:=⟨hsc.cls,hsc.ren,hsc.max⟩;have hjoin:=Hw hT hP hQ (w:=ah w2' τ d) (by omega) hfl hat2 hsc2 hall hx (gs:=gs) (sl:=sl) (q:=q) (t:=t2) k0 C ht;refine Runs.bind hjoin λm3 t3 hdone=> ?_
 refine Il hQ (n0:=w.heap.size) (w:=ah w2' τ d) (by rw[io];exact By _) ⟨By _,by omega,by omega,by show w.heap.size<=w2'.heap.size;omega⟩ ⟨by show w.heap.size<w2'.heap.size;omega,by show w.heap.size+1<w2'.heap.size;omega,by show w.heap.size+2<w2'.heap.size;omega⟩ hgl hall
  (λw3 v hOut hkeep hle hos hout=> ?_) hdone
 intro m4 t4 h7;have h8:=Ke (we:=w) hp ho h6 (by omega) hold2 hkeep hle h7;have h5:=LU hOut hal hbad;refine hr v (cU w w3) ⟨λb hb=>iX hb hle,by rw[mF];exact hle,?_,?_,?_⟩ (CS hO (Tu hgl) hle) m4 t4 h8
 .show w3.os=w.os;rw[hos,<- h3];exact hp.os
 .show w3.output=w.output;rw[hout,<- h4];exact hp.output
 .rw[hfull];exact h5.keep λb t c hb hc=>xL hb hc
end
end
section
open Go.RowKit Go.Conc
attribute [local instance] fI
def Kb(n:Nat)(s:ByteArray)(fl:Nat):Act:= {tmps:=#[.string s,.int .u8 fl,undef,undef,vp n,vp (n+1),vp (n+2),undef,undef,undef,undef,undef,undef,undef,undef,undef,undef,undef,undef,undef,undef,undef,undef,undef,undef,undef,undef,undef,undef],defers:=[]}
def NQ(n:Nat)(s:ByteArray)(fl:Nat):Act:= {tmps:=#[.string s,.int .u8 fl,undef,undef,vp n,vp (n+1),vp (n+2),undef,.string s,.int .i64 s.size,.bool false,undef,undef,undef,undef,undef,undef,undef,undef,undef,undef,undef,undef,undef,undef,undef,undef,undef,undef],defers:=[]}
structure Three(w w':AS):Prop where
 heap:w'.heap=((w.heap.push (.cells #[.nilIface] 86)).push (.cells #[.int .i64 0] 3)).push (.cells #[.nilIface] 105)
 os:w'.os=w.os
 out:w'.output=w.output
structure MW(w:AS)(a:Act)(w':AS):Prop where
 defers:a.defers=[]
 s4:a.tmps.getD 4 undef=vp w.heap.size
 s5:a.tmps.getD 5 undef=vp (w.heap.size+1)
 s6:a.tmps.getD 6 undef=vp (w.heap.size+2)
 n:w'.cell? ⟨w.heap.size,0,none⟩=some .nilIface
 g:w'.cell? ⟨w.heap.size+1,0,none⟩=some (.int .i64 0)
 e:w'.cell? ⟨w.heap.size+2,0,none⟩=some (.iface 133 (vp (w.heap.size+3)))
 b:a7 w' (w.heap.size+3) 137 #[.int .i64 0,.int .i64 1]
 old:∀b,b<w.heap.size->w'.heap[b]?=w.heap[b]?
 size:w.heap.size<=w'.heap.size
 os:w'.os=w.os
 out:w'.output=w.output
theorem JI{D:dZ PH}{p0 p1 p2}(hP:(Tryz.f53).body=some (.seq p0 (.seq p1 p2)))(w s fl):
 cL D p0 (λe a w'=>e= .normal/\a=Kb w.heap.size s fl/\Three w w') {tmps:=#[.string s,.int .u8 fl]++T5 (29-2) undef,defers:=[]} w:=by
 cases hP;refine qG λτ d=> ?_
 have e1:(ah w τ d).heap=w.heap:=rfl;have e2:(ah w τ d).os=w.os:=rfl;have e3:(ah w τ d).output=w.output:=rfl;generalize ah w τ d=u at e1 e2 e3 ⊢;have hT:∀u',u'.heap=((u.heap.push (.cells #[.nilIface] 86)).push (.cells #[.int .i64 0] 3)).push (.cells #[.nilIface] 105)->u'.os=u.os->u'.output=u.output->Three w u':=λu' h1 h2 h3=>⟨by rw[<- e1];omega,h2.trans e2,h3.trans e3⟩
 replace hT:=up hT;simp[No];go_wp2;exact⟨rfl,hT.out _ rfl rfl rfl⟩
theorem Three.PJ{w u}(h:Three w u):a7 u w.heap.size 86 #[.nilIface]/\a7 u (w.heap.size+1) 3 #[.int .i64 0]/\a7 u (w.heap.size+2) 105 #[.nilIface]/\u.heap.size=w.heap.size+3:=by
 refine⟨?_,?_,?_,by simp[h.heap]⟩
 .show u.heap[w.heap.size]?=_;rw[h.heap,SM (by grind),IT (by simp),Array.getElem_push_eq]
 .show u.heap[w.heap.size+1]?=_;rw[h.heap];grind
 .show u.heap[w.heap.size+2]?=_;rw[h.heap];grind
theorem Three.old{w u}(h:Three w u):∀b,b<w.heap.size->u.heap[b]?=w.heap[b]?:=λb hb=>by
 rw[h.heap,SM (by grind),IT (by grind),IT hb,SS hb]
theorem JH{D:dZ PH}{p0 p1 p2}(hP:(Tryz.f53).body=some (.seq p0 (.seq p1 p2))){w w1}(h3:Three w w1)(s fl):
 cL D p1 (λe a w'=>e= .normal/\s.size<=120/\a=NQ w.heap.size s fl/\Three w w'\/e= .ret/\120<s.size/\MW w a w') (Kb w.heap.size s fl) w1:=by
 cases hP;unfold Kb;refine qG λτ d=> ?_
 have k3:Three w (ah w1 τ d):=⟨h3.heap,h3.os,h3.out⟩;generalize ah w1 τ d=u at k3 ⊢;obtain⟨b1,b2,b3,hz⟩:=k3.PJ;have hold:=k3.old;have hos:=k3.os;have hout:=k3.out;have c1:=b1.cell 0;have c2:=b2.cell 0;have c3:=b3.cell 0;have f1:=b1.frozen;have f2:=b2.frozen;have f3:=b3.frozen;have hid:=up (⟨b1,b2,b3,hz,hold,hos,hout,k3⟩:a7 u w.heap.size 86 #[.nilIface]/\a7 u (w.heap.size+1) 3 #[.int .i64 0]/\a7 u (w.heap.size+2) 105 #[.nilIface]/\u.heap.size=w.heap.size+3/\(∀b,b<w.heap.size->u.heap[b]?=w.heap[b]?)/\u.os=w.os/\u.output=w.output/\Three w u);clear b1 b2 b3 hold hos hout k3;by_cases hl:120<s.size
 .have hl2:(120:Int)<s.size:=by omega
  have hd:decide ((120:Int)<s.size)=true:=by simpa using hl2
  replace hl:=up hl;clear hl2;go_wp2;obtain⟨b1,b2,b3,hz,hold,hos,hout,_⟩:=hid.out;refine⟨hl.out,rfl,rfl,rfl,rfl,?_,?_,?_,?_,λb hb=> ?_,?_,hos,hout⟩
  .exact a7.cell ((((b1.bI 0 _).far (by dsimp only;omega) _).far (by dsimp only;omega) _).alloc _) 0
  .exact a7.cell ((((b2.far (by dsimp only;omega) _).bI 0 _).far (by dsimp only;omega) _).alloc _) 0
  .exact a7.cell ((((b3.far (by dsimp only;omega) _).far (by dsimp only;omega) _).bI 0 _).alloc _) 0
  .have:=a7.new (((u.setCell ⟨w.heap.size,0,none⟩ .nilIface).setCell ⟨w.heap.size+1,0,none⟩ (.int .i64 0)).setCell ⟨w.heap.size+2,0,none⟩ (.iface 133 (vp (w.heap.size+3)))) 137 #[.int .i64 0,.int .i64 1];rw[SG,SG,SG,hz]at this;exact this
  .rw[Below.heap_alloc _ _ b (by simp;omega),Below.heap_setCell _ _ _ b (by dsimp only;omega),Below.heap_setCell _ _ _ b (by dsimp only;omega),Below.heap_setCell _ _ _ b (by dsimp only;omega)];exact hold b hb
  .simp;omega
 .have hd:decide ((120:Int)<s.size)=false:=by simp;omega
  replace hl:=up hl;go_wp2;have hl:=hl.out;exact⟨by omega,rfl,hid.out.2.2.2.2.2.2.2⟩
theorem F4{h0 ops i rest o Q a w s}{fl:Nat}(ho:ops[i]?=some o)(hw:Region.wanted o (yielded ops a.tmps)=true)
 (hx:∀u,(SP a.eval o).run PH u= .ok (.enter 53 #[.string s,.int .u8 fl]) u) (hfl:fl<256) (h7:Under h0 w) (hG:fx w)
 (hr:∀v w',Parsed w s fl v w'->aV (br ek h0) ops Q rest (a.put o.dst v) w'):aV (br ek h0) ops Q (i::rest) a w:=λb k cs K hok hk hcc=>by
 intro h2;obtain⟨p0,p1,iP,opsL,p4,p5,p6,p7,p8,hP⟩:∃p0 p1 iP,∃opsL:List Oper,∃p4 p5 p6 p7 p8,(Tryz.f53).body=some (.seq p0 (.seq p1 (.seq (.region iP opsL.toArray false) (.seq p4 (.seq p5 (.seq p6 (.seq p7 p8))))))):=⟨_,_,_,_,_,_,_,_,_,rfl⟩;have h1:(br ek h0).okF 53:=bP (by decide);have h8:PH.funcs[53]?=some Tryz.f53:=PH.func Tryz.func53 (by decide);have hg:=λu:AS=>stepG_op (P:=PH) (b:=b) (k:=k) (cs:=cs) (w:=u) (rest:=rest) ho hw
 have hent:T4 PH 53 #[.string s,.int .u8 fl] .normal=gw.at {tmps:=#[.string s,.int .u8 fl]++T5 (29-2) undef,defers:=[]} [.code (.seq p0 (.seq p1 (.seq (.region iP opsL.toArray false) (.seq p4 (.seq p5 (.seq p6 (.seq p7 p8)))))))]:=by
  simp_all[T4,Frame.at,gw,Tryz.ntmps53]
 have hfin:∀v,(b.at a (.inRegion ops (i::rest)::k)).finish v=b.at (a.put o.dst v) (.inRegion ops rest::k):=λv=>by
  rw[TE,ho];rfl
 have hjg:JG (bO (b.at a (.inRegion ops (i::rest)::k)) cs):=by
  rcases h2.2 with⟨⟨d,hd,_⟩,_⟩|⟨h,_⟩
  .cases hd
  omega
 refine(br ek h0).one (fr':=T4 PH 53 #[.string s,.int .u8 fl] .normal) (cs':=b.at a (.inRegion ops (i::rest)::k)::cs) (λu=>step_lone_go (by rw[hg];simp_all[stepG.apply,Frame.at])) h1 ?_ h2;rw[hent];refine(br ek h0).one (λu=>step_seq) h1 ?_;refine s9 (JI hP w s fl) h1 (by simp[gw]) λa1 w1 ⟨e1,h3⟩=> ?_
 subst e1;refine(br ek h0).one (λu=>step_seq) h1 ?_;refine JH (D:=br ek h0) hP h3 s fl gw _ _ K h1 (by simp[gw]) λe a2 w2 hq=> ?_
 rcases hq with⟨rfl,hs,rfl,h4⟩|⟨rfl,hs,hT⟩
 .refine(br ek h0).one (λu=>step_seq) h1 ((br ek h0).one (λu=>step_region) h1 ?_);have hlen:opsL.length=7:=by cases hP;rfl
  have e7:List.range opsL.toArray.size=AT 0 (2+5):=by rw[SD,hlen,List.range_eq_range']
  rw[e7];refine OZ (Q1:=λe a' w'=>e= .normal/\a'=pj w.heap.size (w.heap.size+1) (w.heap.size+2) s fl/\Three w w') 0 2 5 h1 (by simp[gw]) (by omega) (λu k1 k2 k3=> ?_) (λe a w h=>h.1) λa3 w3 ⟨_,e3,h5⟩=> ?_
  .have h6:Three w u:=⟨k1.trans h4.heap,k2.trans h4.os,k3.trans h4.out⟩;replace h6:=up h6;clear k1 k2 k3 h4 h3;cases hP;unfold NQ;simp only[zq1];go_wp2;exact⟨rfl,h6.out⟩
  .subst e3;exact F1 hP (w:=w) hs hfl h7 hG h2.1 h5.heap h5.os h5.out λv W hW h9 m t hF=>by
    rw[hfin]at hF;have hpd:(a.put o.dst v).defers=a.defers:=by unfold SC;split <;>rfl
    refine hr v W hW b k cs K hok hk hcc ⟨h9,.inr ⟨⟨⟨λit hit=> ?_,λd hd=>hjg.1.2 d (by have hd:d∈(a.put o.dst v).defers:=hd;rw[hpd]at hd;exact hd)⟩,hjg.2.1,nofun,nofun⟩,nofun⟩⟩ m t hF;rcases Th.1 hit with rfl|hit
    .exactλj hj o ho=>hjg.1.1 (.inRegion ops (i::rest)) (SO ..) j (Tb _ hj) o ho
    .exact hjg.1.1 it (Tb _ hit)
 .intro todo;have hres:(results Tryz.f53 a2.tmps).run PH w2= .ok (.tuple #[.nilIface,.int .i64 0,.iface 133 (vp (w.heap.size+3))]) w2:=
   rO (t:=86) (u:=3) (v:=105) (by rfl) hT.s4 hT.s5 hT.s6 (kr λu=>by simp[go_sem] hT.n) (kr λu=>by simp[go_sem] hT.g) (kr λu=>by simp[go_sem] hT.e)
  refine Hs (v:=.tuple #[.nilIface,.int .i64 0,.iface 133 (vp (w.heap.size+3))]) (o:=o) ⟨rfl,hT.defers,rfl,_,h8,hres⟩ ho hok (hr _ _ ⟨hT.old,hT.size,hT.os,hT.out,?_⟩ b k cs K hok hk hcc);unfold gK;rw[if_pos hs];exact⟨_,rfl,by omega,hT.b⟩
end
section
open Go.RowKit Go.Conc
structure jw(w' w:AS):Prop where
 heap:w'.heap=w.heap
 os:w'.os=w.os
 out:w'.output=w.output
structure Old(w w':AS):Prop where
 old:∀b,b<w.heap.size->w'.heap[b]?=w.heap[b]?
 size:w.heap.size<=w'.heap.size
 os:w'.os=w.os
 out:w'.output=w.output
theorem Old.refl(w):Old w w:=⟨λ_ _=>rfl,By _,rfl,rfl⟩
theorem Old.trans{a b c}(h:Old a b)(k:Old b c):Old a c:=⟨λi hi=>(k.old i (Tf hi h.size)).trans (h.old i hi),SW h.size k.size,k.os.trans h.os,k.out.trans h.out⟩
theorem Old.eqv{a b c}(h:Old a b)(k:jw c b):Old a c:=⟨λi hi=>by rw[k.heap];exact h.old i hi,by rw[k.heap];exact h.size,k.os.trans h.os,k.out.trans h.out⟩
theorem jw.old{a b}(k:jw b a):Old a b:=(Old.refl a).eqv k
theorem Old.alloc{a b}(h:Old a b)(o):Old a (b.alloc o):=⟨λi hi=>(Below.heap_alloc _ _ i (Tf hi h.size)).trans (h.old i hi),by have:=h.size;simp;omega,h.os,h.out⟩
theorem Old.setCell{a b}(h:Old a b){p}(hp:a.heap.size<=p.block)(v):Old a (b.setCell p v):=⟨λi hi=>(Below.heap_setCell _ _ _ i (by omega)).trans (h.old i hi),by rw[SG];exact h.size,h.os,h.out⟩
theorem Below.ea{w w'}(h:Below w.heap.size w w'):Old w w':=⟨λb hb=>h.block b hb,h.size,h.os,h.output⟩
theorem Parsed.ea{w w' s fl v}(h:Parsed w s fl v w'):Old w w':=⟨h.old,h.size,h.os,h.out⟩
theorem fx.ea{w w'}(h:fx w)(k:Old w w'):fx w':=h.keep k.old
section
variable{P:SV}{D:dZ P}{c:Code}{Q:Exit->Act->AS->Prop}{a:Act}{w:AS}
theorem bm(h:∀w1,jw w1 w->c.wp P Q a w1):cL D c Q a w:=qG λτ d=>h _ ⟨rfl,rfl,rfl⟩
theorem bq{l:List Oper}(s n m)(h:∀N,RowKit.Hid (∀a' w',aV D l.toArray Q (AT (s+n) m) a' w'->N a' w')->∀w1,jw w1 w->wpList P l.toArray (Exit.then N Q) ((l.drop s).take n) a w1)(hl:s+n<=l.length):
 aV D l.toArray Q (AT s (n+m)) a w:=by
 have e:AT s (n+m)=AT s n++AT (s+n) m:=by rw[<- Tt]
 rw[e];have hlen:((l.drop s).take n).length=n:=by rw[SZ,SJ];omega
 refine r7 (Q1:=Exit.then (λa' w'=>aV D l.toArray Q (AT (s+n) m) a' w') Q) (λτ d=> ?_) (λa' w' h=>h) (λch a' w' h=>h) λa' w' h=>h
 have:=h (λa' w'=>aV D l.toArray Q (AT (s+n) m) a' w') (up λ_ _ h=>h) (ah w τ d) ⟨rfl,rfl,rfl⟩;rw[<- qF ((l.drop s).take n) s (λj hj=>by
  rw[hlen]at hj;simp[Tm hj]),hlen]at this
 omega
end
attribute [local instance] fI
theorem Under.ea{h0 w w'}(h:Under h0 w)(k:Old w w'):Under h0 w':=h.keep k.old k.size
def FV:= {t:Array BY//t=#[.int .u32 0,.int .i32 0,.int .u32 0,.int .u64 0,.int .u64 0,.int .u64 0,.int .u64 0,.bool false]}
def KV(n0:Nat)(w':AS)(fl:Nat)(r:Option (g8 Nd))(v:BY):Prop:=match r with
 |some (.ok nd σ)=>∃x nv,∃tl:FV,v= .tuple #[vp x,.nilIface]/\n0<=x/\w'.heap[x]?=some (.cells (#[nv,.int .i64 σ.g,.int .u8 fl]++tl.1) 103 (0,0))/\Repr w' (λb=>n0<=b/\b≠x) nv nd
 |some (.err k a)=>∃b,v= .tuple #[.pointer none,.iface 133 (vp b)]/\n0<=b/\a7 w' b 137 #[.int .i64 a,.int .i64 k]
 |none=>False
theorem Ir{h0 w s}{fl:Nat}(hfl:fl<256)(h1:Under h0 w)(hG:fx w):
 cb (br ek h0) 36 #[.string s,.int .u8 fl] w λe w'=>∃v,e= .returned v/\Old w w'/\KV w.heap.size w' fl (gK s fl) v:=by
 refine bu (bP (by decide)) (λw' ⟨v,h,_⟩=>nomatch h) (PH.func Tryz.func36 (by decide)) rfl ?_;simp only[Tryz.ntmps36,SD,SH,SF,SR,SQ,No,Sv,SI,SE,SL,SK];refine ac λK hK=> ?_
 refine bm λw1 e1=> ?_
 have O1:=up e1.old;clear e1;go_wp2;refine hK.out _ _ ?_;clear hK K;have hG1:=up (hG.ea O1.out);have h1s:Under h0 w1:=h1.ea O1.out;refine ac λK hK=> ?_
 refine ao ?_;show aV _ _ _ (AT 0 (2+8)) _ _;refine bq 0 2 8 (λN hN w2 e2=> ?_) (by decide);simp only[zq1];have O2:=up (O1.out.eqv e2);clear e2;go_wp2;refine hN.out _ _ ?_;clear hN N;have hG2:=up (hG.ea O2.out);have h2:Under h0 w2:=h1.ea O2.out;refine F4 (s:=s) (fl:=fl) (i:=2) (rest:=AT 3 (7+0)) rfl rfl λu=>by simp[go_sem] hfl h2 hG2.out λv w3 hp=> ?_
 have O3:=up (O2.out.trans hp.ea);have hsz:=O2.out.size;have hs:=hp.says;cases hr:gK s fl with
 |none=>rw[hr]at hs;exact hs.elim
 |some r=>
 rw[hr]at hs;clear hp;cases r with
 |ok nd σ=>
  obtain⟨nv,rfl,hrep⟩:=hs;obtain⟨vt,vq,rfl⟩:=hrep.form;replace hrep:=up hrep;replace hsz:=up hsz;clear hG hG1 hG2 O1 O2;simp only[SC,zq0];refine bq 3 7 0 (λN hN w4 e4=> ?_) (by decide);simp only[zq1];have O4:=up (O3.out.eqv e4);replace e4:=up e4;clear O3;go_wp2;refine hN.out _ _ (az (hK.out _ _ ?_));clear hN N hK K;refine bm λw5 e5=> ?_
  have O5:=up (O4.out.eqv e5);replace e5:=up e5;clear O4;go_wp2;go_ret2
  have h53:w5.heap=w3.heap:=e5.out.heap.trans e4.out.heap;have hz:=congrArg T0 h53;refine⟨_,rfl,O5.out.alloc _,?_⟩;rw[hr];refine⟨w5.heap.size,.iface vt (.pointer (some ⟨vq,0,none⟩)),⟨#[.int .u32 0,.int .i32 0,.int .u32 0,.int .u64 0,.int .u64 0,.int .u64 0,.int .u64 0,.bool false],rfl⟩,rfl,O5.out.size,a7.new w5 103 _,?_⟩;refine(hrep.out.mono (S':=λb=>w.heap.size<=b/\b≠w5.heap.size) λb hb hlt=>⟨SW hsz.out hb,by omega⟩).keep λb hb hlt=> ?_
  rw[Below.heap_alloc _ _ b (by omega),h53]
 |err k at_=>
  obtain⟨b,rfl,hb,hB⟩:=hs;replace hB:=up hB;replace hb:=up hb;replace hsz:=up hsz;clear hG hG1 hG2 O1 O2;simp only[SC,zq0];refine bq 3 7 0 (λN hN w4 e4=> ?_) (by decide);simp only[zq1];have O4:=up (O3.out.eqv e4);replace hB:=up (hB.out.af e4.heap);clear O3 e4;go_wp2;refine hN.out _ _ (az (hK.out _ _ ?_));clear hN N hK K;refine bm λw5 e5=> ?_
  have O5:=up (O4.out.eqv e5);replace hB:=up (hB.out.af e5.heap);clear O4 e5;go_wp2;go_ret2
  refine⟨_,rfl,O5.out,?_⟩;rw[hr];exact⟨b,rfl,SW hsz.out hb.out,hB.out⟩
end
end Go.Proofs.YtkgohmcmmcpigaaGreatDoor
