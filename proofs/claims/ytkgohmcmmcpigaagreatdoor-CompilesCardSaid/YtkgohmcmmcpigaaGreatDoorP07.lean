/- A part of the proof that Compiles holds; no condition. -/
import Derived.Deep.QuietTactic
import Derived.BigQuiet
import Derived.Shelf.Strings.Cut
import Derived.Shelf.Strings.Prefix
import Derived.Shelf.Small.Strs
import Derived.Test.YtkgohmcmmcpigaaGreatDoorP05
import Derived.Test.YtkgohmcmmcpigaaGreatDoorP06
set_option linter.unusedSectionVars false
set_option linter.unusedSimpArgs false
set_option linter.unusedVariables false
namespace Go.Proofs.YtkgohmcmmcpigaaGreatDoor
open Go
open Go.Lib renaming hid->AI,size_eq->PG,indexByte->PX,cut->Qj,toList_data->Qm,hasPrefix->QK
open Go renaming World->AS,Value->AT,callFunc->BY,Program->IS,Goroutine->PK,Frame->PY,execOp->Qf,TypeId->Ql,Operand->Qw,Question->QV
open _root_.List renaming mem_singleton->By,range'->If,mem_cons_self->PJ,length_cons->PN,append_toArray->PP,size_toArray->PU,length_nil->PW,push_toArray->Q4,cons_append->Q6,nil_append->Q7,length_drop->Q8,mem_cons->Qe,not_mem_nil->Qg,getD_eq_getElem?_getD->Qi,length_take->Qo,getElem?_eq_getElem->Qv,getElem?_cons_zero->Qx,getElem?_cons_succ->Qy,drop_eq_nil_of_le->Qz,all_eq_true->QB,mem_cons_of_mem->QD,take_succ_cons->QE,range->QM,drop_eq_getElem_cons->QN,getElem?_take_of_lt->QO,take_zero->QS,getElem?_toArray->QT,range'_append_1->QU,getElem?_drop->QX,getElem?_map->QZ
open _root_.Nat renaming le_refl->IN,lt_or_ge->Qa,reduceSub->Qc,reduceAdd->Qd,le_trans->Qk,lt_irrefl->Qq,zero_le->Qr,lt_of_lt_of_le->QI,le_of_lt->QW,lt_succ_self->R1
open _root_.Array renaming getElem?_eq_some_iff->IT,getElem_push_lt->PE,replicate_zero->PL,replicate_succ->PM,getElem?_push->PR,getElem?_eq_none->Q2,getElem?_eq_getElem->Q9,size_push->Qb,getElem?_push_lt->Qh,size->Qp,replicate->Qt,mem_iff_getElem?->QA,ext_getElem?->QY,all_eq_true->R0,ofFn->R6
open Go.Act renaming eval->No,put->Q3
open Go.IntKind renaming wrap_i64->OF
open _root_.Option renaming map_eq_some_iff->PD,isSome_iff_exists->Qu
open Go.Extern renaming find->PO,findNext->Qn
open _root_.Ne renaming symm->PV
open Go.World renaming cell?->PZ,size_setCell->Q5,setCell->QJ
open Go.Frame renaming enter->Qs,finish_at->R4
open _root_.UInt8 renaming toNat_inj->QC
open Go.Calls renaming quiet_of_same->QH
open Go.Value renaming bool->QL,ownBlock->QQ
open _root_.Bool renaming or_eq_true->QP,and_eq_true->R2,eq_iff_iff->R5
open Go.Result renaming andThen->R7
section
open Go.RowKit
def lB:List Nat:=[115,116,132,133,134,135,136,137,138,139,140,158,159,160,161,170,171,172,173,185,187,188,189,190,191]
def bB:Nat→Option Code:=only lB
noncomputable abbrev PB:IS:=alt Tryz.prog bB
theorem PB.func{f:Nat}{fn:Func}(hf:Tryz.prog.funcs[f]?=some fn)(h:lB.contains f=true):PB.funcs[f]?=some fn:=uJ hf (ie h)
@[go_sem] theorem PB.P6(args:Array AT)(w:AS):(BY 115 args).run PB w= .ok (.enter 115 args) w:=ao (PB.func Tryz.func115 (by decide)) (by kernel_rfl) rfl args w
@[go_sem] theorem PB.P5(args:Array AT)(w:AS):(BY 116 args).run PB w= .ok (.enter 116 args) w:=ao (PB.func Tryz.func116 (by decide)) (by kernel_rfl) rfl args w
@[go_sem] theorem PB.OW(args:Array AT)(w:AS):(BY 132 args).run PB w= .ok (.enter 132 args) w:=ao (PB.func Tryz.func132 (by decide)) (by kernel_rfl) rfl args w
@[go_sem] theorem PB.OV(args:Array AT)(w:AS):(BY 133 args).run PB w= .ok (.enter 133 args) w:=ao (PB.func Tryz.func133 (by decide)) (by kernel_rfl) rfl args w
@[go_sem] theorem PB.OU(args:Array AT)(w:AS):(BY 134 args).run PB w= .ok (.enter 134 args) w:=ao (PB.func Tryz.func134 (by decide)) (by kernel_rfl) rfl args w
@[go_sem] theorem PB.OT(args:Array AT)(w:AS):(BY 135 args).run PB w= .ok (.enter 135 args) w:=ao (PB.func Tryz.func135 (by decide)) (by kernel_rfl) rfl args w
@[go_sem] theorem PB.OS(args:Array AT)(w:AS):(BY 136 args).run PB w= .ok (.enter 136 args) w:=ao (PB.func Tryz.func136 (by decide)) (by kernel_rfl) rfl args w
@[go_sem] theorem PB.OR(args:Array AT)(w:AS):(BY 137 args).run PB w= .ok (.enter 137 args) w:=ao (PB.func Tryz.func137 (by decide)) (by kernel_rfl) rfl args w
@[go_sem] theorem PB.OQ(args:Array AT)(w:AS):(BY 138 args).run PB w= .ok (.enter 138 args) w:=ao (PB.func Tryz.func138 (by decide)) (by kernel_rfl) rfl args w
@[go_sem] theorem PB.OP(args:Array AT)(w:AS):(BY 139 args).run PB w= .ok (.enter 139 args) w:=ao (PB.func Tryz.func139 (by decide)) (by kernel_rfl) rfl args w
@[go_sem] theorem PB.OO(args:Array AT)(w:AS):(BY 140 args).run PB w= .ok (.enter 140 args) w:=ao (PB.func Tryz.func140 (by decide)) (by kernel_rfl) rfl args w
@[go_sem] theorem PB.OE(args:Array AT)(w:AS):(BY 158 args).run PB w= .ok (.enter 158 args) w:=ao (PB.func Tryz.func158 (by decide)) (by kernel_rfl) rfl args w
@[go_sem] theorem PB.OD(args:Array AT)(w:AS):(BY 159 args).run PB w= .ok (.enter 159 args) w:=ao (PB.func Tryz.func159 (by decide)) (by kernel_rfl) rfl args w
@[go_sem] theorem PB.OC(args:Array AT)(w:AS):(BY 160 args).run PB w= .ok (.enter 160 args) w:=ao (PB.func Tryz.func160 (by decide)) (by kernel_rfl) rfl args w
@[go_sem] theorem PB.OB(args:Array AT)(w:AS):(BY 161 args).run PB w= .ok (.enter 161 args) w:=ao (PB.func Tryz.func161 (by decide)) (by kernel_rfl) rfl args w
@[go_sem] theorem PB.Ox(args:Array AT)(w:AS):(BY 170 args).run PB w= .ok (.enter 170 args) w:=ao (PB.func Tryz.func170 (by decide)) (by kernel_rfl) rfl args w
@[go_sem] theorem PB.Ow(args:Array AT)(w:AS):(BY 171 args).run PB w= .ok (.enter 171 args) w:=ao (PB.func Tryz.func171 (by decide)) (by kernel_rfl) rfl args w
@[go_sem] theorem PB.Ov(args:Array AT)(w:AS):(BY 172 args).run PB w= .ok (.enter 172 args) w:=ao (PB.func Tryz.func172 (by decide)) (by kernel_rfl) rfl args w
@[go_sem] theorem PB.Oo(args:Array AT)(w:AS):(BY 185 args).run PB w= .ok (.enter 185 args) w:=ao (PB.func Tryz.func185 (by decide)) (by kernel_rfl) rfl args w
@[go_sem] theorem PB.Om(args:Array AT)(w:AS):(BY 187 args).run PB w= .ok (.enter 187 args) w:=ao (PB.func Tryz.func187 (by decide)) (by kernel_rfl) rfl args w
@[go_sem] theorem PB.Ol(args:Array AT)(w:AS):(BY 189 args).run PB w= .ok (.enter 189 args) w:=ao (PB.func Tryz.func189 (by decide)) (by kernel_rfl) rfl args w
@[go_sem] theorem PB.Oj(args:Array AT)(w:AS):(BY 190 args).run PB w= .ok (.enter 190 args) w:=ao (PB.func Tryz.func190 (by decide)) (by kernel_rfl) rfl args w
@[go_sem] theorem PB.Oi(args:Array AT)(w:AS):(BY 191 args).run PB w= .ok (.enter 191 args) w:=ao (PB.func Tryz.func191 (by decide)) (by kernel_rfl) rfl args w
def Only(q:Nat)(w w':AS):Prop:=w'.heap.size=w.heap.size∧∀b,b≠q→w'.heap[b]?=w.heap[b]?
theorem Only.refl(q:Nat)(w:AS):Only q w w:=⟨rfl,fun _ _=>rfl⟩
theorem Only.trans{q:Nat}{a b c:AS}(h:Only q a b)(h2:Only q b c):Only q a c:=⟨h2.1.trans h.1,fun x hx=>(h2.2 x hx).trans (h.2 x hx)⟩
theorem Only.set(q:Nat)(w:AS)(i:Nat)(v:AT):Only q w (w.setCell ⟨q,i,none⟩ v):=⟨Q5 w _ v,fun b hb=>Below.heap_setCell w _ v b hb⟩
theorem uQ{w:AS}{q:Nat}{S:an}{i:Nat}(h:ac w q 101 (words S))(hi:i<4):w.cell? ⟨q,i,none⟩=some (.int .u64 (wz S i)):=by
 have:=h.cell i;rw[this];match i,hi with
 |0,_=>rfl
 |1,_=>rfl
 |2,_=>rfl
 |3,_=>rfl
theorem xr{w:AS}{q:Nat}{S T:an}{i:Nat}(h:ac w q 101 (words S))(hi:i<4)(ho:∀j,j≠i→wz T j=wz S j):ac (w.setCell ⟨q,i,none⟩ (.int .u64 (wz T i))) q 101 (words T):=by
 have:=h.ci i (.int .u64 (wz T i));have e:(words S).setIfInBounds i (.int .u64 (wz T i))=words T:=by
  match i,hi with
  |0,_=>simp[words,ho 1,ho 2,ho 3]
  |1,_=>simp[words,ho 0,ho 2,ho 3]
  |2,_=>simp[words,ho 0,ho 1,ho 3]
  |3,_=>simp[words,ho 0,ho 1,ho 2]
 rw[e]at this;exact this
theorem add_any(q lo hi:Nat)(S:an)(w:AS)(hl:lo≤255)(hh:hi≤255)(hB:ac w q 101 (words S)):
 Calls PB 135 #[.pointer (some ⟨q,0,none⟩),.int .u8 lo,.int .u8 hi] w fun e w'=>e= .returned (.tuple #[])∧ac w' q 101 (words (bV S lo hi))∧Only q w w':=by
 go_enter (PB.func Tryz.func135 (by decide)),Tryz.ntmps135
 go_wp2;go_loopw [6] (fun c wr=>∃k:Nat,(lo≤k∧(k≤hi+1∨k=lo))∧k≤256∧c= .int .i64 k∧ac wr q 101 (words (fun x=>S x||(decide (lo≤x)&&decide (x<k))))∧Only q w wr) (fun c _=>256- (intOf c).toNat)
 case atStart=>
  refine⟨lo,⟨IN _,.inr rfl⟩,by omega,rfl,?_,.refl _ _⟩;have:(fun x=>S x||(decide (lo≤x)&&decide (x<lo)))=S:=by
   funext x
   have:¬ (lo≤x∧x<lo):=by omega
   simp;omega
  rw[this];exact hB
 case round=>
  obtain⟨k,hk0,hk,rfl,hBk,hO⟩:=hrel;generalize hS:(fun x=>S x||(decide (lo≤x)&&decide (x<k)))=S' at hBk;obtain⟨i,j,hj,rfl⟩:∃i j,j<64∧k=64*i+j:=⟨k/64,k%64,Nat.mod_lt _ (by decide),by omega⟩;have h2:=AI hBk;have h3:=AI hO;have hS':=AI hS;clear hO hS;by_cases hlt:64*i+j≤hi
  ·have hi4:i<4:=by omega
   have f0:∀i,wr.frozen? ⟨q,i,none⟩=false:=hBk.frozen;have c0:wr.cell? ⟨q,i,none⟩=some (.int .u64 (wz S' i)):=uQ hBk hi4;have e1:((64:Int)*i+j)/64=i:=by omega
   have e2:bits .and .i64 (64*i+j) 63=j:=by
    have:=bits_mask .i64 63 (by decide) (fun n h0 h1=>by rw[OF];omega) 6 (by decide) ((64:Int)*i+j) (by omega) (by omega);have h6:(2:Int)^6=64:=rfl;rw[h6,show(64:Int)-1=63 from rfl]at this;rw[this];omega
   have e3:bits .or .u64 (wz S' i) (IntKind.u64.wrap (2^j))=wz (ins S' (64*i+j)) i:=by
    have h6:(2:Int)^j=((2^j:Nat):Int):=by norm_cast
    have h7:(2:Nat)^j<2^64:=Nat.pow_lt_pow_right (by decide) hj;rw[h6,wraps_u64 _ (Int.natCast_nonneg _) (by exact_mod_cast h7),Lu S' i j hj]
   clear hBk;go_wp2;go_region
   go_wp2;go_roundw
   case rel=>
    have hBk:=h2.out;have hO:=h3.out;have hS:=hS'.out;refine⟨64*i+j+1,⟨by omega,.inl (by omega)⟩,by omega,by push_cast;rfl,?_,hO.trans (.set q wr i _)⟩;have hT:(fun x=>S x||(decide (lo≤x)&&decide (x<64*i+j+1)))=ins S' (64*i+j):=by
     rw[← hS];funext x;simp only[ins];cases S x
     ·simp only[Bool.false_or];rw[R5];simp;omega
     ·simp
    rw[hT];exact xr hBk hi4 fun i' h4=>yQ S' i i' j hj h4
   case measure=>simp[intOf];omega
  ·clear hBk;go_wp2;go_end0
   refine⟨rfl,?_,h3.out⟩;have hT:bV S lo hi=S':=by
    rw[← hS'.out];funext x;simp only[bV];cases S x
    ·simp only[Bool.false_or];rw[R5];simp;omega
    ·simp
   rw[hT];exact h2.out
theorem Cg:∀n:Nat,n<256→bits .and .u8 (n:Int) 2=if n/2%2=1 then 2 else 0:=by decide+kernel
theorem Kc:∀n:Nat,n<256→bits .and .u8 (n:Int) 1=if n%2=1 then 1 else 0:=by decide+kernel
def rQ(S:an):AT:=.agg #[.int .u64 (wz S 0),.int .u64 (wz S 1),.int .u64 (wz S 2),.int .u64 (wz S 3)]
def jb(s:ByteArray)(p:Nat)(fl:Nat)(c:Nat)(fold:Bool):Array AT:=#[.string s,.int .i64 p,.int .u8 fl,.chan (some c),.bool fold]
theorem GV:(PB.info? 101).map (·.size)=some 4:=by kernel_rfl
theorem Ew:∃n e,PB.underlying 101=some (.array n e):=⟨_,_,(congrFun (br ..) _).trans Tryz.underlying101⟩
theorem t6{fn:Func}{p:Tmp}(h:fn.results=#[.cell p 101]){R:Ending→AS→Prop}{a:Act}{w:AS}{g:Nat}{b0 b1 b2 b3:AT}(hp:a.tmps.getD p undef= .pointer (some ⟨g,0,none⟩))(hg:ac w g 101 #[b0,b1,b2,b3])(hd:a.defers=[])
 (hR:R (.returned (.agg #[b0,b1,b2,b3])) w):bodyPost PB fn R .ret a w:=by
 obtain⟨n,d,hu⟩:=Ew;exact bodyPost_ret (results_cell_row h a.tmps w g _ _ _ _ hp hg hu rfl GV) hd hR
theorem Kp.alloc2(w:AS)(o p:Obj):Kp w.heap.size [] w ((w.alloc o).alloc p):=((Kp.refl w).alloc (IN _) o).alloc (IN _) p
theorem su(x c:Nat)(s:ByteArray)(p fl:Nat)(fold:Bool)(S:an)(w:AS)(hf:fl<256)(hB:ac w x 243 (jb s p fl c fold)):
 Calls PB 137 #[.pointer (some ⟨x,0,none⟩),rQ S] w fun e w'=>e= .returned (rQ (if fl/2%2=1 then del S 10 else S))∧Kp w.heap.size [] w w':=by
 have c2:w.cell? ⟨x,2,none⟩=some (.int .u8 fl):=hB.cell 2;have hlt:=hB.lt;have hB':=AI hB;clear hB;unfold rQ;by_cases h:fl/2%2=1
 ·have e1:bits .and .u8 (fl:Int) 2=2:=by rw[Cg fl hf,if_pos h]
  have e2:=Lv S;simp only[if_pos h,nN S 1 (by decide),nN S 2 (by decide),nN S 3 (by decide)];clear h;go_enter (PB.func Tryz.func137 (by decide)),Tryz.ntmps137
  go_wp2;exact t6 rfl rfl (ac.new2 _ _ _ _) rfl ⟨rfl,.alloc2 _ _ _⟩
 ·have e1:bits .and .u8 (fl:Int) 2=0:=by rw[Cg fl hf,if_neg h]
  simp only[if_neg h];clear h;go_enter (PB.func Tryz.func137 (by decide)),Tryz.ntmps137
  go_wp2;exact t6 rfl rfl (ac.new2 _ _ _ _) rfl ⟨rfl,.alloc2 _ _ _⟩
theorem vT(x c:Nat)(s:ByteArray)(p fl:Nat)(fold:Bool)(S:an)(w:AS)(hB:ac w x 243 (jb s p fl c fold)):
 Calls PB 140 #[.pointer (some ⟨x,0,none⟩),rQ S] w fun e w'=>e= .returned (rQ (if fold then mg S else S))∧Kp w.heap.size [] w w':=by
 have c4:w.cell? ⟨x,4,none⟩=some (.bool fold):=hB.cell 4;have hlt:=hB.lt;have hB':=AI hB;clear hB;unfold rQ;cases fold with
 |true=>
  have e2:=K9 S;simp only[if_true,mG S 0 (by decide),mG S 2 (by decide),mG S 3 (by decide)];go_enter (PB.func Tryz.func140 (by decide)),Tryz.ntmps140
  go_wp2;exact t6 rfl rfl (ac.new2 _ _ _ _) rfl ⟨rfl,.alloc2 _ _ _⟩
 |false=>
  simp only[if_neg Bool.false_ne_true];go_enter (PB.func Tryz.func140 (by decide)),Tryz.ntmps140
  go_wp2;exact t6 rfl rfl (ac.new2 _ _ _ _) rfl ⟨rfl,.alloc2 _ _ _⟩
theorem HG(c:Nat)(w:AS):Calls PB 132 #[.int .u8 c] w fun e w'=>e= .returned (.int .i64 (dH c))∧w'=w:=by
 unfold dH;by_cases h1:c=40
 ·subst h1;go_enter (PB.func Tryz.func132 (by decide)),Tryz.ntmps132;go_wp2;go_ret;exact⟨rfl,rfl⟩
 by_cases h2:c=41
 ·subst h2;go_enter (PB.func Tryz.func132 (by decide)),Tryz.ntmps132;go_wp2;go_ret;exact⟨rfl,rfl⟩
 by_cases h3:c=124
 ·subst h3;go_enter (PB.func Tryz.func132 (by decide)),Tryz.ntmps132;go_wp2;go_ret;exact⟨rfl,rfl⟩
 by_cases h4:c=94
 ·subst h4;go_enter (PB.func Tryz.func132 (by decide)),Tryz.ntmps132;go_wp2;go_ret;exact⟨rfl,rfl⟩
 by_cases h5:c=36
 ·subst h5;go_enter (PB.func Tryz.func132 (by decide)),Tryz.ntmps132;go_wp2;go_ret;exact⟨rfl,rfl⟩
 rw[if_neg h1,if_neg h2,if_neg h3,if_neg h4,if_neg h5];have k1:(c:Int)≠40:=by omega
 have k2:(c:Int)≠41:=by omega
 have k3:(c:Int)≠124:=by omega
 have k4:(c:Int)≠94:=by omega
 have k5:(c:Int)≠36:=by omega
 clear h1 h2 h3 h4 h5;go_enter (PB.func Tryz.func132 (by decide)),Tryz.ntmps132
 go_wp2;go_ret;exact⟨rfl,rfl⟩
end
section
open Go.RowKit
def chk(Q:IS)(l:List Nat)(p:Nat→Func→Bool):Bool:=l.all fun f=>match Q.funcs[f]? with |some fn=>p f fn|none=>true
theorem zS{l:List Nat}{f:Nat}(h:only l f=none):f∈l:=by
 unfold only at h;split at h
 ·rename_i hc;simpa using hc
 ·cases h
theorem ov{Q:IS}{l:List Nat}{p:Nat→Func→Bool}(h:chk Q l p=true){f:Nat}{fn:Func}(hf:Q.funcs[f]?=some fn)(hb:only l f=none):p f fn=true:=by
 unfold chk at h;rw[QB]at h;have:=h f (zS hb);rw[hf]at this;exact this
theorem Ml{Q:IS}{p:Func→Bool}(h:Q.funcs.all p=true){f:Nat}{fn:Func}(hf:Q.funcs[f]?=some fn):p fn=true:=by
 rw[R0]at h;obtain⟨hlt,rfl⟩:=IT.1 hf;exact h f hlt
theorem fC(l:List Nat):ir (only l):=fun f c h=>by
 unfold only at h;split at h
 ·cases h
 ·cases h;exact⟨_,rfl⟩
theorem qI:∀(f:Nat)(fn:Func),Tryz.prog.funcs[f]?=some fn→(fn.name== "runtime.NumGoroutine")=false:=fun f fn hf=>by
 have h:Tryz.prog.funcs.all (fun fn=> !(fn.name== "runtime.NumGoroutine"))=true:=by kernel_rfl
 have:=Ml h hf;simpa using this
section
variable[aJ]{l:List Nat}
theorem rF(h0:Tryz.prog.follows .staticDataAhead=true)(h1:chk Tryz.prog l (fun f fn=>match fn.body with |some c=>cW c&& (readies c).isEmpty|none=>true)=true)
 (hx:∀(f:Nat)(fn:Func),Tryz.prog.funcs[f]?=some fn→only l f=none→fn.body.isNone=true→Qn fn=none∧∀e,PO fn=some e→∀args,bN (alt Tryz.prog (only l)) true false (e args)):bw (alt Tryz.prog (only l)):=by
 have hget:=fun f=> @fN Tryz.prog (only l) f
 have hin:∀(f:Nat)(fn:Func),(alt Tryz.prog (only l)).funcs[f]?=some fn→(∃why,fn.body=some (.refuse why))∨(only l f=none∧Tryz.prog.funcs[f]?=some fn):=fun f fn hf=>by
  rw[hget]at hf;obtain⟨g,hg,rfl⟩:=PD.1 hf;cases hb:only l f with
  |some c=>
   obtain⟨why,rfl⟩:=fC l f c hb;exact .inl ⟨why,by unfold aw;rw[hb]⟩
  |none=>exact .inr ⟨rfl,hg.trans (congrArg some (by unfold aw;rw[hb]))⟩
 refine{wait:=fun g hg=> ?_,data:=h0,num:=fun f fn hf=> ?_,next:=fun f fn hf hn=> ?_,ext:=fun f fn hf hn e he args=> ?_,nogo:=fun f fn c hf hc=> ?_}
 ·unfold Program.stepOf;rw[Array.findIdx?_eq_none_iff];intro fn hfn;obtain⟨f,hf⟩:=QA.1 hfn;rcases hin f fn hf with⟨why,h⟩|⟨hb,hf⟩
  ·simp[h,readies]
  ·have:=ov h1 hf hb;cases hc:fn.body with
   |none=>simp
   |some c=>
    rw[hc]at this;dsimp only at this;rw[R2,List.isEmpty_iff]at this;show(Option.map readies (some c)).any (fun x=>x.contains g)=false;simp[this.2]
 ·rcases hin f fn hf with⟨why,h⟩|⟨hb,hf⟩
  ·rw[hget]at hf;obtain⟨g,hg,rfl⟩:=PD.1 hf;rw[jo];exact qI f g hg
  ·exact qI f fn hf
 ·rcases hin f fn hf with⟨why,h⟩|⟨hb,hf⟩
  ·rw[h]at hn;cases hn
  ·exact(hx f fn hf hb hn).1
 ·rcases hin f fn hf with⟨why,h⟩|⟨hb,hf⟩
  ·rw[h]at hn;cases hn
  ·exact(hx f fn hf hb hn).2 e he args
 ·rcases hin f fn hf with⟨why,h⟩|⟨hb,hf⟩
  ·rw[h]at hc;cases hc;rfl
  ·have:=ov h1 hf hb;rw[hc]at this;dsimp only at this;rw[R2]at this;exact this.1
end
section
attribute [local instance] dP
theorem Jv:bw PA:=by
 refine rF (by kernel_rfl) (by kernel_rfl) fun f fn hf hb hn=> ?_
 have h:chk Tryz.prog [93,94,117,118,141,142,162,174,92] (fun f fn=>fn.body.isSome)=true:=by kernel_rfl
 have:=ov h hf hb;cases hc:fn.body<;>simp_all
instance Nv(P:IS)(a:Addr):∀(n:Nat)(acc:ByteArray),bN P true false (Extern.Bytes.loadBytes a n acc):=by
 intro n;induction n generalizing a with
 |zero=>intro acc;show bN P true false (pure acc);exact zq2
 |succ n ih=>
  intro acc;unfold Extern.Bytes.loadBytes;refine @aS _ _ _ _ _ _ _ _ zq2 (fun v=> ?_);split
  ·exact ih _ _
  ·exact zq2
instance ML(P:IS)(v:AT):bN P true false (Extern.Bytes.bytesOf v):=by
 cases v;case string s=>show bN P true false (pure s);exact zq2
 case slice a n c=>
  cases a with
  |none=>show bN P true false (pure ByteArray.empty);exact zq2
  |some a=>show bN P true false (Extern.Bytes.loadBytes a n .empty);exact zq2
 all_goals
  show bN P true false (stuck _);exact zq2
instance Ng(P:IS)(v:AT):bN P true false (Extern.Bytes.asByte v):=by
 cases v;case int k n=>
  cases k;case u8=>show bN P true false (pure _);exact zq2
  all_goals
   show bN P true false (stuck _);exact zq2
 all_goals
  show bN P true false (stuck _);exact zq2
instance Nb(P:IS):bN P true false Extern.BytealgIndex.maxLen:=by
 unfold Extern.BytealgIndex.maxLen;exact zq2
theorem yy(P:IS)(args:Array AT):bN P true false (Extern.BytealgIndexByte.indexByte args):=by
 obtain⟨_|⟨b,_|⟨c,_|⟨d,l⟩⟩⟩⟩:=args;case cons.cons.nil=>
  show bN P true false (do
   let b ← Extern.Bytes.bytesOf b
   let c ← Extern.Bytes.asByte c
   match(QM b.size).find? fun i=>b[i]! ==c with
   |some i=>pure (goInt i)
   |none=>pure (goInt (-1)))
  refine @aS _ _ _ _ _ _ _ _ zq2 (fun _=> ?_);refine @aS _ _ _ _ _ _ _ _ zq2 (fun _=> ?_);split <;>exact zq2
 all_goals
  show bN P true false (stuck _);exact zq2
theorem Gi(P:IS)(args:Array AT):bN P true false (Extern.BytealgIndex.index args):=by
 obtain⟨_|⟨b,_|⟨c,_|⟨d,l⟩⟩⟩⟩:=args;case cons.cons.nil=>
  show bN P true false (do
   let a ← Extern.Bytes.bytesOf b
   let b ← Extern.Bytes.bytesOf c
   if b.size<2||(b.size:Int)>(← Extern.BytealgIndex.maxLen)then
    unsupported (.noEntry "extern/internal/bytealg.Index.length")
   if a.size≥2^32-15 then
    unsupported (.noEntry "extern/internal/bytealg.Index: a haystack of 2^32 - 15 bytes or more")
   match(QM (a.size+1-b.size)).find? fun i=>a.extract i (i+b.size)==b with
   |some i=>pure (goInt i)
   |none=>pure (goInt (-1)))
  refine @aS _ _ _ _ _ _ _ _ zq2 (fun _=> ?_);refine @aS _ _ _ _ _ _ _ _ zq2 (fun _=> ?_);refine @aS _ _ _ _ _ _ _ _ zq2 (fun _=> ?_);repeat' (first |exact zq2|(refine @kT _ _ _ _ _ _ _ _ _ ?_ ?_)|(refine @aS _ _ _ _ _ _ _ _ ?_ (fun _=> ?_))|split |dsimp only)
 all_goals
  show bN P true false (stuck _);exact zq2
theorem lP:PO Tryz.f173=some Extern.BytealgIndexByte.indexByte:=by kernel_rfl
theorem find_index:PO Tryz.f188=some Extern.BytealgIndex.index:=by kernel_rfl
theorem qb:Qn Tryz.f173=none:=by kernel_rfl
theorem vG:Qn Tryz.f188=none:=by kernel_rfl
theorem sM{f:Nat}{fn:Func}(hf:Tryz.prog.funcs[f]?=some fn)(hb:bB f=none)(hn:fn.body.isNone=true):fn=Tryz.f173∨fn=Tryz.f188:=by
 have h:chk Tryz.prog lB (fun f fn=>fn.body.isSome||f==173||f==188)=true:=by kernel_rfl
 have:=ov h hf hb;simp only[QP,beq_iff_eq]at this;rcases this with(h|rfl)|rfl
 ·cases hc:fn.body<;>simp_all
 ·exact .inl (Option.some.inj (hf.symm.trans Tryz.func173))
 ·exact .inr (Option.some.inj (hf.symm.trans Tryz.func188))
theorem Ju:bw PB:=by
 refine rF (by kernel_rfl) (by kernel_rfl) fun f fn hf hb hn=> ?_
 rcases sM hf hb hn with rfl|rfl
 ·refine⟨qb,fun e he args=> ?_⟩;rw[lP]at he;cases he;exact yy _ _
 ·refine⟨vG,fun e he args=> ?_⟩;rw[find_index]at he;cases he;exact Gi _ _
end
end
section
open Go.RowKit
instance NE(P:IS)(a:Addr):∀(n:Nat)(acc:ByteArray),Nf P (Extern.Bytes.loadBytes a n acc):=by
 intro n;induction n generalizing a with
 |zero=>intro acc;show Nf P (pure acc);exact zq2
 |succ n ih=>
  intro acc;unfold Extern.Bytes.loadBytes;refine @dk _ _ _ _ _ zq2 (fun v=> ?_);split
  ·exact ih _ _
  ·exact zq2
instance MV(P:IS)(v:AT):Nf P (Extern.Bytes.bytesOf v):=by
 cases v;case string s=>show Nf P (pure s);exact zq2
 case slice a n c=>
  cases a with
  |none=>show Nf P (pure ByteArray.empty);exact zq2
  |some a=>show Nf P (Extern.Bytes.loadBytes a n .empty);exact zq2
 all_goals
  show Nf P (stuck _);exact zq2
instance Nk(P:IS)(v:AT):Nf P (Extern.Bytes.asByte v):=by
 cases v;case int k n=>
  cases k;case u8=>show Nf P (pure _);exact zq2
  all_goals
   show Nf P (stuck _);exact zq2
 all_goals
  show Nf P (stuck _);exact zq2
instance Nj(P:IS):Nf P Extern.BytealgIndex.maxLen:=by
 unfold Extern.BytealgIndex.maxLen;exact zq2
theorem Aa(P:IS)(args:Array AT):Nf P (Extern.BytealgIndexByte.indexByte args):=by
 obtain⟨_|⟨b,_|⟨c,_|⟨d,l⟩⟩⟩⟩:=args;case cons.cons.nil=>
  show Nf P (do
   let b ← Extern.Bytes.bytesOf b
   let c ← Extern.Bytes.asByte c
   match(QM b.size).find? fun i=>b[i]! ==c with
   |some i=>pure (goInt i)
   |none=>pure (goInt (-1)))
  refine @dk _ _ _ _ _ zq2 (fun _=> ?_);refine @dk _ _ _ _ _ zq2 (fun _=> ?_);split <;>exact zq2
 all_goals
  show Nf P (stuck _);exact zq2
theorem II(P:IS)(args:Array AT):Nf P (Extern.BytealgIndex.index args):=by
 obtain⟨_|⟨b,_|⟨c,_|⟨d,l⟩⟩⟩⟩:=args;case cons.cons.nil=>
  show Nf P (do
   let a ← Extern.Bytes.bytesOf b
   let b ← Extern.Bytes.bytesOf c
   if b.size<2||(b.size:Int)>(← Extern.BytealgIndex.maxLen)then
    unsupported (.noEntry "extern/internal/bytealg.Index.length")
   if a.size≥2^32-15 then
    unsupported (.noEntry "extern/internal/bytealg.Index: a haystack of 2^32 - 15 bytes or more")
   match(QM (a.size+1-b.size)).find? fun i=>a.extract i (i+b.size)==b with
   |some i=>pure (goInt i)
   |none=>pure (goInt (-1)))
  refine @dk _ _ _ _ _ zq2 (fun _=> ?_);refine @dk _ _ _ _ _ zq2 (fun _=> ?_);refine @dk _ _ _ _ _ zq2 (fun _=> ?_);repeat' (first |exact zq2|(refine @G3 _ _ _ _ _ _ ?_ ?_)|(refine @dk _ _ _ _ _ ?_ (fun _=> ?_))|split |dsimp only)
 all_goals
  show Nf P (stuck _);exact zq2
def tZ:be:=[(53,19)]
theorem Jt(σ:Nat→Nat):lk Tryz.prog σ:=Ls (by kernel_rfl) σ
def lA:List Nat:=[93,94,117,118,141,142,162,174,92]
theorem CF{f:Nat}{fn:Func}(hf:Tryz.prog.funcs[f]?=some fn)(hb:bA f=none)(hn:fn.body.isNone=true):False:=by
 have h:chk Tryz.prog lA (fun f fn=>fn.body.isSome)=true:=by kernel_rfl
 have:=ov h hf hb;cases hc:fn.body<;>simp_all
theorem Cr{l:List Nat}{dt:be}{cl:Bool}(h:chk Tryz.prog l (fun f fn=>match fn.body with |some c=>dt.any (·.1==f)||codeOk Tryz.prog dt cl f c|none=>true)=true)(hi:(l.all fun f=>(Tryz.prog.inits.idxOf? f).isNone)=true):sP Tryz.prog (only l) dt cl:=by
 refine⟨fun f fn c hf hb hc hd=> ?_,fun f hb=> ?_⟩
 ·have:=ov h hf hb;rw[hc]at this;dsimp only at this;rw[QP]at this;rcases this with h|h
  ·rw[List.any_eq_true]at h;obtain⟨x,hx,he⟩:=h;rw[QB]at hd;have:=hd x hx;simp_all
  ·exact h
 ·rw[QB]at hi;simpa using hi f (zS hb)
section
attribute [local instance] dP
theorem NN:mW Tryz.prog bA tZ false where
 apt:=⟨qI,fun f fn hf hb hn=>(CF hf hb hn).elim⟩
 nf:=⟨fun f fn hf hb hn=>(CF hf hb hn).elim⟩
 prog:=Cr (l:=lA) (by kernel_rfl) (by kernel_rfl)
 zero:=Jt
 tame:=Jv
theorem NM:mW Tryz.prog bB [] true where
 apt:=⟨qI,fun f fn hf hb hn=>by
  rcases sM hf hb hn with rfl|rfl
  ·exact⟨qb,_,lP,fun σ Ro D _=>yx⟩
  ·exact⟨vG,_,find_index,fun σ Ro D F=>Ga F⟩⟩
 nf:=⟨fun f fn hf hb hn e he P args=>by
  rcases sM hf hb hn with rfl|rfl
  ·rw[lP]at he;cases he;exact Aa P args
  ·rw[find_index]at he;cases he;exact II P args⟩
 prog:=Cr (l:=lB) (by kernel_rfl) (by kernel_rfl)
 zero:=Jt
 tame:=Ju
end
end
section
open Go.Extern
section
variable[aJ]{Q:IS}{φ:Nat→Func→Func}{g m n d:Bool}
class X1[aJ](Q:IS)(φ:Nat→Func→Func)(g m n d:Bool):Prop where
 x1_0:∀h,Al Q φ g m n true d (Rtype.ofHandle h)
 x1_1:∀t,Al Q φ g m n true d (Rtype.handle t)
 x1_2:∀s t,Al Q φ g m n true d (Rtype.noPack s t)
 x1_3:∀t,Al Q φ g m n true d (Rtype.under t)
 x1_4:∀t,Al Q φ g m n true d (Rtype.hasName t)
 x1_5:∀α s k,Al Q φ g m n true d (ReflectliteValue.valueError (α:=α) s k)
 x1_6:∀s t,Al Q φ g m n true d (Rtype.noPackNamed s t)
 x1_7:∀s t,Al Q φ g m n true d (Rtype.noPackMethods s t)
instance:X1 Q φ g m n d:=by
 constructor;case x1_6|x1_7=>
  intro s t;first |unfold Rtype.noPackNamed|unfold Rtype.noPackMethods
  refine aP (by simp only[kQ]) ?_;refine aP (by simp only[kQ]) ?_;exact zq2
 all_goals
  intros
  first |unfold Rtype.ofHandle|unfold Rtype.handle|unfold Rtype.noPack|unfold Rtype.under|unfold Rtype.hasName|unfold ReflectliteValue.valueError
  repeat' (first
   |(with_reducible refine aP ?_ ?_)
   |with_reducible rfl
   |(simp only[kQ];done)
   |(with_reducible refine aB ?_ (fun _=> ?_))
   |(with_reducible refine aI ?_ ?_)
   |exact zq2
   |split
   |dsimp only)
attribute [instance] X1.x1_0 X1.x1_1 X1.x1_2 X1.x1_3 X1.x1_4 X1.x1_5 X1.x1_6 X1.x1_7
class X2[aJ](Q:IS)(φ:Nat→Func→Func)(g m n d:Bool):Prop where
 x2_0:∀t,Al Q φ g m n true d (Rtype.spelt t)
 x2_1:∀t,Al Q φ g m n true d (Rtype.kind t)
 x2_2:∀t,Al Q φ g m n true d (Rtype.elem? t)
 x2_3:∀t u,Al Q φ g m n true d (Rtype.implements t u)
 x2_4:∀t u,Al Q φ g m n true d (Rtype.directlyAssignable t u)
 x2_5:∀t,Al Q φ g m n true d (ReflectliteType.toType t)
 x2_6:∀t a f k,Al Q φ g m n true d (ReflectliteValue.isNil t a f k)
instance:X2 Q φ g m n d:=by
 constructor;all_goals
  intros
  first |unfold Rtype.spelt|unfold Rtype.kind|unfold Rtype.elem? |unfold Rtype.implements|unfold Rtype.directlyAssignable|unfold ReflectliteType.toType|unfold ReflectliteValue.isNil
  repeat' (first
   |(with_reducible refine aP ?_ ?_)
   |with_reducible rfl
   |(simp only[kQ];done)
   |(with_reducible refine aB ?_ (fun _=> ?_))
   |(with_reducible refine aI ?_ ?_)
   |exact zq2
   |split
   |dsimp only)
attribute [instance] X2.x2_0 X2.x2_1 X2.x2_2 X2.x2_3 X2.x2_4 X2.x2_5 X2.x2_6
instance(v:AT):Al Q φ g m n true d (ReflectliteType.ofRtype v):=by
 cases v;case agg l=>
  obtain⟨_|⟨h,_|⟨h2,l⟩⟩⟩:=l;case cons.nil=>
   exact aB (s:=Rtype.ofHandle h) zq2 fun t=>aB (s:=Rtype.noPack _ t) zq2 fun _=>eZ
  all_goals exact(zq2:Al Q φ g m n true d (stuck _))
 all_goals exact(zq2:Al Q φ g m n true d (stuck _))
instance(v:AT):Al Q φ g m n true d (ReflectliteValue.partsAny v):=by
 cases v;case agg l=>
  obtain⟨_|⟨h,_|⟨p,_|⟨c,_|⟨h2,l⟩⟩⟩⟩⟩:=l;case cons.cons.cons.nil=>
   cases c;case int k i=>
    cases k;case u64=>
     rcases i with(_|c)|c
     ·exact eZ
     all_goals
      cases p;case pointer a=>
       cases a;case some a=>exact aB (s:=Rtype.ofHandle h) zq2 fun t=>eZ
       all_goals exact(zq2:Al Q φ g m n true d (stuck _))
      all_goals exact(zq2:Al Q φ g m n true d (stuck _))
    all_goals exact(zq2:Al Q φ g m n true d (stuck _))
   all_goals exact(zq2:Al Q φ g m n true d (stuck _))
  all_goals exact(zq2:Al Q φ g m n true d (stuck _))
 all_goals exact(zq2:Al Q φ g m n true d (stuck _))
class X3[aJ](Q:IS)(φ:Nat→Func→Func)(g m n d:Bool):Prop where
 x3_0:∀t,Al Q φ g m n true d (ReflectliteType.elem t)
 x3_1:∀t u,Al Q φ g m n true d (ReflectliteType.implements_ t u)
 x3_2:∀t u,Al Q φ g m n true d (ReflectliteType.assignableTo t u)
 x3_3:∀t a f,Al Q φ g m n true d (ReflectliteValue.mk t a f)
 x3_4:∀v,Al Q φ g m n true d (ReflectliteValue.parts v)
instance:X3 Q φ g m n d:=by
 constructor;all_goals
  intros
  first |unfold ReflectliteType.elem|unfold ReflectliteType.implements_|unfold ReflectliteType.assignableTo|unfold ReflectliteValue.mk|unfold ReflectliteValue.parts
  repeat' (first
   |(with_reducible refine aP ?_ ?_)
   |with_reducible rfl
   |(simp only[kQ];done)
   |(with_reducible refine aB ?_ (fun _=> ?_))
   |(with_reducible refine aI ?_ ?_)
   |exact zq2
   |split
   |dsimp only)
attribute [instance] X3.x3_0 X3.x3_1 X3.x3_2 X3.x3_3 X3.x3_4
instance H9(v:AT):Al Q φ g m n true d (ReflectliteValue.unpack v):=by
 unfold ReflectliteValue.unpack;repeat' (first
  |exact zq2
  |split)
instance NY(t:Ql)(a:Addr)(f k:Nat):Al Q φ g m n true d (ReflectliteValue.elem t a f k):=by
 unfold ReflectliteValue.elem;repeat' (first
  |(with_reducible refine aB ?_ (fun _=> ?_))
  |(with_reducible refine aI ?_ ?_)
  |exact zq2
  |split
  |dsimp only)
theorem Ha(a:Array AT):Al Q φ g m n true d (ReflectliteType.typeOf a):=by
 obtain⟨_|⟨v,_|⟨h2,l⟩⟩⟩:=a;case cons.nil=>
  cases v;case nilIface=>exact eZ
  case iface t v=>exact(zq2:Al Q φ g m n true d (ReflectliteType.toType t))
  all_goals exact(zq2:Al Q φ g m n true d (stuck _))
 all_goals exact(zq2:Al Q φ g m n true d (stuck _))
theorem Ll(a:Array AT):Al Q φ g m n true d (ReflectliteValue.set a):=by
 obtain⟨_|⟨v,_|⟨x,_|⟨h2,l⟩⟩⟩⟩:=a;case cons.cons.nil=>
  refine aB zq2 (fun a=> ?_);refine aB zq2 (fun b=> ?_);repeat' (first
   |(with_reducible refine aB ?_ (fun _=> ?_))
   |(with_reducible refine aI ?_ ?_)
   |exact zq2
   |split
   |dsimp only)
 all_goals exact(zq2:Al Q φ g m n true d (stuck _))
theorem Lk{z:Sem AT}{f:_}(hz:Al Q φ g m n true d z)(hf:∀t a b c,Al Q φ g m n true d (f t a b c))(a:Array AT):Al Q φ g m n true d (ReflectliteValue.methodAny z f a):=by
 obtain⟨_|⟨v,_|⟨h2,l⟩⟩⟩:=a;case cons.nil=>
  refine aB zq2 (fun b=> ?_);split <;>first |exact hz|exact hf _ _ _ _
 all_goals exact(zq2:Al Q φ g m n true d (stuck _))
theorem JM{z:Sem AT}{f:_}(hz:Al Q φ g m n true d z)(hf:∀t a b c,Al Q φ g m n true d (f t a b c))(a:Array AT):Al Q φ g m n true d (ReflectliteValue.method z f a):=by
 obtain⟨_|⟨v,_|⟨h2,l⟩⟩⟩:=a;case cons.nil=>
  refine aB zq2 (fun b=> ?_);split <;>first |exact hz|exact hf _ _ _ _
 all_goals exact(zq2:Al Q φ g m n true d (stuck _))
theorem N7{f:_}(hf:∀t,Al Q φ g m n true d (f t))(a:Array AT):Al Q φ g m n true d (ReflectliteType.method f a):=by
 obtain⟨_|⟨v,_|⟨h2,l⟩⟩⟩:=a;case cons.nil=>exact aB zq2 hf
 all_goals exact(zq2:Al Q φ g m n true d (stuck _))
theorem Mm{f:_}(hf:∀t,Al Q φ g m n true d (f t))(a:Array AT):Al Q φ g m n true d (ReflectliteType.abiMethod f a):=by
 obtain⟨_|⟨v,_|⟨h2,l⟩⟩⟩:=a;case cons.nil=>
  refine aB zq2 (fun b=> ?_);refine aB zq2 (fun c=> ?_);exact hf _
 all_goals exact(zq2:Al Q φ g m n true d (stuck _))
theorem Hb{s:String}{f:_}(hf:∀t u,Al Q φ g m n true d (f t u))(a:Array AT):Al Q φ g m n true d (ReflectliteType.relation s f a):=by
 obtain⟨_|⟨v,_|⟨x,_|⟨h2,l⟩⟩⟩⟩:=a;case cons.cons.nil=>
  cases x;case nilIface=>exact(zq2:Al Q φ g m n true d (panicString _))
  case iface t u=>
   refine aB zq2 (fun b=> ?_);repeat' (first
    |exact hf _ _
    |(with_reducible refine aB ?_ (fun _=> ?_))
    |exact zq2)
  all_goals exact(zq2:Al Q φ g m n true d (stuck _))
 all_goals exact(zq2:Al Q φ g m n true d (stuck _))
end
theorem j7{Q0:IS}{s:Sem AT}(h:∀(L:aJ)(Q:IS)(φ:Nat→Func→Func)(g d:Bool),@Al L _ Q φ g true false true d s):(∀φ,Sm Q0 φ s)∧(∀P,Hu P s)∧∀[aJ](P:IS),bN P true false s:=
 ⟨fun φ=>⟨(@mC fK _ _ _ _ _ _ _ _ (h _ _ φ false false).al).1⟩,fun _=>⟨(@mC fK _ _ _ _ _ _ _ _ (h _ _ (fun _ f=>f) false true).al).2.1 rfl⟩,fun _=>⟨wl (h _ _ (fun _ f=>f) true true).al⟩⟩
end
section
open Go.RowKit
def lH:List Nat:=[3,13,14,16,20,26,36,33,52,90,87,88,89,112,113,114,206,216,218,219,211,53,
 30,43,57,58,59,97,98,122,123,124,148,149,150,151,152,153,164,165,176,177,186]
@[reducible] noncomputable def mb:aJ:=Iz Tryz.prog.globals.size
abbrev bH:Nat→Option Code:=only lH
noncomputable abbrev PH:IS:=alt Tryz.prog bH
theorem An:PO Tryz.f87=some (fun args=>Extern.ReflectliteValue.unpack (args.getD 0 (.tuple #[]))):=by kernel_rfl
theorem Ec:PO Tryz.f88=some (Extern.ReflectliteValue.methodAny (Extern.ReflectliteValue.valueError "reflectlite.Value.Type" 0) (fun t _ _ _=>Extern.ReflectliteType.toType t)):=by kernel_rfl
theorem C1:PO Tryz.f89=some (Extern.ReflectliteValue.method (Extern.ReflectliteValue.valueError "reflectlite.Value.IsNil" 0) Extern.ReflectliteValue.isNil):=by kernel_rfl
theorem C4:PO Tryz.f112=some Extern.ReflectliteType.typeOf:=by kernel_rfl
theorem Ed:PO Tryz.f113=some (Extern.ReflectliteValue.method (Extern.ReflectliteValue.valueError "reflectlite.Value.Elem" 0) Extern.ReflectliteValue.elem):=by kernel_rfl
theorem GC:PO Tryz.f114=some Extern.ReflectliteValue.set:=by kernel_rfl
theorem Eg:PO Tryz.f206=some (Extern.ReflectliteType.abiMethod (fun t=>do pure (.int .u8 (← Extern.Rtype.kind t)))):=by kernel_rfl
theorem Am:PO Tryz.f216=some (Extern.ReflectliteType.relation "AssignableTo" Extern.ReflectliteType.assignableTo):=by kernel_rfl
theorem Ef:PO Tryz.f218=some (Extern.ReflectliteType.method Extern.ReflectliteType.elem):=by kernel_rfl
theorem Ee:PO Tryz.f219=some (Extern.ReflectliteType.relation "Implements" Extern.ReflectliteType.implements_):=by kernel_rfl
def Lt:List Nat:=[87,88,89,112,113,114,206,216,218,219]
theorem GW{f:Nat}{fn:Func}(hf:Tryz.prog.funcs[f]?=some fn)(hb:bH f=none)(hn:fn.body.isNone=true):f∈Lt:=by
 have h:chk Tryz.prog lH (fun f fn=>fn.body.isSome||Lt.contains f)=true:=by kernel_rfl
 have:=ov h hf hb;rw[QP]at this;rcases this with h|h
 ·cases hc:fn.body<;>simp_all
 ·simpa using h
theorem xh{f:Nat}{fn:Func}(hf:Tryz.prog.funcs[f]?=some fn)(hb:bH f=none)(hn:fn.body.isNone=true):Qn fn=none∧∀e,PO fn=some e→∀args,(∀φ,Sm Tryz.prog φ (e args))∧(∀P,Hu P (e args))∧∀[aJ](P:IS),bN P true false (e args):=by
 have h:=GW hf hb hn;have key:∀{g:Func}{e0:Array AT→Sem AT},Tryz.prog.funcs[f]?=some g→Qn g=none→PO g=some e0→(∀args,(∀φ,Sm Tryz.prog φ (e0 args))∧(∀P,Hu P (e0 args))∧∀[aJ](P:IS),bN P true false (e0 args))→Qn fn=none∧∀e,PO fn=some e→∀args,(∀φ,Sm Tryz.prog φ (e args))∧(∀P,Hu P (e args))∧∀[aJ](P:IS),bN P true false (e args):=fun h1 h2 h3 h4=>by
  rw[hf]at h1;cases h1;refine⟨h2,fun e he=> ?_⟩;rw[h3]at he;cases he;exact h4
 unfold Lt at h;simp only[Qe,Qg,or_false]at h;rcases h with rfl|rfl|rfl|rfl|rfl|rfl|rfl|rfl|rfl|rfl
 ·exact key Tryz.func87 (by kernel_rfl) An fun args=>j7 fun _ _ _ _ _=>H9 _
 ·exact key Tryz.func88 (by kernel_rfl) Ec fun args=>j7 fun _ _ _ _ _=>Lk zq2 (fun _ _ _ _=>zq2) _
 ·exact key Tryz.func89 (by kernel_rfl) C1 fun args=>j7 fun _ _ _ _ _=>JM zq2 (fun _ _ _ _=>zq2) _
 ·exact key Tryz.func112 (by kernel_rfl) C4 fun args=>j7 fun _ _ _ _ _=>Ha _
 ·exact key Tryz.func113 (by kernel_rfl) Ed fun args=>j7 fun _ _ _ _ _=>JM zq2 (fun _ _ _ _=>zq2) _
 ·exact key Tryz.func114 (by kernel_rfl) GC fun args=>j7 fun _ _ _ _ _=>Ll _
 ·exact key Tryz.func206 (by kernel_rfl) Eg fun args=>j7 fun _ _ _ _ _=>Mm (fun _=>zq2) _
 ·exact key Tryz.func216 (by kernel_rfl) Am fun args=>j7 fun _ _ _ _ _=>Hb (fun _ _=>zq2) _
 ·exact key Tryz.func218 (by kernel_rfl) Ef fun args=>j7 fun _ _ _ _ _=>N7 (fun _=>zq2) _
 ·exact key Tryz.func219 (by kernel_rfl) Ee fun args=>j7 fun _ _ _ _ _=>Hb (fun _ _=>zq2) _
section
attribute [local instance] mb
theorem MJ:bw PH:=rF (by kernel_rfl) (by kernel_rfl) fun f fn hf hb hn=>⟨(xh hf hb hn).1,fun e he args=>((xh hf hb hn).2 e he args).2.2 _⟩
theorem Bl:∀g,aJ.lim≤g→Tryz.prog.stepOf g=none:=by
 have h:Tryz.prog.funcs.all (fun fn=>match fn.body with |some c=>(readies c).all (· <Tryz.prog.globals.size)|none=>true)=true:=by kernel_rfl
 intro g hg;unfold Program.stepOf;rw[Array.findIdx?_eq_none_iff];intro fn hfn;obtain⟨f,hf⟩:=QA.1 hfn;have:=Ml h hf;cases hc:fn.body with
 |none=>simp
 |some c=>
  rw[hc]at this;dsimp only at this;rw[QB]at this;show(Option.map readies (some c)).any (fun x=>x.contains g)=false;simp only[Option.map_some,Option.any_some];rw[Bool.eq_false_iff];intro hh;exact absurd (of_decide_eq_true (this g (by simpa using hh))) (Nat.not_lt.2 hg)
theorem MH:Twin Tryz.prog bH where
 wait:=Bl
 data:=by kernel_rfl
 begin:=fun f hf fn hfn hb=>by
  have h:Tryz.prog.inits.all (fun f=>match Tryz.prog.funcs[f]? with |some fn=>fn.body.isSome|none=>true)=true:=by kernel_rfl
  rw[R0]at h;obtain⟨i,hi⟩:=QA.1 hf;obtain⟨hlt,rfl⟩:=IT.1 hi;have:=h i hlt;rw[hfn]at this;exact this
 next:=fun f fn hf hb hn=>(xh hf hb hn).1
 ext:=fun f fn hf hb hn e he args=>((xh hf hb hn).2 e he args).1 _
theorem kv:Mz Tryz.prog bH where
 twin:=MH
 tame:=MJ
 refuse:=fC lH
 quiet:=fun h=>h
 hush:=⟨fun f fn hf hn=>by
  have hget:= @fN Tryz.prog bH f;rw[hget]at hf;obtain⟨g,hg,rfl⟩:=PD.1 hf;cases hb:bH f with
  |some c=>
   exfalso;unfold aw at hn;rw[hb]at hn;cases hn
  |none=>
   have e:aw bH f g=g:=pI hb;rw[e]at hn ⊢;exact⟨(xh hg hb hn).1,fun e he args=>((xh hg hb hn).2 e he args).2.1 _⟩⟩
end
end
section
open Go.RowKit
theorem drop_at(s:ByteArray)(k:Nat)(h:k<s.size):s.data.toList.drop k=s[k]::s.data.toList.drop (k+1):=by
 have h':k<s.data.toList.length:=by simpa using h
 rw[QN h'];rfl
theorem drop_end(s:ByteArray)(k:Nat)(h:s.size≤k):s.data.toList.drop k=[]:=Qz (by simpa using h)
theorem vB(s:ByteArray)(w:AS)(hs:s.size≤4294967280):
 Calls PB 171 #[.string s] w fun e w'=>e= .returned (.tuple #[.int .i64 (ea s.data.toList).1,.bool (ea s.data.toList).2])∧w'=w:=by
 go_enter (PB.func Tryz.func171 (by decide)),Tryz.ntmps171
 go_wp2;go_loopw [4,8] (fun v i wr=>∃k n:Nat,k≤s.size∧n≤21∧v= .int .i64 n∧i= .int .i64 k∧wr=w∧mP 0 s.data.toList=mP n (s.data.toList.drop k)) (fun _ i _=>s.size- (intOf i).toNat)
 case atStart=>exact⟨0,0,Qr _,by decide,rfl,rfl,rfl,rfl⟩
 case round=>
  obtain⟨k,n,hk,hn,rfl,rfl,rfl,hr⟩:=hrel;by_cases hlt:k<s.size
  ·rw[drop_at s k hlt,mP]at hr;have h0:=AI hr;have hc:=s[k].toNat_lt;clear hr;have hd:=AI (Qa s[k].toNat 48);have hd2:=AI (Qa 57 s[k].toNat);go_wp2;case roundEnd=>
    rename_i h1 h2;have hr:=h0.out;rw[if_neg (by omega)]at hr;refine⟨⟨k+1,min (10*n+(s[k].toNat-48)) 21,by omega,Nat.min_le_right _ _,?_,by push_cast;rfl,trivial,hr⟩,by simp[intOf];omega⟩;congr 1;omega
   all_goals
    go_ret2
    rw[if_pos (by omega)]at h0;simp[ea,h0.out]
  ·have h0:=AI hr;clear hr;go_wp2;all_goals
    rename_i h1;go_ret2
    have hr:=h0.out;rw[drop_end s k (by omega),mP]at hr;have e:ea s.data.toList=(n,!s.data.toList.isEmpty&&decide (n≤20)):=by unfold ea;rw[hr]
    have hd:decide ((n:Int)≤20)=decide (n≤20):=by rw[decide_eq_decide];omega
    clear hr h0;rw[Qm]at h1;refine⟨?_,rfl⟩;rw[e];try rw[Qm,hd]
    try simp[h1]
def PB.LG:Go.Shelf.Ren:=⟨fun |145=>170|217=>161|219=>187|220=>185|224=>189|225=>188|266=>173|267=>190|314=>191|n=>n,fun |3=>3|4=>4|5=>5|9=>9|46=>165|51=>90|59=>296|146=>319|n=>n,fun |1=>2|n=>n⟩
theorem PB.lays145:Go.Proofs.Lays.n145 PB PB.LG:= {
 mixed:=by kernel_rfl
 f145:=(PB.func Tryz.func170 (by decide)).trans (congrArg some (by kernel_rfl))
 f217:=(PB.func Tryz.func161 (by decide)).trans (congrArg some (by kernel_rfl))
 f219:=(PB.func Tryz.func187 (by decide)).trans (congrArg some (by kernel_rfl))
 f220:=(PB.func Tryz.func185 (by decide)).trans (congrArg some (by kernel_rfl))
 f224:=(PB.func Tryz.func189 (by decide)).trans (congrArg some (by kernel_rfl))
 f225:=(PB.func Tryz.func188 (by decide)).trans (congrArg some (by kernel_rfl))
 f266:=(PB.func Tryz.func173 (by decide)).trans (congrArg some (by kernel_rfl))
 f267:=(PB.func Tryz.func190 (by decide)).trans (congrArg some (by kernel_rfl))
 f314:=(PB.func Tryz.func191 (by decide)).trans (congrArg some (by kernel_rfl))
 t3:=(congrFun (br ..) _).trans Tryz.underlying3
 a3:=fun w=>(dU ..).trans (Tryz.isAgg3 w)
 z3:=fun w=>(dp ..).trans (Tryz.sizeOf3 w)
 v3:=fun w=>(cz ..).trans (Tryz.zeroValue3 w)
 t4:=(congrFun (br ..) _).trans Tryz.underlying4
 a4:=fun w=>(dU ..).trans (Tryz.isAgg4 w)
 z4:=fun w=>(dp ..).trans (Tryz.sizeOf4 w)
 v4:=fun w=>(cz ..).trans (Tryz.zeroValue4 w)
 t5:=(congrFun (br ..) _).trans Tryz.underlying5
 a5:=fun w=>(dU ..).trans (Tryz.isAgg5 w)
 z5:=fun w=>(dp ..).trans (Tryz.sizeOf5 w)
 v5:=fun w=>(cz ..).trans (Tryz.zeroValue5 w)
 t9:=(congrFun (br ..) _).trans Tryz.underlying9
 a9:=fun w=>(dU ..).trans (Tryz.isAgg9 w)
 z9:=fun w=>(dp ..).trans (Tryz.sizeOf9 w)
 v9:=fun w=>(cz ..).trans (Tryz.zeroValue9 w)
 t46:=(congrFun (br ..) _).trans Tryz.underlying165
 a46:=fun w=>(dU ..).trans (Tryz.isAgg165 w)
 z46:=fun w=>(dp ..).trans (Tryz.sizeOf165 w)
 v46:=fun w=>(cz ..).trans (Tryz.zeroValue165 w)
 t51:=(congrFun (br ..) _).trans Tryz.underlying90
 a51:=fun w=>(dU ..).trans (Tryz.isAgg90 w)
 z51:=fun w=>(dp ..).trans (Tryz.sizeOf90 w)
 v51:=fun w=>(cz ..).trans (Tryz.zeroValue90 w)
 t59:=(congrFun (br ..) _).trans Tryz.underlying296
 a59:=fun w=>(dU ..).trans (Tryz.isAgg296 w)
 z59:=fun w=>(dp ..).trans (Tryz.sizeOf296 w)
 v59:=fun w=>(cz ..).trans (Tryz.zeroValue296 w)
 t146:=(congrFun (br ..) _).trans Tryz.underlying319
 a146:=fun w=>(dU ..).trans (Tryz.isAgg319 w)
 z146:=fun w=>(dp ..).trans (Tryz.sizeOf319 w)
 v146:=fun w=>(cz ..).trans (Tryz.zeroValue319 w)
 g1:=by kernel_rfl}
def PB.LH:Go.Shelf.Ren:=⟨fun |137=>139|217=>161|266=>173|n=>n,fun |3=>3|5=>5|9=>9|n=>n,fun |n=>n⟩
theorem PB.lays137:Go.Proofs.Lays.n137 PB PB.LH:= {
 mixed:=by kernel_rfl
 f137:=(PB.func Tryz.func139 (by decide)).trans (congrArg some (by kernel_rfl))
 f217:=(PB.func Tryz.func161 (by decide)).trans (congrArg some (by kernel_rfl))
 f266:=(PB.func Tryz.func173 (by decide)).trans (congrArg some (by kernel_rfl))
 t3:=(congrFun (br ..) _).trans Tryz.underlying3
 a3:=fun w=>(dU ..).trans (Tryz.isAgg3 w)
 z3:=fun w=>(dp ..).trans (Tryz.sizeOf3 w)
 v3:=fun w=>(cz ..).trans (Tryz.zeroValue3 w)
 t5:=(congrFun (br ..) _).trans Tryz.underlying5
 a5:=fun w=>(dU ..).trans (Tryz.isAgg5 w)
 z5:=fun w=>(dp ..).trans (Tryz.sizeOf5 w)
 v5:=fun w=>(cz ..).trans (Tryz.zeroValue5 w)
 t9:=(congrFun (br ..) _).trans Tryz.underlying9
 a9:=fun w=>(dU ..).trans (Tryz.isAgg9 w)
 z9:=fun w=>(dp ..).trans (Tryz.sizeOf9 w)
 v9:=fun w=>(cz ..).trans (Tryz.zeroValue9 w)}
def PB.MR:Go.Shelf.Ren:=⟨fun |99=>159|206=>172|n=>n,fun |3=>3|4=>4|9=>9|n=>n,fun |n=>n⟩
theorem PB.lays99:Go.Proofs.Lays.n99 PB PB.MR:= {
 mixed:=by kernel_rfl
 f99:=(PB.func Tryz.func159 (by decide)).trans (congrArg some (by kernel_rfl))
 f206:=(PB.func Tryz.func172 (by decide)).trans (congrArg some (by kernel_rfl))
 t3:=(congrFun (br ..) _).trans Tryz.underlying3
 a3:=fun w=>(dU ..).trans (Tryz.isAgg3 w)
 z3:=fun w=>(dp ..).trans (Tryz.sizeOf3 w)
 v3:=fun w=>(cz ..).trans (Tryz.zeroValue3 w)
 t4:=(congrFun (br ..) _).trans Tryz.underlying4
 a4:=fun w=>(dU ..).trans (Tryz.isAgg4 w)
 z4:=fun w=>(dp ..).trans (Tryz.sizeOf4 w)
 v4:=fun w=>(cz ..).trans (Tryz.zeroValue4 w)
 t9:=(congrFun (br ..) _).trans Tryz.underlying9
 a9:=fun w=>(dU ..).trans (Tryz.isAgg9 w)
 z9:=fun w=>(dp ..).trans (Tryz.sizeOf9 w)
 v9:=fun w=>(cz ..).trans (Tryz.zeroValue9 w)}
end
section
open Go.RowKit
theorem ext_list(s:ByteArray)(a b:Nat):(s.extract a b).data.toList=(s.data.toList.drop a).take (b-a):=by rw[Lib.extract_eq]
theorem oo(s:ByteArray)(a:Nat):(s.extract a s.size).data.toList=s.data.toList.drop a:=by
 rw[ext_list];exact List.take_of_length_le (by rw[Q8,← PG];exact IN _)
theorem xe(s:ByteArray)(c:Nat)(w:AS):Calls PB 139 #[.string s,.int .u8 c] w fun e w'=>e= .returned (.int .i64 (PX s.data.toList c.toUInt8))∧w'=w:=Any.strings_IndexByte PB.lays137 s c w
theorem CB(s sep:ByteArray)(m:Int)(w:AS)(hs:s.size<4294967281)(hm:w.cell? ⟨2,0,none⟩=some (.int .i64 m)):
 Calls PB 170 #[.string s,.string sep] w fun e w'=>e= .returned (.tuple #[.string ⟨(Qj s.data.toList sep.data.toList).1.toArray⟩,.string ⟨(Qj s.data.toList sep.data.toList).2.1.toArray⟩,.bool (Qj s.data.toList sep.data.toList).2.2])∧∃n,w'=w.drewN n:=Any.strings_Cut PB.lays145 s sep m w hs hm
theorem Kx(s p:ByteArray)(w:AS):Calls PB 159 #[.string s,.string p] w fun e w'=>e= .returned (.bool (QK s.data.toList p.data.toList))∧w'=w:=Any.strings_HasPrefix PB.lays99 s p w
theorem wU{x c:Nat}{s:ByteArray}{p q fl:Nat}{fold:Bool}{w:AS}(h:ac w x 243 (jb s p fl c fold)):ac (w.setCell ⟨x,1,none⟩ (.int .i64 q)) x 243 (jb s q fl c fold):=h.ci 1 _
theorem Ch(l:List UInt8):(⟨l.toArray⟩:ByteArray).size=l.length:=by rw[PG]
theorem Ex(x c:Nat)(s:ByteArray)(p fl:Nat)(fold:Bool)(w:AS)(m:Int)(hs:s.size≤1000)(hp:p≤s.size)(hm:w.cell? ⟨2,0,none⟩=some (.int .i64 m))(hB:ac w x 243 (jb s p fl c fold)):
 Calls PB 158 #[.pointer (some ⟨x,0,none⟩)] w fun e w'=>e= .returned (.tuple #[.int .i64 (bO (s.data.toList.drop p)).1,.int .i64 (bO (s.data.toList.drop p)).2.1,.bool (bO (s.data.toList.drop p)).2.2.1])∧
  ac w' x 243 (jb s (p+(bO (s.data.toList.drop p)).2.2.2) fl c fold)∧Kp w.heap.size [x] w w':=by
 have c0:w.cell? ⟨x,0,none⟩=some (.string s):=hB.cell 0;have c1:w.cell? ⟨x,1,none⟩=some (.int .i64 p):=hB.cell 1;have f0:∀i,w.frozen? ⟨x,i,none⟩=false:=hB.frozen;have hI:∀w,Calls PB 139 #[.string (s.extract p s.size),.int .u8 125] w fun e w'=>e= .returned (.int .i64 (PX (s.data.toList.drop p) 125))∧w'=w:=fun w=>by
  rw[← oo];exact xe (s.extract p s.size) 125 w
 have hB':=AI hB;have h0:=PG s;generalize hl:s.data.toList.drop p=rest at hI ⊢;have hlen:p+rest.length=s.size:=by rw[← hl,Q8];omega
 unfold bO;by_cases hi:PX rest 125<0
 ·rw[if_pos hi];have hI2:=AI hI;clear hI hB hm h0;go_enter (PB.func Tryz.func158 (by decide)),Tryz.ntmps158
  go_wp2;go_quiet (first |(go_at_call 139;refine QH (hI2.out _)))
  go_wp2;go_ret3
  exact⟨rfl,hB'.out,.refl _⟩
 ·have hk:=Gl hi;obtain⟨k,hk0⟩:∃k:Nat,PX rest 125=k:=⟨(PX rest 125).toNat,by omega⟩;rw[if_neg hi];rw[hk0]at hk ⊢;simp only[hk0]at hI;rw[Int.toNat_natCast]at hk ⊢;have hel:(s.extract p (p+k)).data.toList=rest.take k:=by rw[ext_list,hl,Nat.add_sub_cancel_left]
  have hC:∀u:AS,u.cell? ⟨2,0,none⟩=some (.int .i64 m)→Calls PB 170 #[.string (s.extract p (p+k)),.string ⟨#[44]⟩] u fun e w'=>e= .returned (.tuple #[.string ⟨(Qj (rest.take k) [44]).1.toArray⟩,.string ⟨(Qj (rest.take k) [44]).2.1.toArray⟩,.bool (Qj (rest.take k) [44]).2.2])∧∃m,w'=u.drewN m:=fun u hu=>by
   have:=CB (s.extract p (p+k)) ⟨#[44]⟩ m u (by rw[PG,hel,Qo];omega) hu;rw[hel]at this;exact this
  have hcl:(Qj (rest.take k) [44]).1.length≤1000∧(Qj (rest.take k) [44]).2.1.length≤1000:=by
   unfold Qj;split
   ·simp only[Qo,Q8];omega
   ·simp only[Qo,PW];omega
  generalize hcu:Qj (rest.take k) [44]=cu at hC hcl ⊢;obtain⟨lo,hgh,two⟩:=cu;dsimp only at hC hcl ⊢;have hN1:=AI (fun w=>vB ⟨lo.toArray⟩ w (by rw[Ch];omega));have hN2:=AI (fun w=>vB ⟨hgh.toArray⟩ w (by rw[Ch];omega));generalize hpk:p+k=q at hC hel;have hw:IntKind.i64.wrap ((p:Int)+k)=(q:Int):=by rw[OF];omega
  have hpq:p≤q:=by omega
  have hqs:q≤s.size:=by omega
  obtain⟨j,hj⟩:∃j,j=k+1:=⟨_,rfl⟩;have hwk:IntKind.i64.wrap ((k:Int)+1)=(j:Int):=by rw[OF];omega
  have hwp:IntKind.i64.wrap ((p:Int)+(j:Int))=((p+j:Nat):Int):=by rw[OF];omega
  rw[← hj];clear hj;have hI2:=AI hI;have hC2:=AI hC;have h1:=AI hm;clear hI hk0 hi hC hB hm hel h0 hl hlen hk hcu;have hpk':=AI hpk;clear hpk;have c0_w:=c0;have c1_w:=c1;have f0_w:=f0;have M_w:=h1;have B_w:=hB';have K_w:=AI (Kp.refl (B:=w.heap.size) (X:=[x]) w);clear c0 c1 f0 hB' h1;have e0:(none:Option Nat)=none:=rfl;go_enter (PB.func Tryz.func158 (by decide)),Tryz.ntmps158
  go_wp2;go_quiet (first |(go_at_call 139;refine QH (hI2.out _)))
  go_wp2;have c0_w1:(w.drewN nq).cell? ⟨x,0,none⟩=some _:=c0_w;have c1_w1:(w.drewN nq).cell? ⟨x,1,none⟩=some _:=c1_w;have f0_w1:∀i,(w.drewN nq).frozen? ⟨x,i,none⟩=false:=f0_w;have M_w1:=AI (show(w.drewN nq).cell? ⟨2,0,none⟩=some _ from M_w.out);have B_w1:=AI (show ac (w.drewN nq) x _ _ from B_w.out);have K_w1:=AI (K_w.out.drewN nq);clear c0_w c1_w f0_w M_w B_w K_w;generalize w.drewN nq=w1 at *;go_quiet (first |(go_at_call 170;refine Calls.quiet_of (hC2.out _ M_w1.out)))
  have c0_w2:(w1.drewN nq).cell? ⟨x,0,none⟩=some _:=c0_w1;have c1_w2:(w1.drewN nq).cell? ⟨x,1,none⟩=some _:=c1_w1;have f0_w2:∀i,(w1.drewN nq).frozen? ⟨x,i,none⟩=false:=f0_w1;have M_w2:=AI (show(w1.drewN nq).cell? ⟨2,0,none⟩=some _ from M_w1.out);have B_w2:=AI (show ac (w1.drewN nq) x _ _ from B_w1.out);have K_w2:=AI (K_w1.out.drewN nq);clear c0_w1 c1_w1 f0_w1 M_w1 B_w1 K_w1;generalize w1.drewN nq=w2 at *;have hE:=AI (And.intro (wU (q:=p+j) B_w2.out) (K_w2.out.setCell (p:=⟨x,1,none⟩) (fun _=>By.2 rfl) (.int .i64 ((p+j:Nat):Int))));cases two with
  |false=>
   go_wp2_with (first |(go_at_call 171;refine(hN1.out _).mono ?_;rintro e w' ⟨rfl,rfl⟩)|fail)
   go_ret3
   exact⟨rfl,hE.out⟩
  |true=>
   by_cases hh:hgh=[]
   ·subst hh;go_wp2_with (first |(go_at_call 171;refine(hN1.out _).mono ?_;rintro e w' ⟨rfl,rfl⟩)|fail)
    go_ret3
    exact⟨rfl,hE.out⟩
   ·have hne:hgh.isEmpty=false:=by cases hgh with |nil=>exact absurd rfl hh|cons a r=>rfl
    have hh':=AI hh;clear hh;go_wp2_with (first |(go_at_call_of 171 (Value.string ⟨lo.toArray⟩);refine(hN1.out _).mono ?_;rintro e w' ⟨rfl,rfl⟩)|(go_at_call_of 171 (Value.string ⟨hgh.toArray⟩);refine(hN2.out _).mono ?_;rintro e w' ⟨rfl,rfl⟩)|fail)
    all_goals
     go_ret3
     refine⟨?_,hE.out⟩;first |rfl|(simp_all;done)
end
section
open Go.RowKit
def qW(l:List UInt8):AT:=.string ⟨l.toArray⟩
def im:List AT:=bz.flatMap fun x=>[qW x.1,qW x.2]
def nC(w:AS):Prop:=∃t fr,w.heap[1]?=some (.cells im.toArray t fr)
def sJ(k:Nat):ByteArray:=⟨(bz.getD k ([],[])).1.toArray⟩
def uB(k:Nat):ByteArray:=⟨(bz.getD k ([],[])).2.toArray⟩
theorem GS(w:AS):∀k:Nat,k<12→(Instr.index 301 (.agg im.toArray) (.int .i64 (k:Int))).run PB w= .ok (.agg #[.string (sJ k),.string (uB k)]) w:=fun k hk=>match k,hk with
 |0,_=>by kernel_rfl
 |1,_=>by kernel_rfl
 |2,_=>by kernel_rfl
 |3,_=>by kernel_rfl
 |4,_=>by kernel_rfl
 |5,_=>by kernel_rfl
 |6,_=>by kernel_rfl
 |7,_=>by kernel_rfl
 |8,_=>by kernel_rfl
 |9,_=>by kernel_rfl
 |10,_=>by kernel_rfl
 |11,_=>by kernel_rfl
theorem Jh:∀k:Nat,k<12→(uB k).size%2=0∧(uB k).size≤8:=by decide+kernel
theorem Jg(nm:List UInt8)(k:Nat)(hk:k<12):(bz.drop k).find? (fun x=>x.1==nm)=if(sJ k).data.toList=nm then some ((sJ k).data.toList,(uB k).data.toList)else(bz.drop (k+1)).find? (fun x=>x.1==nm):=by
 have hl:k<bz.length:=hk;have e:bz.drop k=((sJ k).data.toList,(uB k).data.toList)::bz.drop (k+1):=by
  rw[QN hl];have:bz.getD k ([],[])=bz[k]:=by rw[Qi,Qv hl];rfl
  unfold sJ uB;rw[this]
 rw[e,List.find?_cons];by_cases h:(sJ k).data.toList=nm
 ·rw[if_pos h];simp[h]
 ·rw[if_neg h];have:((sJ k).data.toList==nm)=false:=by simpa using h
  simp only[this]
def Lr(r:Option (an×Nat))(x b:Nat)(s:ByteArray)(p fl c:Nat)(fold:Bool)(w:AS)(e:Ending)(w':AS):Prop:=match r with
 |none=>e= .returned (.bool false)∧Kp w.heap.size [] w w'
 |some y=>e= .returned (.bool true)∧ac w' x 243 (jb s (p+y.2) fl c fold)∧ac w' b 101 (words y.1)∧Kp w.heap.size [x,b] w w'
set_option maxRecDepth 100000 in
theorem GU(x c b:Nat)(s:ByteArray)(p fl:Nat)(fold:Bool)(S:an)(rest:ByteArray)(w:AS)(m:Int)(hs:s.size≤1000)(hp:p+rest.size≤s.size)(hr:2≤rest.size)
 (hm:w.cell? ⟨2,0,none⟩=some (.int .i64 m)) (hc:nC w) (hB:ac w x 243 (jb s p fl c fold)) (hb:ac w b 101 (words S)) (hxb:x≠b):
 Calls PB 160 #[.pointer (some ⟨x,0,none⟩),.pointer (some ⟨b,0,none⟩),.string rest] w fun e w'=>Lr (eU S rest.data.toList) x b s p fl c fold w e w':=by
 have c0:w.cell? ⟨x,0,none⟩=some (.string s):=hB.cell 0;have c1:w.cell? ⟨x,1,none⟩=some (.int .i64 p):=hB.cell 1;have f0:∀i,w.frozen? ⟨x,i,none⟩=false:=hB.frozen;have hC:∀u:AS,u.cell? ⟨2,0,none⟩=some (.int .i64 m)→Calls PB 170 #[.string (rest.extract 2 rest.size),.string ⟨#[58,93]⟩] u fun e w'=>e= .returned (.tuple #[.string ⟨(Qj (rest.data.toList.drop 2) [58,93]).1.toArray⟩,.string ⟨(Qj (rest.data.toList.drop 2) [58,93]).2.1.toArray⟩,.bool (Qj (rest.data.toList.drop 2) [58,93]).2.2])∧∃m,w'=u.drewN m:=fun u hu=>by
  have:=CB (rest.extract 2 rest.size) ⟨#[58,93]⟩ m u (by rw[PG,oo,Q8,← PG];omega) hu;rw[oo]at this;exact this
 have hsz:=PG rest;generalize hres:eU S rest.data.toList=res;unfold eU at hres;dsimp only at hres;generalize hcu:Qj (rest.data.toList.drop 2) [58,93]=cu at hC hres;obtain⟨nm,aft,ok⟩:=cu;dsimp only at hC hres;have hnm:ok=true→nm.length+4≤rest.size:=fun h=>by
  subst h;have:=CA (rest.data.toList.drop 2) [58,93] (by rw[hcu]);rw[hcu]at this;simp only[Q8,PN,PW]at this;omega
 have h1b:1<rest.size:=by omega
 have hg1:rest.data.toList.getD 1 0=rest[1]'h1b:=by
  rw[Qi,Qv (by omega)];rfl
 rw[hg1]at hres;have hC2:=AI hC;have h2:=AI hm;have hB2:=AI hB;have hb2:=AI hb;have hc2:=AI hc;have hcu2:=AI hcu;have h1z:(1:Int)<(rest.size:Int):=by omega
 clear hC hm hB hb hc hcu hsz hg1;by_cases h1:rest[1]=58
 ·have h1n:rest[1].toNat=58:=by rw[h1];rfl
  cases ok with
  |false=>
   rw[if_pos (.inr rfl)]at hres;subst hres;go_enter (PB.func Tryz.func160 (by decide)),Tryz.ntmps160
   go_wp2_with (first |(go_at_call 170;refine(hC2.out _ h2.out).mono ?_;rintro e w' ⟨rfl,n1,rfl⟩)|fail)
   go_ret;exact⟨rfl,(Kp.refl w).drewN n1⟩
  |true=>
   rw[if_neg (by simp[h1])]at hres;replace hres:=AI hres;obtain⟨tt,fr,hg⟩:=hc2.out;have hix0:=fun k hk w=>GS w k hk
   generalize hcv:im.toArray=cv at hg hix0;have hu:=(congrFun (br Tryz.prog bB) 301).trans Tryz.underlying301;have hsz:(PB.info? 301).map (·.size)=some cv.size:=by rw[← hcv];kernel_rfl
   clear hcv;have h5:=AI hix0;clear hix0;go_enter (PB.func Tryz.func160 (by decide)),Tryz.ntmps160
   go_wp2_with (first |(go_at_call 170;refine(hC2.out _ h2.out).mono ?_;rintro e w' ⟨rfl,n1,rfl⟩)|(refine wpList_load_row rfl 301 _ rfl 1 rfl tt _ fr _ hg hu rfl hsz ?_)|fail)
   have B1:=AI (show ac (w.drewN n1) x _ _ from hB2.out);have b1:=AI (show ac (w.drewN n1) b _ _ from hb2.out);have K1:=AI ((Kp.refl (B:=w.heap.size) (X:=[]) w).drewN n1);have hz1:(w.drewN n1).heap.size=w.heap.size:=rfl;clear c0 c1 f0 hc2 h2 hC2 hg;generalize w.drewN n1=w1 at *;go_loopw [28] (fun i wr=>∃k:Nat,k≤12∧i= .int .i64 k∧Kp w.heap.size [] w wr∧bz.find? (fun x=>x.1==nm)=(bz.drop k).find? (fun x=>x.1==nm)) (fun i _=>12- (intOf i).toNat)
   case atStart=>exact⟨0,by omega,rfl,K1.out,rfl⟩
   case round=>
    obtain⟨k,hk,rfl,hK,hf⟩:=hrel;by_cases hlt:k<12
    ·rw[Jg nm k hlt]at hf;have hx:=h5.out k hlt;have hki:(k:Int)<12:=by omega
     have hev:=AI (Jh k hlt);have hKr:=AI hK;clear hK;generalize hN:sJ k=N at *;generalize hR:uB k=R at *;have hN2:=AI hN;have hR2:=AI hR;clear hN hR hu hsz;by_cases hn:N.data.toList=nm
     ·rw[if_pos hn]at hf;have hn':(N.toList==nm)=true:=by rw[Qm];simpa using hn
      have hf2:=AI hf;have hD:ac (wr.alloc (.cells #[.string N,.string R] 300)) wr.heap.size 300 #[.string N,.string R]:=ac.new _ _ _;have h3:=hKr.out.alloc (IN _) (.cells #[.string N,.string R] 300);have hbl:=hb2.out.lt;have h6:=hB2.out.lt;have hwl:=hKr.out.1;replace hD:=AI hD;have hi:=AI (hb2.out.kp h3 hbl (by simp));replace h3:=AI (h3.mono (IN _) (X':=[b]) (fun x hx=>by cases hx));replace hbl:=AI hbl;replace h6:=AI h6;replace hwl:=AI hwl;clear hf hn hKr b1 B1 K1 h5;go_wp2;generalize wr.alloc (.cells #[.string N,.string R] 300)=w2 at *;generalize wr.heap.size=d at *;go_loopw [12] (fun i wi=>∃j:Nat,j≤R.size∧j%2=0∧i= .int .i64 j∧ac wi d 300 #[.string N,.string R]∧(∃S',ac wi b 101 (words S')∧ga S' (R.data.toList.drop j)=ga S R.data.toList)∧Kp w.heap.size [b] w wi) (fun i _=>R.size- (intOf i).toNat)
      case atStart=>exact⟨0,by omega,rfl,rfl,hD.out,⟨S,hi.out,rfl⟩,h3.out⟩
      case round=>
       obtain⟨j,hj,hj2,rfl,hDi,⟨S',hbi,hS'⟩,h0⟩:=hrel;have cD:wr.cell? ⟨d,1,none⟩=some (.string R):=hDi.cell 1;by_cases hlt:j<R.size
       ·have hlt2:j+1<R.size:=by have:=hev.out;omega
        rw[drop_at R j hlt,drop_at R (j+1) hlt2,ga]at hS';have h1i:(j:Int)<(R.size:Int):=by omega
        have hw2':IntKind.i64.wrap ((j:Int)+2)=((j+2:Nat):Int):=by have:=hev.out;rw[OF];omega
        obtain⟨j1,hj1⟩:∃j1,j1=j+1:=⟨_,rfl⟩;have hlt3:j1<R.size:=by omega
        have h2i:(j1:Int)<(R.size:Int):=by omega
        have hw1:IntKind.i64.wrap ((j:Int)+1)=(j1:Int):=by have:=hev.out;rw[OF];omega
        have hRj:R[j+1]=R[j1]:=by subst hj1;rfl
        rw[hRj]at hS';have hA:=AI (fun u(hu:ac u b 101 (words S'))=>add_any b R[j].toNat R[j1].toNat S' u (by have:=R[j].toNat_lt;omega) (by have:=R[j1].toNat_lt;omega) hu);clear hRj hj1 hlt2;replace hbi:=AI hbi;replace hDi:=AI hDi;replace h0:=AI h0;replace hS':=AI hS';replace hj2:=AI hj2;clear hx hj;go_wp2;go_still_tail 10,(by kernel_rfl)
        change wpList _ _ _ _ _ wr.drew;go_wp2_with (first |(go_at_call 135;refine(hA.out wr.drew hbi.out).mono ?_;rintro e w' ⟨rfl,hb',hO⟩)|fail)
        go_roundw
        case rel=>
         have hdb:d≠b:=by have:=hwl.out;have:=hbl.out;omega
         have hD':ac w' d 300 #[.string N,.string R]:=(hO.2 d hdb).trans hDi.out;have hK':Kp w.heap.size [b] w w':=by
          refine h0.out.trans ⟨Nat.le_of_eq hO.1.symm,fun y _ hy=>hO.2 y fun e=>hy (e▸By.2 rfl)⟩
         have hh:∃i:Nat,i≤R.size∧i%2=0∧Value.int .i64 ((j:Int)+2)= .int .i64 (i:Int)∧ac w' d 300 #[.string N,.string R]∧(∃S2,ac w' b 101 (words S2)∧ga S2 (R.data.toList.drop i)=ga S R.data.toList)∧Kp w.heap.size [b] w w':=⟨j+2,by have:=hev.out;have:=hj2.out;omega,by have:=hj2.out;omega,by push_cast;rfl,hD',⟨_,hb',hS'.out⟩,hK'⟩;first |exact hh|((repeat apply Exists.intro);exact⟨hh,rfl⟩)
        case measure=>simp[intOf];omega
       ·have hjR:R.data.toList.drop j=[]:=drop_end R j (by omega);rw[hjR]at hS';have hS2:S'=ga S R.data.toList:=hS';rw[hS2]at hbi;have h4:=hB2.out.kp h0 h6.out (by simpa using hxb);have c1:wr.cell? ⟨x,1,none⟩=some (.int .i64 p):=h4.cell 1;have f1:∀i,wr.frozen? ⟨x,i,none⟩=false:=h4.frozen;have hnl:=hnm trivial;obtain⟨n4,h7⟩:∃n4,n4=nm.length+4:=⟨_,rfl⟩;obtain⟨pn,h8⟩:∃pn,pn=p+n4:=⟨_,rfl⟩;have hw3:IntKind.i64.wrap ((nm.length:Int)+4)=(n4:Int):=by rw[OF];omega
        have hw4:IntKind.i64.wrap ((p:Int)+(n4:Int))=(pn:Int):=by rw[OF];omega
        have h9:=AI (wU (q:=pn) h4);have ha:=AI (hbi.far (p:=⟨x,1,none⟩) (fun e=>hxb e.symm) (.int .i64 (pn:Int)));have he:=AI ((h0.mono (IN _) (X':=[x,b]) fun y hy _=>QD _ hy).setCell (p:=⟨x,1,none⟩) (fun _=>PJ) (.int .i64 (pn:Int)));have hr:=hres.out;rw[hf2.out]at hr;replace hr:=AI hr;have hl:=AI (h8.trans (congrArg (p+ ·) h7));have hnlt:¬ ((j:Int)<(R.size:Int)):=by omega
        clear hS2 hS' hDi hjR hx hbi h0 h4 hnm hnl h7 h8 hs hp hlt hj hj2;go_wp2;go_ret;rw[← hr.out];refine⟨rfl,?_,ha.out,he.out⟩;show ac _ x 243 (jb s (p+(nm.length+4)) fl c fold);rw[← hl.out];exact h9.out
     ·rw[if_neg hn]at hf;have hn':(N.toList==nm)=false:=by rw[Qm];simpa using hn
      have hf2:=AI hf;clear hf hn;go_wp2;case roundEnd=>exact⟨⟨k+1,by omega,by push_cast;rfl,hKr.out.alloc (IN _) _,hf2.out⟩,by simp[intOf];omega⟩
    ·have hd:bz.drop k=[]:=by
      obtain rfl:k=12:=by omega
      rfl
     rw[hd]at hf;have hf2:=AI hf;have hKr:=AI hK;clear hf hK hd h5 hu hsz hnm;go_wp2;go_ret;have hr:=hres.out;rw[hf2.out]at hr;first
      |exact⟨rfl,hKr.out⟩
      |(rw[← hr];exact⟨rfl,hKr.out⟩)
 ·rw[if_pos (.inl h1)]at hres;subst hres;have h1':rest[1].toNat≠58:=fun h=>h1 (by rw[← QC];exact h)
  have h1':((rest[1].toNat:Int)=58)=False:=eq_false (by omega);clear h1;go_enter (PB.func Tryz.func160 (by decide)),Tryz.ntmps160
  go_wp2_with (first |(go_at_call 170;refine(hC2.out _ h2.out).mono ?_;rintro e w' ⟨rfl,n1,rfl⟩)|fail)
  go_ret;exact⟨rfl,(Kp.refl w).drewN n1⟩
end
section
open Go.RowKit
attribute [local instance] dP
variable{T:bw PB}
structure bt where
 x:Nat
 r:Nat
 cap:Nat
 rc:Nat
 tm:Bool
 m:Int
 s:ByteArray
 fl:Nat
 fold:Bool
structure SB(E:bt)(w:AS)(p:Nat)(F:Array AT):Prop where
 blk:ac w E.x 243 (jb E.s p E.fl E.r E.fold)
 chan:∃sd,w.heap[E.r]?=some (.chan E.cap F false sd E.rc E.tm)
 max:w.cell? ⟨2,0,none⟩=some (.int .i64 E.m)
 cls:nC w
def bt.l(E:bt):List UInt8:=E.s.data.toList
def bt.ln(E:bt):Bool:=decide (E.fl/2%2=1)
section
variable{E:bt}{w w':AS}{p:Nat}{F:Array AT}
theorem SB.ab(h:SB E w p F)(he:w'.heap=w.heap):SB E w' p F:=⟨h.blk.ab he,by rw[he];exact h.chan,by unfold PZ at *;rw[he];exact h.max,by unfold nC at *;rw[he];exact h.cls⟩
theorem SB.lt(h:SB E w p F):E.x<w.heap.size∧E.r<w.heap.size∧E.x≠E.r:=by
 obtain⟨sd,hc⟩:=h.chan;exact⟨h.blk.lt,(IT.1 hc).1,h.blk.x9 hc⟩
theorem iN{w w':AS}{b:Nat}(h:w'.heap[b]?=w.heap[b]?)(i:Nat):w'.cell? ⟨b,i,none⟩=w.cell? ⟨b,i,none⟩:=by unfold PZ;rw[h]
theorem SB.max_lt(h:SB E w p F):2<w.heap.size:=by
 have:=h.max;rcases Qa 2 w.heap.size with h1|h1
 ·exact h1
 ·unfold PZ at this;rw[Q2 h1]at this;cases this
theorem SB.lh(h:SB E w p F):1<w.heap.size:=by
 obtain⟨t,fr,h⟩:=h.cls;exact(IT.1 h).1
theorem SB.keep(h:SB E w p F)(hx:w'.heap[E.x]?=w.heap[E.x]?)(hr:w'.heap[E.r]?=w.heap[E.r]?)(h1:w'.heap[2]?=w.heap[2]?)(h2:w'.heap[1]?=w.heap[1]?):SB E w' p F:=
 ⟨hx.trans h.blk,by rw[hr];exact h.chan,by rw[iN h1];exact h.max,by unfold nC at *;rw[h2];exact h.cls⟩
theorem SB.kp(h:SB E w p F){X:List Nat}(hk:Kp w.heap.size X w w')(hx:E.x∉X)(hr:E.r∉X)(h1:2∉X)(h2:1∉X):SB E w' p F:=
 h.keep (hk.2 _ h.lt.1 hx) (hk.2 _ h.lt.2.1 hr) (hk.2 _ h.max_lt h1) (hk.2 _ h.lh h2)
theorem SB.push(h:SB E w p F){sd:Nat}(hx:E.x≠E.r)(hg:2≠E.r∧1≠E.r)(v:AT):SB E (ay w E.r (.chan E.cap (F.push v) false sd E.rc E.tm)) p (F.push v):=by
 have hne:∀b,b≠E.r→(ay w E.r (.chan E.cap (F.push v) false sd E.rc E.tm)).heap[b]?=w.heap[b]?:=fun b hb=>by
  show(w.heap.setIfInBounds E.r _)[b]?=_;rw[Array.getElem?_setIfInBounds_ne (PV hb)]
 obtain⟨s0,hc⟩:=h.chan;exact⟨(hne _ hx).trans h.blk,⟨sd,qU hc⟩,by rw[iN (hne _ hg.1)];exact h.max,by have:=h.cls;unfold nC at *;rw[hne _ hg.2];exact this⟩
theorem SB.tf(h:SB E w p F):2≠E.r∧1≠E.r:=by
 obtain⟨sd,hc⟩:=h.chan;refine⟨fun e=> ?_,fun e=> ?_⟩
 ·have:=h.max;rw[e]at this;unfold PZ at this;rw[hc]at this;cases this
 ·obtain⟨t,fr,h1⟩:=h.cls;rw[e,hc]at h1;cases h1
end
theorem PB.send{ρ:Qw→AT}{o:Oper}{x y:Qw}(r:Nat)(v:AT)(h:o.op= .send x y)(hx:ρ x= .chan (some r))(hy:ρ y=v)(u:AS):
 (Qf ρ o).run PB u= .ok (.comm #[{chan:=.chan (some r),send:=some v,zero:=.tuple #[]}] true .send) u:=by
 unfold Qf;simp[h,hx,hy,go_sem]
set_option maxRecDepth 100000 in
theorem zv{E:bt}{w:AS}{p:Nat}{F:Array AT}(S:an)(at_:Int)(h:SB E w p F)(hF:F.size<E.cap):
 dh (aK T) 136 #[.pointer (some ⟨E.x,0,none⟩),rQ S,.int .i64 at_] w fun e w'=>e= .returned (.tuple #[])∧SB E w' p (F.push (Tok.val 0 (dl at_ S)))∧Kp w.heap.size [E.r] w w':=by
 refine cF trivial (fun w' h=>nomatch h.1) (PB.func Tryz.func136 (by decide)) rfl ?_;simp only[Tryz.ntmps136,PU,PN,PW,Qd,Qc,PM,PL,Q4,PP,Q7,Q6];unfold rQ;refine ag (fun K hK=> ?_);refine ae (fun w1 he=> ?_);have H1:=AI (h.ab he);have hK1:=AI ((Kp.refl (B:=w.heap.size) (X:=[E.r]) w).ab he);have hz:=congrArg Qp he;clear he h;go_wp2;refine hK.out _ _ ?_;clear hK K;have H2:=AI (H1.out.keep (w':=w1.alloc (.cells #[.int .u64 (wz S 0),.int .u64 (wz S 1),.int .u64 (wz S 2),.int .u64 (wz S 3)] 101)) (Below.heap_alloc _ _ _ H1.out.lt.1) (Below.heap_alloc _ _ _ H1.out.lt.2.1) (Below.heap_alloc _ _ _ H1.out.max_lt) (Below.heap_alloc _ _ _ H1.out.lh));have hK2:=AI (hK1.out.alloc (IN _) (.cells #[.int .u64 (wz S 0),.int .u64 (wz S 1),.int .u64 (wz S 2),.int .u64 (wz S 3)] 101));have hD:=AI (ac.new w1 101 #[.int .u64 (wz S 0),.int .u64 (wz S 1),.int .u64 (wz S 2),.int .u64 (wz S 3)]);rw[hz]at hD;clear H1 hK1;generalize w1.alloc _=w2 at *;clear hz;refine lx 7 (by kernel_rfl) (by kernel_rfl) (fun K hK w3 h1=> ?_);simp only[QE,QS];have hB3:=H2.out.blk.ab h1;have h0:=hD.out.ab h1;have c3:w3.cell? ⟨E.x,3,none⟩=some (.chan (some E.r)):=hB3.cell 3;have d0:w3.cell? ⟨w.heap.size,0,none⟩=some _:=h0.cell 0;have d1:w3.cell? ⟨w.heap.size,1,none⟩=some _:=h0.cell 1;have d2:w3.cell? ⟨w.heap.size,2,none⟩=some _:=h0.cell 2;have d3:w3.cell? ⟨w.heap.size,3,none⟩=some _:=h0.cell 3;clear hB3 h0 h1;repeat still_step
 refine wpStill_nil (hK.out _ ?_);clear hK K c3 d0 d1 d2 d3;obtain⟨sd,hch⟩:=H2.out.chan;have h2:=H2.out.lt.2.2;refine mu (rest:=[]) rfl rfl (PB.send E.r _ rfl rfl rfl) hch hF ?_;refine aZ ?_;simp only[Q3];refine bodyPost_end (results_none rfl _ _ _) rfl ⟨rfl,H2.out.push h2 H2.out.tf _,hK2.out.ay (fun _=>By.2 rfl) _⟩
def Sent(E:bt)(F:Array AT)(w w':AS)(X:List Nat)(y:dF):Prop:=∃e,SB E w' y.p (F.push (Tok.val e y.t))∧(∀q,y.wr=some q→ac w' e 137 #[.int .i64 q.2,.int .i64 q.1]∧w.heap.size≤e)∧Kp w.heap.size X w w'
theorem Sent.ab{E:bt}{F:Array AT}{w w' w2:AS}{X:List Nat}{y:dF}(h:Sent E F w w' X y)(he:w2.heap=w'.heap):Sent E F w w2 X y:=by
 obtain⟨e,h1,h2,h3⟩:=h;exact⟨e,h1.ab he,fun q hq=>⟨(h2 q hq).1.ab he,(h2 q hq).2⟩,h3.ab he⟩
set_option maxRecDepth 100000 in
theorem nE{E:bt}{w:AS}{p:Nat}{F:Array AT}(k at_:Int)(h:SB E w p F)(hF:F.size<E.cap):
 dh (aK T) 138 #[.pointer (some ⟨E.x,0,none⟩),.int .i64 k,.int .i64 at_] w fun e w'=>e= .returned (.bool false)∧Sent E F w w' [E.r] (dC k at_ p):=by
 refine cF trivial (fun w' h=>nomatch h.1) (PB.func Tryz.func138 (by decide)) rfl ?_;simp only[Tryz.ntmps138,PU,PN,PW,Qd,Qc,PM,PL,Q4,PP,Q7,Q6];refine ag (fun K hK=> ?_);refine ae (fun w0 he=> ?_);have H1:=AI (h.ab he);have hK1:=AI ((Kp.refl (B:=w.heap.size) (X:=[E.r]) w).ab he);have hz:=congrArg Qp he;clear he h;go_wp2;refine hK.out _ _ ?_;clear hK K;refine ag (fun K hK=> ?_);refine aC ?_;show bo _ _ _ (If 0 (10+1)) _ _;refine b8 0 10 1 (fun N hN w1 he=> ?_) (by decide);simp only[zq1];have H2:=AI (H1.out.ab he);have hK2:=AI (hK1.out.ab he);have h0:=(congrArg Qp he).trans hz;have c3:w1.cell? ⟨E.x,3,none⟩=some (.chan (some E.r)):=H2.out.blk.cell 3;clear he H1 hK1;go_wp2;refine hN.out _ _ ?_;clear hN N c3;have H3:=AI (H2.out.keep (w':=w1.alloc (.cells #[.int .i64 at_,.int .i64 k] 137)) (Below.heap_alloc _ _ _ H2.out.lt.1) (Below.heap_alloc _ _ _ H2.out.lt.2.1) (Below.heap_alloc _ _ _ H2.out.max_lt) (Below.heap_alloc _ _ _ H2.out.lh));have hK3:=AI (hK2.out.alloc (IN _) (.cells #[.int .i64 at_,.int .i64 k] 137));have hD:=AI (ac.new w1 137 #[.int .i64 at_,.int .i64 k]);obtain⟨sd,hch⟩:=H3.out.chan;have h1:=H3.out.lt.2.2;refine mu (rest:=[]) rfl rfl (PB.send E.r _ rfl rfl rfl) hch hF ?_;refine aZ ?_;simp only[Q3];refine hK.out _ _ ?_;clear hK K;rw[h0]at hD;have hS:Sent E F w (ay (w1.alloc (.cells #[.int .i64 at_,.int .i64 k] 137)) E.r (.chan E.cap (F.push (Tok.val w.heap.size (Ei at_))) false (sd+1) E.rc E.tm)) [E.r] (dC k at_ p):=by
  refine⟨w.heap.size,H3.out.push h1 H3.out.tf _,fun q hq=> ?_,hK3.out.ay (fun _=>By.2 rfl) _⟩;cases hq;exact⟨hD.out.ay (fun e=>by have:=H2.out.lt.2.1;rw[h0]at this;omega) _,IN _⟩
 have hS:=AI hS;clear H2 hK2 h0 H3 hK3 hD hch h1;show cV _ _ _ _ (ay (w1.alloc (.cells #[.int .i64 at_,.int .i64 k] 137)) E.r (.chan E.cap (F.push (Tok.val w.heap.size (Ei at_))) false (sd+1) E.rc E.tm));generalize ay (w1.alloc (.cells #[.int .i64 at_,.int .i64 k] 137)) E.r (.chan E.cap (F.push (Tok.val w.heap.size (Ei at_))) false (sd+1) E.rc E.tm)=w4 at *;refine ae (fun w5 h2=> ?_);have hS5:=AI (hS.out.ab h2);clear h2;go_wp2;go_ret;exact⟨rfl,hS5.out⟩
end
section
open Go.RowKit
attribute [local instance] dP
variable{T:bw PB}
def EI(v0 v7:AT)(a:Act):Prop:=a.defers=[]∧a.tmps.size=46∧a.tmps.getD 0 undef=v0∧a.tmps.getD 7 undef=v7
theorem EI.out{v0 v7:AT}{a:Act}(h:EI v0 v7 a):∃u:Nat→AT,a= {tmps:=(v0::u 1::u 2::u 3::u 4::u 5::u 6::v7::u 8::u 9::u 10::u 11::u 12::u 13::u 14::u 15::u 16::u 17::u 18::u 19::u 20::u 21::u 22::u 23::u 24::u 25::u 26::u 27::u 28::u 29::u 30::u 31::u 32::u 33::u 34::u 35::u 36::u 37::u 38::u 39::u 40::u 41::u 42::u 43::u 44::u 45::[]).toArray,defers:=[]}:=by
 obtain⟨hd,hn,rfl,rfl⟩:=h;obtain⟨ts,ds⟩:=a;dsimp only at hd hn ⊢;subst hd;refine⟨fun i=>ts.getD i undef,?_⟩;exact congrArg (fun t=>({tmps:=t,defers:=[]}:Act)) (du 46 ts hn)
theorem SB.vZ{E:bt}{w:AS}{p:Nat}{F:Array AT}(h:SB E w p F):E.x≠2∧E.x≠1:=by
 refine⟨fun e=> ?_,fun e=> ?_⟩
 ·have h1:=h.max;have h2:=h.blk;rw[e]at h2;have:=h2.cell 0;rw[h1]at this;cases this
 ·obtain⟨t,fr,h1⟩:=h.cls;have h2:=h.blk;rw[e]at h2;unfold ac at h2;rw[h1]at h2;have:=congrArg (fun o=>match o with |some (Obj.cells c _ _)=>c.size|_=>0) h2;have h0:im.toArray.size=24:=by kernel_rfl
  dsimp only at this;rw[h0]at this;cases this
def O9(E:bt)(F:Array AT)(w:AS)(y:dF)(a:Act)(w':AS):Prop:=
 EI (.pointer (some ⟨E.x,0,none⟩)) (.pointer (some ⟨w.heap.size,0,none⟩)) a∧∃e,SB E w' y.p F∧ac w' w.heap.size 195 #[.int .i64 y.t.kind,.int .i64 y.t.at_,.int .u64 y.t.b0,.int .u64 y.t.b1,.int .u64 y.t.b2,.int .u64 y.t.b3,.int .i64 y.t.least,.int .i64 y.t.most,.pointer (gN e y.t.bad)]∧
  (∀q,y.wr=some q→ac w' e 137 #[.int .i64 q.2,.int .i64 q.1]∧w.heap.size≤e∧e<w'.heap.size)∧Kp w.heap.size [E.x] w w'
set_option maxRecDepth 100000 in
theorem MQ{E:bt}{w:AS}{p:Nat}{F:Array AT}(c:Nat)(at_:Nat)(hc:c=42∨c=43∨c=63∨c=123)(hp:p=at_+1)(hs:E.s.size≤1000)(hk:p≤E.s.size)(h:SB E w p F)(hF:F.size<E.cap):
 dh (aK T) 133 #[.pointer (some ⟨E.x,0,none⟩),.int .u8 c,.int .i64 at_] w fun e w'=>e= .returned (.bool (de c at_ (E.l.drop p)).more)∧Sent E F w w' [E.x,E.r] (de c at_ (E.l.drop p)):=by
 refine cF trivial (fun w' h=>nomatch h.1) (PB.func Tryz.func133 (by decide)) rfl ?_;simp only[Tryz.ntmps133,PU,PN,PW,Qd,Qc,PM,PL,Q4,PP,Q7,Q6];refine ag (fun K hK=> ?_);refine ae (fun w0 he=> ?_);have H1:=AI (h.ab he);have hK1:=AI ((Kp.refl (B:=w.heap.size) (X:=[E.x]) w).ab he);have hz:=congrArg Qp he;clear he h;go_wp2;refine hK.out _ _ ?_;clear hK K;refine ag (fun K hK=> ?_);refine ae (fun w1 he=> ?_);have H2:=AI (H1.out.ab he);have hK2:=AI (hK1.out.ab he);have h6:=(congrArg Qp he).trans hz;clear he H1 hK1 hz;go_wp2;refine hK.out _ _ ?_;clear hK K;have H3:=AI (H2.out.keep (w':=w1.alloc (.cells #[.int .i64 7,.int .i64 at_,.int .u64 0,.int .u64 0,.int .u64 0,.int .u64 0,.int .i64 0,.int .i64 (-1),.pointer none] 195)) (Below.heap_alloc _ _ _ H2.out.lt.1) (Below.heap_alloc _ _ _ H2.out.lt.2.1) (Below.heap_alloc _ _ _ H2.out.max_lt) (Below.heap_alloc _ _ _ H2.out.lh));have hK3:=AI (hK2.out.alloc (IN _) (.cells #[.int .i64 7,.int .i64 at_,.int .u64 0,.int .u64 0,.int .u64 0,.int .u64 0,.int .i64 0,.int .i64 (-1),.pointer none] 195));have h7:=ac.new w1 195 #[.int .i64 7,.int .i64 at_,.int .u64 0,.int .u64 0,.int .u64 0,.int .u64 0,.int .i64 0,.int .i64 (-1),.pointer none];rw[h6]at h7;replace h7:=AI h7;have hlx:=AI (h6▸H2.out.lt.1);have hlr:=AI (h6▸H2.out.lt.2.1);have hmx:=AI (h6▸H2.out.max_lt);have hcx:=AI (h6▸H2.out.lh);have hi:=AI H2.out.vZ.1;have hj:=AI H2.out.vZ.2;clear H2 hK2 h6;generalize w1.alloc (.cells #[.int .i64 7,.int .i64 at_,.int .u64 0,.int .u64 0,.int .u64 0,.int .u64 0,.int .i64 0,.int .i64 (-1),.pointer none] 195)=w2 at *;clear w0 w1;refine bP (O9 E F w (de c at_ (E.l.drop p))) ?_ ?_
 ·refine ae (fun w3 he=> ?_);have H4:=AI (H3.out.ab he);have hK4:=AI (hK3.out.ab he);have h0:=AI (h7.out.ab he);clear H3 hK3 h7 he;have fD:∀i,w3.frozen? ⟨w.heap.size,i,none⟩=false:=h0.out.frozen;have d6:w3.cell? ⟨w.heap.size,6,none⟩=some _:=h0.out.cell 6;have d7:w3.cell? ⟨w.heap.size,7,none⟩=some _:=h0.out.cell 7;have hfar:∀i(v:AT) u,(∀b,b<w.heap.size→(QJ u ⟨w.heap.size,i,none⟩ v).heap[b]?=u.heap[b]?):=fun i v u b hb=>Below.heap_setCell u _ v b (fun e=>by dsimp only at e;omega)
  have hset:∀i(v:AT),SB E (w3.setCell ⟨w.heap.size,i,none⟩ v) p F∧Kp w.heap.size [E.x] w (w3.setCell ⟨w.heap.size,i,none⟩ v):=fun i v=>⟨H4.out.keep (hfar i v w3 _ hlx.out) (hfar i v w3 _ hlr.out) (hfar i v w3 _ hmx.out) (hfar i v w3 _ hcx.out),hK4.out.setCell (fun h=>absurd h (Qq _)) v⟩
  replace hset:=AI hset;replace hfar:=AI hfar;rcases hc with rfl|rfl|rfl|rfl
  ·go_wp2;refine⟨?_,0,hp▸H4.out,h0.out,fun q hq=>(by cases hq),hK4.out⟩;exact⟨rfl,rfl,rfl,rfl⟩
  ·go_wp2;refine⟨?_,0,(show SB E _ (at_+1) F from hp▸(hset.out _ _).1),h0.out.ci 6 (.int .i64 1),fun q hq=>(by cases hq),(hset.out _ _).2⟩;exact⟨rfl,rfl,rfl,rfl⟩
  ·go_wp2;refine⟨?_,0,(show SB E _ (at_+1) F from hp▸(hset.out _ _).1),h0.out.ci 7 (.int .i64 1),fun q hq=>(by cases hq),(hset.out _ _).2⟩;exact⟨rfl,rfl,rfl,rfl⟩
  ·have ha:=AI (fun u(hu:u.heap=w3.heap)=>Ex E.x E.r E.s p E.fl E.fold u E.m hs hk (by unfold PZ;rw[hu];exact H4.out.max) (H4.out.blk.ab hu));have hy:de 123 at_ (E.l.drop p)=⟨si at_ (bO (E.l.drop p)).1 (bO (E.l.drop p)).2.1 (!(bO (E.l.drop p)).2.2.1),if(bO (E.l.drop p)).2.2.1 then none else some (7,(at_:Int)),(bO (E.l.drop p)).2.2.1,p+(bO (E.l.drop p)).2.2.2⟩:=by
    rw[hp];rfl
   rw[hy];unfold bt.l at *;generalize bO (E.s.data.toList.drop p)=bd at *;obtain⟨b1,b2,ok,nb⟩:=bd;dsimp only at ha ⊢;have hf:=AI (fun w4(h5:ac w4 E.x 243 (jb E.s (p+nb) E.fl E.r E.fold))(h4:Kp w3.heap.size [E.x] w3 w4)=>(show SB E w4 (p+nb) F∧Kp w.heap.size [E.x] w w4∧ac w4 w.heap.size 195 _∧w.heap.size<w4.heap.size from by
    have hg:=H4.out.lt.2.2;obtain⟨sd,hch⟩:=H4.out.chan;have hd:=h0.out.lt;have k1:=h4.2 _ H4.out.lt.2.1 (by simpa using PV hg);have k2:=h4.2 _ H4.out.max_lt (by simpa using fun e=>hi.out e.symm);have k3:=h4.2 _ H4.out.lh (by simpa using fun e=>hj.out e.symm);have k4:=h4.2 _ hd (by have:=hlx.out;simp;omega);have hcl:=H4.out.cls;exact⟨⟨h5,⟨sd,k1.trans hch⟩,by rw[iN k2];exact H4.out.max,by unfold nC at *;rw[k3];exact hcl⟩,hK4.out.trans (h4.mono (QW hd) fun y hy _=>hy),k4.trans h0.out,QI hd h4.1⟩))
   clear hy d6 d7 fD;cases ok with
   |true=>
    go_wp2_with (first |(go_at_call 158;refine(ha.out w3 rfl).mono ?_;rintro e w4 ⟨rfl,h5,h4⟩;obtain⟨H5,K5,D5,L5⟩:=hf.out w4 h5 h4;have d6:w4.cell? ⟨w.heap.size,6,none⟩=some _:=D5.cell 6;have d7:w4.cell? ⟨w.heap.size,7,none⟩=some _:=D5.cell 7;have fD:∀i,w4.frozen? ⟨w.heap.size,i,none⟩=false:=D5.frozen;replace H5:=AI H5;replace K5:=AI K5;replace D5:=AI D5;clear h5 h4)|fail)
    have hP:=SB.keep (w':=(w4.setCell ⟨w.heap.size,6,none⟩ (.int .i64 b1)).setCell ⟨w.heap.size,7,none⟩ (.int .i64 b2)) H5.out ((hfar.out _ _ _ _ hlx.out).trans (hfar.out _ _ _ _ hlx.out)) ((hfar.out _ _ _ _ hlr.out).trans (hfar.out _ _ _ _ hlr.out)) ((hfar.out _ _ _ _ hmx.out).trans (hfar.out _ _ _ _ hmx.out)) ((hfar.out _ _ _ _ hcx.out).trans (hfar.out _ _ _ _ hcx.out));refine⟨?_,0,hP,(D5.out.ci 6 (.int .i64 b1)).ci 7 (.int .i64 b2),fun q hq=>(by cases hq),(K5.out.setCell (fun h=>absurd h (Qq _)) _).setCell (fun h=>absurd h (Qq _)) _⟩;exact⟨rfl,rfl,rfl,rfl⟩
   |false=>
    go_wp2_with (first |(go_at_call 158;refine(ha.out w3 rfl).mono ?_;rintro e w4 ⟨rfl,h5,h4⟩;obtain⟨H5,K5,D5,L5⟩:=hf.out w4 h5 h4;have d6:w4.cell? ⟨w.heap.size,6,none⟩=some _:=D5.cell 6;have d7:w4.cell? ⟨w.heap.size,7,none⟩=some _:=D5.cell 7;have d8:w4.cell? ⟨w.heap.size,8,none⟩=some _:=D5.cell 8;have fD:∀i,w4.frozen? ⟨w.heap.size,i,none⟩=false:=D5.frozen;replace H5:=AI H5;replace K5:=AI K5;replace D5:=AI D5;clear h5 h4)|fail)
    generalize hW:((w4.setCell ⟨w.heap.size,8,none⟩ (.pointer (some ⟨w4.heap.size,0,none⟩))).setCell ⟨w.heap.size,6,none⟩ (.int .i64 b1)).setCell ⟨w.heap.size,7,none⟩ (.int .i64 b2)=W;have hWs:W.heap.size=w4.heap.size:=by rw[← hW,Q5,Q5,Q5]
    have hWb:∀b,b<w.heap.size→W.heap[b]?=w4.heap[b]?:=fun b hb=>by rw[← hW,hfar.out _ _ _ b hb,hfar.out _ _ _ b hb,hfar.out _ _ _ b hb]
    have hWD:ac W w.heap.size 195 _:=hW▸(((D5.out.ci 8 (.pointer (some ⟨w4.heap.size,0,none⟩))).ci 6 (.int .i64 b1)).ci 7 (.int .i64 b2));have hWK:Kp w.heap.size [E.x] w W:=hW▸(((K5.out.setCell (fun h=>absurd h (Qq _)) _).setCell (fun h=>absurd h (Qq _)) _).setCell (fun h=>absurd h (Qq _)) _);have hA:∀b,b<w.heap.size→(W.alloc (.cells #[.int .i64 at_,.int .i64 7] 137)).heap[b]?=w4.heap[b]?:=fun b hb=>(Below.heap_alloc _ _ _ (by omega)).trans (hWb b hb)
    refine⟨?_,w4.heap.size,(show SB E _ (at_+1+nb) F from hp▸H5.out.keep (hA _ hlx.out) (hA _ hlr.out) (hA _ hmx.out) (hA _ hcx.out)),hWD.alloc _,fun q hq=> ?_,hWK.alloc (IN _) _⟩
    ·exact⟨rfl,rfl,rfl,rfl⟩
    ·cases hq;refine⟨?_,QW L5,by simp[hWs]⟩;rw[← hWs];exact ac.new _ _ _
 ·intro a w3 ⟨hl,e,H5,D5,h8,K5⟩;obtain⟨u,rfl⟩:=hl.out;have hm:∃k0 a0,(de c at_ (E.l.drop p)).t.kind=k0∧(de c at_ (E.l.drop p)).t.at_=a0:=⟨_,_,rfl,rfl⟩;have h9:(de c at_ (E.l.drop p)).more= !(de c at_ (E.l.drop p)).t.bad:=by
   unfold de;repeat(first |split |rfl)
   dsimp only[si];cases(bO (E.l.drop p)).2.2.1<;>rfl
  generalize de c at_ (E.l.drop p)=y at *;obtain⟨⟨k,ta,b0,b1,b2,b3,le,mo,bad⟩,wr,more,yp⟩:=y;dsimp only at H5 D5 h8 h9 ⊢;replace H5:=AI H5;replace D5:=AI D5;replace h8:=AI h8;replace K5:=AI K5;clear H3 hK3 h7 hm hlx hmx hcx hi hj;refine ag (fun M hM=> ?_);refine lx 5 (by kernel_rfl) (by kernel_rfl) (fun K hK w4 he4=> ?_);simp only[QE,QS];have hB4:=H5.out.blk.ab he4;have h0:=D5.out.ab he4;have c3:w4.cell? ⟨E.x,3,none⟩=some (.chan (some E.r)):=hB4.cell 3;have d0:w4.cell? ⟨w.heap.size,0,none⟩=some _:=h0.cell 0;have d1:w4.cell? ⟨w.heap.size,1,none⟩=some _:=h0.cell 1;have d2:w4.cell? ⟨w.heap.size,2,none⟩=some _:=h0.cell 2;have d3:w4.cell? ⟨w.heap.size,3,none⟩=some _:=h0.cell 3;have d4:w4.cell? ⟨w.heap.size,4,none⟩=some _:=h0.cell 4;have d5:w4.cell? ⟨w.heap.size,5,none⟩=some _:=h0.cell 5;have d6:w4.cell? ⟨w.heap.size,6,none⟩=some _:=h0.cell 6;have d7:w4.cell? ⟨w.heap.size,7,none⟩=some _:=h0.cell 7;have d8:w4.cell? ⟨w.heap.size,8,none⟩=some _:=h0.cell 8;clear hB4 h0 he4;repeat still_step
  refine wpStill_nil (hK.out _ ?_);clear hK K c3 d0 d1 d2 d3 d4 d5 d6 d7 d8;obtain⟨sd,hch⟩:=H5.out.chan;have hg:=H5.out.lt.2.2;have hn:w.heap.size≠E.r:=fun e=>by have:=hlr.out;omega
  have hFv:Tok.val e ⟨k,ta,b0,b1,b2,b3,le,mo,bad⟩= .agg #[.int .i64 k,.int .i64 ta,.int .u64 b0,.int .u64 b1,.int .u64 b2,.int .u64 b3,.int .i64 le,.int .i64 mo,.pointer (gN e bad)]:=rfl;refine mu (rest:=[]) (v:=Tok.val e ⟨k,ta,b0,b1,b2,b3,le,mo,bad⟩) rfl rfl (PB.send E.r _ rfl rfl ?_) hch hF ?_
  ·rfl
  refine aZ ?_;simp only[Q3];refine hM.out _ _ ?_;clear hM M;have hS:Sent E F w (ay w3 E.r (.chan E.cap (F.push (Tok.val e ⟨k,ta,b0,b1,b2,b3,le,mo,bad⟩)) false (sd+1) E.rc E.tm)) [E.x,E.r] ⟨⟨k,ta,b0,b1,b2,b3,le,mo,bad⟩,wr,more,yp⟩:=by
   refine⟨e,H5.out.push hg H5.out.tf _,fun q hq=> ?_,(K5.out.mono (IN _) fun y hy _=>by rw[By.1 hy];exact PJ).ay (fun _=>by simp) _⟩;obtain⟨h1,h2,h3⟩:=h8.out q hq;exact⟨h1.ay (fun e'=>by have:=hlr.out;omega) _,h2⟩
  have hD:=AI (D5.out.ay hn (.chan E.cap (F.push (Tok.val e ⟨k,ta,b0,b1,b2,b3,le,mo,bad⟩)) false (sd+1) E.rc E.tm));replace hS:=AI hS;clear H5 D5 h8 K5 hch;show cV _ _ _ _ (ay w3 E.r (.chan E.cap (F.push (Tok.val e ⟨k,ta,b0,b1,b2,b3,le,mo,bad⟩)) false (sd+1) E.rc E.tm));generalize ay w3 E.r (.chan E.cap (F.push (Tok.val e ⟨k,ta,b0,b1,b2,b3,le,mo,bad⟩)) false (sd+1) E.rc E.tm)=w4 at *;refine ae (fun w5 hh=> ?_);have hS5:=AI (hS.out.ab hh);have d8:w5.cell? ⟨w.heap.size,8,none⟩=some (.pointer (gN e bad)):=(hD.out.ab hh).cell 8;clear hh hS hD;subst h9;cases bad with
  |true=>
   replace d8:w5.cell? ⟨w.heap.size,8,none⟩=some (.pointer (some ⟨e,0,none⟩)):=d8;go_wp2;go_ret;exact⟨rfl,hS5.out⟩
  |false=>
   replace d8:w5.cell? ⟨w.heap.size,8,none⟩=some (.pointer none):=d8;go_wp2;go_ret;exact⟨rfl,hS5.out⟩
end
section
open Go.RowKit
attribute [local instance] dP
variable{T:bw PB}
def wq(v0 v1 v5 v6 v7:AT)(a:Act):Prop:=a.defers=[]∧a.tmps.size=153∧a.tmps.getD 0 undef=v0∧a.tmps.getD 1 undef=v1∧a.tmps.getD 5 undef=v5∧a.tmps.getD 6 undef=v6∧a.tmps.getD 7 undef=v7
theorem wq.out{v0 v1 v5 v6 v7:AT}{a:Act}(h:wq v0 v1 v5 v6 v7 a):∃u:Nat→AT,a= {tmps:=(v0::v1::u 2::u 3::u 4::v5::v6::v7::u 8::u 9::u 10::u 11::u 12::u 13::u 14::u 15::u 16::u 17::u 18::u 19::u 20::u 21::u 22::u 23::u 24::u 25::u 26::u 27::u 28::u 29::u 30::u 31::u 32::u 33::u 34::u 35::u 36::u 37::u 38::u 39::u 40::u 41::u 42::u 43::u 44::u 45::u 46::u 47::u 48::u 49::u 50::u 51::u 52::u 53::u 54::u 55::u 56::u 57::u 58::u 59::u 60::u 61::u 62::u 63::u 64::u 65::u 66::u 67::u 68::u 69::u 70::u 71::u 72::u 73::u 74::u 75::u 76::u 77::u 78::u 79::u 80::u 81::u 82::u 83::u 84::u 85::u 86::u 87::u 88::u 89::u 90::u 91::u 92::u 93::u 94::u 95::u 96::u 97::u 98::u 99::u 100::u 101::u 102::u 103::u 104::u 105::u 106::u 107::u 108::u 109::u 110::u 111::u 112::u 113::u 114::u 115::u 116::u 117::u 118::u 119::u 120::u 121::u 122::u 123::u 124::u 125::u 126::u 127::u 128::u 129::u 130::u 131::u 132::u 133::u 134::u 135::u 136::u 137::u 138::u 139::u 140::u 141::u 142::u 143::u 144::u 145::u 146::u 147::u 148::u 149::u 150::u 151::u 152::[]).toArray,defers:=[]}:=by
 obtain⟨hd,hn,rfl,rfl,rfl,rfl,rfl⟩:=h;obtain⟨ts,ds⟩:=a;dsimp only at hd hn ⊢;subst hd;refine⟨fun i=>ts.getD i undef,?_⟩;exact congrArg (fun t=>({tmps:=t,defers:=[]}:Act)) (du 153 ts hn)
structure AQ(E:bt)(F:Array AT)(B b:Nat)(w0:AS)(at_:Nat)(nt:Bool)(y:dF)(f:Nat)(w:AS)(p:Nat)(first:Bool)(S:an):Prop where
 sb:SB E w p F
 blk:ac w b 101 (words S)
 kp:Kp B [E.x] w0 w
 lt:B≤b
 ple:p≤E.s.size
 eq:fI E.ln E.fold E.l nt at_ f first S p=some y
def Mp(E:bt)(F:Array AT)(B b:Nat)(w0:AS)(at_:Nat)(nt:Bool)(y:dF)(f:Nat)(a:Act)(w:AS):Prop:=
 ∃p first S,wq (.pointer (some ⟨E.x,0,none⟩)) (.int .i64 at_) (.pointer (some ⟨b,0,none⟩)) (.bool nt) (.bool first) a∧AQ E F B b w0 at_ nt y f w p first S
theorem Sent.from{E:bt}{F:Array AT}{w w1 w':AS}{y:dF}(h:Sent E F w1 w' [E.r] y)(hk:Kp w.heap.size [E.x] w w1):Sent E F w w' [E.x,E.r] y:=by
 obtain⟨e,h1,h2,h3⟩:=h;have hle:=hk.1;exact⟨e,h1,fun q hq=>⟨(h2 q hq).1,Qk hle (h2 q hq).2⟩,(hk.mono (IN _) fun x hx _=>by rw[By.1 hx];exact PJ).trans (h3.mono hle fun x hx _=>by rw[By.1 hx];simp)⟩
def qY(E:bt)(F:Array AT)(w:AS)(y:dF)(e:Ending)(w':AS):Prop:=e= .returned (.bool y.more)∧Sent E F w w' [E.x,E.r] y
theorem AQ.ab{E:bt}{F:Array AT}{B b:Nat}{w0:AS}{at_:Nat}{nt:Bool}{y:dF}{f:Nat}{w w':AS}{p:Nat}{first:Bool}{S:an}(h:AQ E F B b w0 at_ nt y f w p first S)(he:w'.heap=w.heap):AQ E F B b w0 at_ nt y f w' p first S:=
 ⟨h.sb.ab he,h.blk.ab he,h.kp.ab he,h.lt,h.ple,h.eq⟩
theorem SB.move{E:bt}{w:AS}{p q:Nat}{F:Array AT}(h:SB E w p F):SB E (w.setCell ⟨E.x,1,none⟩ (.int .i64 (q:Int))) q F:=by
 have hne:=h.lt.2.2;have hb:=h.vZ;have hk:∀b,b≠E.x→(w.setCell ⟨E.x,1,none⟩ (.int .i64 (q:Int))).heap[b]?=w.heap[b]?:=fun b hb=>Below.heap_setCell w _ _ b hb
 obtain⟨sd,hch⟩:=h.chan;have hcl:=h.cls;exact⟨wU h.blk,⟨sd,(hk _ (PV hne)).trans hch⟩,by rw[iN (hk _ (PV hb.1))];exact h.max,by unfold nC at *;rw[hk _ (PV hb.2)];exact hcl⟩
def Mo(E:bt)(F:Array AT)(w:AS)(at_:Nat)(nt:Bool)(v7:AT)(pp:Nat)(a:Act)(w':AS):Prop:=
 wq (.pointer (some ⟨E.x,0,none⟩)) (.int .i64 at_) (.pointer (some ⟨w.heap.size,0,none⟩)) (.bool nt) v7 a∧SB E w' pp F∧ac w' w.heap.size 101 (words az)∧Kp w.heap.size [E.x] w w'
end
section
open Go.RowKit
attribute [local instance] dP
variable{T:bw PB}
def lm(v0 v1 v5 v6 v7 v8:AT)(a:Act):Prop:=a.defers=[]∧a.tmps.size=153∧a.tmps.getD 0 undef=v0∧a.tmps.getD 1 undef=v1∧a.tmps.getD 5 undef=v5∧a.tmps.getD 6 undef=v6∧a.tmps.getD 7 undef=v7∧a.tmps.getD 8 undef=v8
theorem lm.out{v0 v1 v5 v6 v7 v8:AT}{a:Act}(h:lm v0 v1 v5 v6 v7 v8 a):∃u:Nat→AT,a= {tmps:=(v0::v1::u 2::u 3::u 4::v5::v6::v7::v8::u 9::u 10::u 11::u 12::u 13::u 14::u 15::u 16::u 17::u 18::u 19::u 20::u 21::u 22::u 23::u 24::u 25::u 26::u 27::u 28::u 29::u 30::u 31::u 32::u 33::u 34::u 35::u 36::u 37::u 38::u 39::u 40::u 41::u 42::u 43::u 44::u 45::u 46::u 47::u 48::u 49::u 50::u 51::u 52::u 53::u 54::u 55::u 56::u 57::u 58::u 59::u 60::u 61::u 62::u 63::u 64::u 65::u 66::u 67::u 68::u 69::u 70::u 71::u 72::u 73::u 74::u 75::u 76::u 77::u 78::u 79::u 80::u 81::u 82::u 83::u 84::u 85::u 86::u 87::u 88::u 89::u 90::u 91::u 92::u 93::u 94::u 95::u 96::u 97::u 98::u 99::u 100::u 101::u 102::u 103::u 104::u 105::u 106::u 107::u 108::u 109::u 110::u 111::u 112::u 113::u 114::u 115::u 116::u 117::u 118::u 119::u 120::u 121::u 122::u 123::u 124::u 125::u 126::u 127::u 128::u 129::u 130::u 131::u 132::u 133::u 134::u 135::u 136::u 137::u 138::u 139::u 140::u 141::u 142::u 143::u 144::u 145::u 146::u 147::u 148::u 149::u 150::u 151::u 152::[]).toArray,defers:=[]}:=by
 obtain⟨hd,hn,rfl,rfl,rfl,rfl,rfl,rfl⟩:=h;obtain⟨ts,ds⟩:=a;dsimp only at hd hn ⊢;subst hd;refine⟨fun i=>ts.getD i undef,?_⟩;exact congrArg (fun t=>({tmps:=t,defers:=[]}:Act)) (du 153 ts hn)
def yN(v0 v1 v5 v6 v7 v8 v55:AT)(a:Act):Prop:=a.defers=[]∧a.tmps.size=153∧a.tmps.getD 0 undef=v0∧a.tmps.getD 1 undef=v1∧a.tmps.getD 5 undef=v5∧a.tmps.getD 6 undef=v6∧a.tmps.getD 7 undef=v7∧a.tmps.getD 8 undef=v8∧a.tmps.getD 55 undef=v55
theorem yN.out{v0 v1 v5 v6 v7 v8 v55:AT}{a:Act}(h:yN v0 v1 v5 v6 v7 v8 v55 a):∃u:Nat→AT,a= {tmps:=(v0::v1::u 2::u 3::u 4::v5::v6::v7::v8::u 9::u 10::u 11::u 12::u 13::u 14::u 15::u 16::u 17::u 18::u 19::u 20::u 21::u 22::u 23::u 24::u 25::u 26::u 27::u 28::u 29::u 30::u 31::u 32::u 33::u 34::u 35::u 36::u 37::u 38::u 39::u 40::u 41::u 42::u 43::u 44::u 45::u 46::u 47::u 48::u 49::u 50::u 51::u 52::u 53::u 54::v55::u 56::u 57::u 58::u 59::u 60::u 61::u 62::u 63::u 64::u 65::u 66::u 67::u 68::u 69::u 70::u 71::u 72::u 73::u 74::u 75::u 76::u 77::u 78::u 79::u 80::u 81::u 82::u 83::u 84::u 85::u 86::u 87::u 88::u 89::u 90::u 91::u 92::u 93::u 94::u 95::u 96::u 97::u 98::u 99::u 100::u 101::u 102::u 103::u 104::u 105::u 106::u 107::u 108::u 109::u 110::u 111::u 112::u 113::u 114::u 115::u 116::u 117::u 118::u 119::u 120::u 121::u 122::u 123::u 124::u 125::u 126::u 127::u 128::u 129::u 130::u 131::u 132::u 133::u 134::u 135::u 136::u 137::u 138::u 139::u 140::u 141::u 142::u 143::u 144::u 145::u 146::u 147::u 148::u 149::u 150::u 151::u 152::[]).toArray,defers:=[]}:=by
 obtain⟨hd,hn,rfl,rfl,rfl,rfl,rfl,rfl,rfl⟩:=h;obtain⟨ts,ds⟩:=a;dsimp only at hd hn ⊢;subst hd;refine⟨fun i=>ts.getD i undef,?_⟩;exact congrArg (fun t=>({tmps:=t,defers:=[]}:Act)) (du 153 ts hn)
def yM(v0 v1 v5 v6 v7 v8 v91:AT)(a:Act):Prop:=a.defers=[]∧a.tmps.size=153∧a.tmps.getD 0 undef=v0∧a.tmps.getD 1 undef=v1∧a.tmps.getD 5 undef=v5∧a.tmps.getD 6 undef=v6∧a.tmps.getD 7 undef=v7∧a.tmps.getD 8 undef=v8∧a.tmps.getD 91 undef=v91
theorem yM.out{v0 v1 v5 v6 v7 v8 v91:AT}{a:Act}(h:yM v0 v1 v5 v6 v7 v8 v91 a):∃u:Nat→AT,a= {tmps:=(v0::v1::u 2::u 3::u 4::v5::v6::v7::v8::u 9::u 10::u 11::u 12::u 13::u 14::u 15::u 16::u 17::u 18::u 19::u 20::u 21::u 22::u 23::u 24::u 25::u 26::u 27::u 28::u 29::u 30::u 31::u 32::u 33::u 34::u 35::u 36::u 37::u 38::u 39::u 40::u 41::u 42::u 43::u 44::u 45::u 46::u 47::u 48::u 49::u 50::u 51::u 52::u 53::u 54::u 55::u 56::u 57::u 58::u 59::u 60::u 61::u 62::u 63::u 64::u 65::u 66::u 67::u 68::u 69::u 70::u 71::u 72::u 73::u 74::u 75::u 76::u 77::u 78::u 79::u 80::u 81::u 82::u 83::u 84::u 85::u 86::u 87::u 88::u 89::u 90::v91::u 92::u 93::u 94::u 95::u 96::u 97::u 98::u 99::u 100::u 101::u 102::u 103::u 104::u 105::u 106::u 107::u 108::u 109::u 110::u 111::u 112::u 113::u 114::u 115::u 116::u 117::u 118::u 119::u 120::u 121::u 122::u 123::u 124::u 125::u 126::u 127::u 128::u 129::u 130::u 131::u 132::u 133::u 134::u 135::u 136::u 137::u 138::u 139::u 140::u 141::u 142::u 143::u 144::u 145::u 146::u 147::u 148::u 149::u 150::u 151::u 152::[]).toArray,defers:=[]}:=by
 obtain⟨hd,hn,rfl,rfl,rfl,rfl,rfl,rfl,rfl⟩:=h;obtain⟨ts,ds⟩:=a;dsimp only at hd hn ⊢;subst hd;refine⟨fun i=>ts.getD i undef,?_⟩;exact congrArg (fun t=>({tmps:=t,defers:=[]}:Act)) (du 153 ts hn)
def yL(v0 v1 v5 v6 v7 v8 v116:AT)(a:Act):Prop:=a.defers=[]∧a.tmps.size=153∧a.tmps.getD 0 undef=v0∧a.tmps.getD 1 undef=v1∧a.tmps.getD 5 undef=v5∧a.tmps.getD 6 undef=v6∧a.tmps.getD 7 undef=v7∧a.tmps.getD 8 undef=v8∧a.tmps.getD 116 undef=v116
theorem yL.out{v0 v1 v5 v6 v7 v8 v116:AT}{a:Act}(h:yL v0 v1 v5 v6 v7 v8 v116 a):∃u:Nat→AT,a= {tmps:=(v0::v1::u 2::u 3::u 4::v5::v6::v7::v8::u 9::u 10::u 11::u 12::u 13::u 14::u 15::u 16::u 17::u 18::u 19::u 20::u 21::u 22::u 23::u 24::u 25::u 26::u 27::u 28::u 29::u 30::u 31::u 32::u 33::u 34::u 35::u 36::u 37::u 38::u 39::u 40::u 41::u 42::u 43::u 44::u 45::u 46::u 47::u 48::u 49::u 50::u 51::u 52::u 53::u 54::u 55::u 56::u 57::u 58::u 59::u 60::u 61::u 62::u 63::u 64::u 65::u 66::u 67::u 68::u 69::u 70::u 71::u 72::u 73::u 74::u 75::u 76::u 77::u 78::u 79::u 80::u 81::u 82::u 83::u 84::u 85::u 86::u 87::u 88::u 89::u 90::u 91::u 92::u 93::u 94::u 95::u 96::u 97::u 98::u 99::u 100::u 101::u 102::u 103::u 104::u 105::u 106::u 107::u 108::u 109::u 110::u 111::u 112::u 113::u 114::u 115::v116::u 117::u 118::u 119::u 120::u 121::u 122::u 123::u 124::u 125::u 126::u 127::u 128::u 129::u 130::u 131::u 132::u 133::u 134::u 135::u 136::u 137::u 138::u 139::u 140::u 141::u 142::u 143::u 144::u 145::u 146::u 147::u 148::u 149::u 150::u 151::u 152::[]).toArray,defers:=[]}:=by
 obtain⟨hd,hn,rfl,rfl,rfl,rfl,rfl,rfl,rfl⟩:=h;obtain⟨ts,ds⟩:=a;dsimp only at hd hn ⊢;subst hd;refine⟨fun i=>ts.getD i undef,?_⟩;exact congrArg (fun t=>({tmps:=t,defers:=[]}:Act)) (du 153 ts hn)
def fQ(k:Nat)(S:an):an:=fun x=>if x<64*k then !S x else S x
theorem Jb(S:an):fQ 0 S=S:=by funext x;simp[fQ]
theorem m8(S:an)(i:Nat)(h:i<4):wz (fQ 4 S) i=wz (comp S) i:=pW (by
 intro j hj;have:64*i+j<64*4:=by omega
 simp only[fQ,comp,if_pos this])
theorem yR(S:an)(i:Nat):bits .xor .u64 18446744073709551615 (wz (fQ i S) i)=wz (fQ (i+1) S) i:=by
 rw[Ka];refine pW ?_;intro j hj;have h1:¬ 64*i+j<64*i:=by omega
 have h2:64*i+j<64*(i+1):=by omega
 simp only[fQ,comp,if_neg h1,if_pos h2]
theorem uN(S:an)(i j:Nat)(h:j≠i):wz (fQ (i+1) S) j=wz (fQ i S) j:=pW (by
 intro k hk;simp only[fQ];by_cases h1:64*j+k<64*i
 ·rw[if_pos h1,if_pos (by omega)]
 ·rw[if_neg h1,if_neg (by omega)])
theorem CN(S:an):words (fQ 4 S)=words (comp S):=by
 unfold words;rw[m8 S 0 (by decide),m8 S 1 (by decide),m8 S 2 (by decide),m8 S 3 (by decide)]
structure cK(E:bt)(F:Array AT)(b:Nat)(w0 w:AS)(p:Nat)(S:an):Prop where
 sb:SB E w p F
 blk:ac w b 101 (words S)
 kp:Kp w0.heap.size [E.x] w0 w
 le:w0.heap.size≤b
theorem cK.ab{E:bt}{F:Array AT}{b:Nat}{w0 w w':AS}{p:Nat}{S:an}(h:cK E F b w0 w p S)(he:w'.heap=w.heap):cK E F b w0 w' p S:=⟨h.sb.ab he,h.blk.ab he,h.kp.ab he,h.le⟩
theorem cK.ne{E:bt}{F:Array AT}{b:Nat}{w0 w:AS}{p:Nat}{S:an}(h:cK E F b w0 w p S):b≠E.x∧b≠E.r∧b≠2∧b≠1:=by
 have h1:=h.blk;refine⟨fun e=> ?_,fun e=> ?_,fun e=> ?_,fun e=> ?_⟩
 ·have h2:=h.sb.blk;rw[e]at h1;unfold ac at h1 h2;rw[h1]at h2;cases h2
 ·obtain⟨sd,h2⟩:=h.sb.chan;rw[e]at h1;unfold ac at h1;rw[h1]at h2;cases h2
 ·have h2:=h.sb.max;rw[e]at h1;have:=h1.cell 0;rw[h2]at this;cases this
 ·obtain⟨t,fr,h2⟩:=h.sb.cls;rw[e]at h1;unfold ac at h1;rw[h1]at h2;have:=congrArg (fun o=>match o with |some (Obj.cells c _ _)=>c.size|_=>0) h2;have h0:im.toArray.size=24:=by kernel_rfl
  dsimp only at this;rw[h0]at this;cases this
theorem cK.move{E:bt}{F:Array AT}{b:Nat}{w0 w:AS}{p q:Nat}{S:an}(h:cK E F b w0 w p S):cK E F b w0 (w.setCell ⟨E.x,1,none⟩ (.int .i64 (q:Int))) q S:=
 ⟨h.sb.move,h.blk.far h.ne.1 _,h.kp.setCell (fun _=>By.2 rfl) _,h.le⟩
theorem cK.only {E:bt}{F:Array AT}{b:Nat}{w0 w w':AS}{p:Nat}{S S':an}(h:cK E F b w0 w p S)(ho:Only b w w')(hb:ac w' b 101 (words S')):cK E F b w0 w' p S':=by
 obtain⟨n1,n2,n3,n4⟩:=h.ne;refine⟨h.sb.keep (ho.2 _ (PV n1)) (ho.2 _ (PV n2)) (ho.2 _ (PV n3)) (ho.2 _ (PV n4)),hb,⟨by rw[ho.1];exact h.kp.1,fun y hy hx=> ?_⟩,h.le⟩;have:=h.le;exact(ho.2 y (by omega)).trans (h.kp.2 y hy hx)
theorem cK.call{E:bt}{F:Array AT}{b:Nat}{w0 w w':AS}{p:Nat}{S:an}(h:cK E F b w0 w p S)(hk:Kp w.heap.size [] w w'):cK E F b w0 w' p S:=
 ⟨h.sb.kp hk (by simp) (by simp) (by simp) (by simp),h.blk.kp hk h.blk.lt (by simp),h.kp.trans (hk.mono h.kp.1 fun y hy _=>by cases hy),h.le⟩
set_option maxRecDepth 100000 in
theorem Fj
 {c1 c2 c3 c4 c5 c6 c7 c10 c11 c12 cA c24 cB c27 cC cD:Code} {i i1 i2:Nat} {o1 o2 o3 o4:Qw} (hc:(Tryz.f134).body=some (.seq c1 (.seq c2 (.seq c3 (.seq c4 (.seq c5 (.block i (.loop (.seq (.block i1 (.seq c7 (.block i2 (.seq c10 (.cond o1 c11 (.seq c12 (.cond o2 cA (.seq c24 (.cond o3 cB (.seq c27 (.cond o4 cC cD))))))))))) c6)))))))))
 {E:bt} {F:Array AT} {w:AS} {at_:Nat} {nt:Bool} {a:Act} {w7:AS} {p:Nat} {v7 v8:AT} {S:an} {b:Nat} {Q:Exit→Act→AS→Prop} (hs:E.s.size≤1000) (hp:p<E.s.size) (hF:F.size<E.cap) (hfl:E.fl<256)
 (h1:lm (.pointer (some ⟨E.x,0,none⟩)) (.int .i64 at_) (.pointer (some ⟨b,0,none⟩)) (.bool nt) v7 v8 a) (hI:cK E F b w w7 p S)
 (hQ:∀a w',bodyPost PB Tryz.f134 (qY E F w ⟨dl at_ (pE E.ln E.fold nt S),none,true,p+1⟩) .ret a w'→Q .ret a w'):
 cV (aK T) cA Q a w7:=by
 cases hc;obtain⟨u,rfl⟩:=h1.out;refine ag (fun K hK=> ?_);refine ae (fun w8 he=> ?_);have I8:=AI (hI.ab he);have hw1:IntKind.i64.wrap ((p:Int)+1)=((p+1:Nat):Int):=by rw[OF];omega
 have c1:w8.cell? ⟨E.x,1,none⟩=some (.int .i64 p):=I8.out.sb.blk.cell 1;have f1:∀i,w8.frozen? ⟨E.x,i,none⟩=false:=I8.out.sb.blk.frozen;clear he hI;go_wp2;refine hK.out _ _ ?_;clear hK K c1 f1 hw1;replace I8:=I8.out.move (q:=p+1);generalize hW:QJ _ _ _=w9;replace I8:cK E F b w w9 (p+1) S:=hW▸I8;replace I8:=AI I8;clear hW;clear w7 w8;obtain⟨S1,hS1⟩:∃S1,S1=if E.fold then mg S else S:=⟨_,rfl⟩
 replace hS1:=AI hS1;refine ag (fun K hK=> ?_);refine ae (fun wa he=> ?_);replace I8:=AI (I8.out.ab he);have h0:∀u:AS,u.heap=wa.heap→Calls PB 140 #[.pointer (some ⟨E.x,0,none⟩),.agg #[.int .u64 (wz S 0),.int .u64 (wz S 1),.int .u64 (wz S 2),.int .u64 (wz S 3)]] u fun e w'=>e= .returned (.agg #[.int .u64 (wz S1 0),.int .u64 (wz S1 1),.int .u64 (wz S1 2),.int .u64 (wz S1 3)])∧Kp u.heap.size [] u w':=fun u hu=>by
  have:=vT E.x E.r E.s (p+1) E.fl E.fold S u (I8.out.sb.blk.ab hu);rw[← hS1.out]at this;exact this
 replace h0:=AI h0;have b0:wa.cell? ⟨b,0,none⟩=some _:=I8.out.blk.cell 0;have b1:wa.cell? ⟨b,1,none⟩=some _:=I8.out.blk.cell 1;have b2:wa.cell? ⟨b,2,none⟩=some _:=I8.out.blk.cell 2;have b3:wa.cell? ⟨b,3,none⟩=some _:=I8.out.blk.cell 3;clear he;go_wp2_with (first |(go_at_call 140;refine(h0.out wa rfl).mono ?_;rintro e w' ⟨rfl,hk⟩;have Iw:=AI (I8.out.call hk);have fD:∀i,w'.frozen? ⟨b,i,none⟩=false:=Iw.out.blk.frozen;have b0':w'.cell? ⟨b,0,none⟩=some _:=Iw.out.blk.cell 0;have b1':w'.cell? ⟨b,1,none⟩=some _:=Iw.out.blk.cell 1;have b2':w'.cell? ⟨b,2,none⟩=some _:=Iw.out.blk.cell 2;have b3':w'.cell? ⟨b,3,none⟩=some _:=Iw.out.blk.cell 3;clear hk)|fail)
 refine hK.out _ _ ?_;clear hK K h0 b0 b1 b2 b3 I8 fD b0' b1' b2' b3';have hO:=(((Only.set b w' 0 (.int .u64 (wz S1 0))).trans (.set b _ 1 (.int .u64 (wz S1 1)))).trans (.set b _ 2 (.int .u64 (wz S1 2)))).trans (.set b _ 3 (.int .u64 (wz S1 3)));have hB:=(((Iw.out.blk.ci 0 (.int .u64 (wz S1 0))).ci 1 (.int .u64 (wz S1 1))).ci 2 (.int .u64 (wz S1 2))).ci 3 (.int .u64 (wz S1 3));have I9:=AI (Iw.out.only (S':=S1) hO hB);clear hO hB Iw;generalize QJ _ _ _=wb at I9 ⊢;clear w' wa w9;refine bP (fun a' w'=>lm (.pointer (some ⟨E.x,0,none⟩)) (.int .i64 at_) (.pointer (some ⟨b,0,none⟩)) (.bool nt) v7 v8 a'∧cK E F b w w' (p+1) (pE E.ln E.fold nt S)) ?_ ?_
 ·refine ae (fun wc he=> ?_);replace I9:=AI (I9.out.ab he);clear he;cases nt with
  |false=>
   go_wp2;refine⟨?_,?_⟩
   ·exact⟨rfl,rfl,rfl,rfl,rfl,rfl,rfl,rfl⟩
   ·have e:pE E.ln E.fold false S=S1:=by rw[hS1.out];rfl
    rw[e];exact I9.out
  |true=>
   go_wp2;go_loopw [74] (fun c wr=>∃k:Nat,k≤4∧c= .int .i64 k∧cK E F b w wr (p+1) (fQ k S1)) (fun c _=>4- (intOf c).toNat)
   case atStart=>exact⟨0,by omega,rfl,by rw[Jb];exact I9.out⟩
   case round=>
    obtain⟨k,hk,rfl,hE⟩:=hrel;clear I9;by_cases hlt:k<4
    ·have f0:∀i,wr.frozen? ⟨b,i,none⟩=false:=hE.blk.frozen;have c0:wr.cell? ⟨b,k,none⟩=some (.int .u64 (wz (fQ k S1) k)):=uQ hE.blk hlt;have e3:bits .xor .u64 (if IntKind.u64.signed=true then -1 else IntKind.u64.max) (wz (fQ k S1) k)=wz (fQ (k+1) S1) k:=yR S1 k;have hki:(k:Int)<4:=by omega
     replace hE:=AI hE;go_wp2;go_roundw
     case rel=>
      have hb:=xr (T:=fQ (k+1) S1) hE.out.blk hlt fun j hj=>uN S1 k j hj
      refine⟨k+1,by omega,by push_cast;rfl,hE.out.only (.set b wr k _) hb⟩
     case measure=>simp[intOf];omega
    ·obtain rfl:k=4:=by omega
     have hE4:cK E F b w wr (p+1) (comp S1):=hE.only (Only.refl b wr) (by have:=hE.blk;rwa [CN]at this);replace hE4:=AI hE4;clear hE;obtain⟨S2,hS2⟩:∃S2,S2=if E.fl/2%2=1 then del (comp S1) 10 else comp S1:=⟨_,rfl⟩
     replace hS2:=AI hS2;have h2:∀u:AS,u.heap=wr.heap→Calls PB 137 #[.pointer (some ⟨E.x,0,none⟩),.agg #[.int .u64 (wz (comp S1) 0),.int .u64 (wz (comp S1) 1),.int .u64 (wz (comp S1) 2),.int .u64 (wz (comp S1) 3)]] u fun e w'=>e= .returned (.agg #[.int .u64 (wz S2 0),.int .u64 (wz S2 1),.int .u64 (wz S2 2),.int .u64 (wz S2 3)])∧Kp u.heap.size [] u w':=fun u hu=>by
      have:=su E.x E.r E.s (p+1) E.fl E.fold (comp S1) u hfl (hE4.out.sb.blk.ab hu);rw[← hS2.out]at this;exact this
     replace h2:=AI h2;have b0:wr.cell? ⟨b,0,none⟩=some _:=hE4.out.blk.cell 0;have b1:wr.cell? ⟨b,1,none⟩=some _:=hE4.out.blk.cell 1;have b2:wr.cell? ⟨b,2,none⟩=some _:=hE4.out.blk.cell 2;have b3:wr.cell? ⟨b,3,none⟩=some _:=hE4.out.blk.cell 3;go_wp2_with (first |(go_at_call 137;refine(h2.out wr rfl).mono ?_;rintro e w' ⟨rfl,hk⟩;have Iw:=AI (hE4.out.call hk);have fD:∀i,w'.frozen? ⟨b,i,none⟩=false:=Iw.out.blk.frozen;have b0':w'.cell? ⟨b,0,none⟩=some _:=Iw.out.blk.cell 0;have b1':w'.cell? ⟨b,1,none⟩=some _:=Iw.out.blk.cell 1;have b2':w'.cell? ⟨b,2,none⟩=some _:=Iw.out.blk.cell 2;have b3':w'.cell? ⟨b,3,none⟩=some _:=Iw.out.blk.cell 3;clear hk)|fail)
     have hO:=(((Only.set b w' 0 (.int .u64 (wz S2 0))).trans (.set b _ 1 (.int .u64 (wz S2 1)))).trans (.set b _ 2 (.int .u64 (wz S2 2)))).trans (.set b _ 3 (.int .u64 (wz S2 3)));have hB:=(((Iw.out.blk.ci 0 (.int .u64 (wz S2 0))).ci 1 (.int .u64 (wz S2 1))).ci 2 (.int .u64 (wz S2 2))).ci 3 (.int .u64 (wz S2 3));refine⟨?_,?_⟩
     ·exact⟨rfl,rfl,rfl,rfl,rfl,rfl,rfl,rfl⟩
     ·have e:pE E.ln E.fold true S=S2:=by
       rw[hS2.out,hS1.out];unfold pE bt.ln;dsimp only;simp only[if_true,decide_eq_true_eq]
      rw[e];exact Iw.out.only (S':=S2) hO hB
 ·intro a wc ⟨h1,hI⟩;clear I9;obtain⟨u,rfl⟩:=h1.out;obtain⟨S3,hS3⟩:∃S3,S3=pE E.ln E.fold nt S:=⟨_,rfl⟩;rw[← hS3]at hI hQ;clear hS3;replace hQ:=AI hQ;replace hI:=AI hI;refine ag (fun K hK=> ?_);refine aC ?_;show bo _ _ _ (If 0 (3+1)) _ _;refine b8 0 3 1 (fun N hN wd he=> ?_) (by decide);simp only[zq1];replace hI:=AI (hI.out.ab he);have b0:wd.cell? ⟨b,0,none⟩=some _:=hI.out.blk.cell 0;have b1:wd.cell? ⟨b,1,none⟩=some _:=hI.out.blk.cell 1;have b2:wd.cell? ⟨b,2,none⟩=some _:=hI.out.blk.cell 2;have b3:wd.cell? ⟨b,3,none⟩=some _:=hI.out.blk.cell 3;clear he;go_wp2;refine hN.out _ _ ?_;clear hN N b0 b1 b2 b3;refine bJ (f:=136) (i:=3) (rest:=[]) rfl rfl (fun u=>by simp[go_sem];rfl) trivial (zv S3 at_ hI.out.sb hF) (fun u we hr=> ?_) (fun ch we hr=>(by cases hr.1));obtain⟨hr1,h3,h4⟩:=hr;cases hr1;refine aZ (hK.out _ _ ?_);simp only[Q3,zq0];clear hK K;have hS:Sent E F w we [E.x,E.r] ⟨dl at_ S3,none,true,p+1⟩:=by
   have hle:=hI.out.kp.1;exact⟨0,h3,fun q hq=>(by cases hq),(hI.out.kp.mono (IN _) fun x hx _=>by rw[By.1 hx];exact PJ).trans (h4.mono hle fun x hx _=>by rw[By.1 hx];simp)⟩
  replace hS:=AI hS;clear h3 h4 hI;refine ae (fun wf he=> ?_);replace hS:=AI (hS.out.ab he);clear he;go_wp2;refine hQ.out _ _ ?_;go_ret;exact⟨rfl,hS.out⟩
end
section
open Go.RowKit
attribute [local instance] dP
variable{T:bw PB}
theorem cK.both{E:bt}{F:Array AT}{b:Nat}{w0 w w':AS}{p q:Nat}{S S':an}(h:cK E F b w0 w p S)(hk:Kp w.heap.size [E.x,b] w w')(hx:ac w' E.x 243 (jb E.s q E.fl E.r E.fold))(hb:ac w' b 101 (words S')):cK E F b w0 w' q S':=by
 obtain⟨n1,n2,n3,n4⟩:=h.ne;have h0:=h.sb.vZ;have hr:=hk.2 _ h.sb.lt.2.1 (by simp[PV h.sb.lt.2.2,PV n2]);have hm:=hk.2 _ h.sb.max_lt (by simp[PV h0.1,PV n3]);have hc:=hk.2 _ h.sb.lh (by simp[PV h0.2,PV n4]);refine⟨⟨hx,by rw[hr];exact h.sb.chan,by rw[iN hm];exact h.sb.max,by have:=h.sb.cls;unfold nC at *;rw[hc];exact this⟩,hb,⟨Qk h.kp.1 hk.1,fun y hy h3=> ?_⟩,h.le⟩;have h1:=h.le;have h2:=h.kp.1;exact(hk.2 y (by omega) (by simp only[Qe,Qg,or_false,not_or];exact⟨by simpa using h3,by omega⟩)).trans (h.kp.2 y hy h3)
set_option maxRecDepth 100000 in
theorem Fl
 {c1 c2 c3 c4 c5 c6 c7 c10 c11 c12 cA c24 cB c27 cC cD:Code} {i i1 i2:Nat} {o1 o2 o3 o4:Qw} (hc:(Tryz.f134).body=some (.seq c1 (.seq c2 (.seq c3 (.seq c4 (.seq c5 (.block i (.loop (.seq (.block i1 (.seq c7 (.block i2 (.seq c10 (.cond o1 c11 (.seq c12 (.cond o2 cA (.seq c24 (.cond o3 cB (.seq c27 (.cond o4 cC cD))))))))))) c6)))))))))
 {E:bt} {F:Array AT} {w:AS} {at_:Nat} {nt:Bool} {a:Act} {w7:AS} {p:Nat} {v7:AT} {S:an} {b:Nat} {R:ByteArray} {y:dF} {Q:Exit→Act→AS→Prop} (hs:E.s.size≤1000) (hF:F.size<E.cap) (hR2:2≤R.size) (hRp:p+R.size≤E.s.size)
 (h3:lm (.pointer (some ⟨E.x,0,none⟩)) (.int .i64 at_) (.pointer (some ⟨b,0,none⟩)) (.bool nt) v7 (.string R) a) (hI:cK E F b w w7 p S)
 (hy:eU S R.data.toList=none→y=dC 5 p p)
 (hQ:∀a w',eU S R.data.toList=none→bodyPost PB Tryz.f134 (qY E F w y) .ret a w'→Q .ret a w')
 (hN:∀x,eU S R.data.toList=some x→∀a w',lm (.pointer (some ⟨E.x,0,none⟩)) (.int .i64 at_) (.pointer (some ⟨b,0,none⟩)) (.bool nt) v7 (.string R) a→cK E F b w w' (p+x.2) x.1→Q .normal a w'):
 cV (aK T) cB Q a w7:=by
 cases hc;obtain⟨u,rfl⟩:=h3.out;have hne:=hI.ne;have h0:=AI (fun u(hu:World.heap u=w7.heap)=>GU E.x E.r b E.s p E.fl E.fold S R u E.m hs hRp hR2 (by have:=hI.sb.max;unfold PZ at *;rw[hu];exact this) (by have:=hI.sb.cls;unfold nC at *;rw[hu];exact this) (hI.sb.blk.ab hu) (hI.blk.ab hu) (PV hne.1));replace hI:=AI hI;cases hcl:eU S R.data.toList with
 |none=>
  rw[hcl]at h0 hQ hy;have hy:=hy rfl;subst hy;refine ag (fun K hK=> ?_);refine ae (fun w8 he=> ?_);have I8:=AI (hI.out.ab he);have h0:=AI (h0.out w8 he);clear he hI;go_wp2_with (first |(go_at_call 160;refine(h0.out).mono ?_;rintro e w' ⟨rfl,hk⟩;replace I8:=AI (I8.out.call hk);clear hk)|fail)
  refine hK.out _ _ ?_;clear hK K;refine bT rfl ?_;replace hQ:=fun a w'=>hQ a w' trivial
  replace hQ:=AI hQ;refine ag (fun K hK=> ?_);refine aC ?_;show bo _ _ _ (If 0 (5+2)) _ _;refine b8 0 5 2 (fun N hN wb he=> ?_) (by decide);simp only[zq1];have I9:=AI (I8.out.ab he);have c1_9:wb.cell? ⟨E.x,1,none⟩=some (.int .i64 p):=I9.out.sb.blk.cell 1;clear he I8;go_wp2;refine hN.out _ _ ?_;clear hN N c1_9;refine bJ (f:=138) (i:=5) (rest:=If 6 (1+0)) rfl rfl (fun u=>by simp[go_sem]) trivial (nE 5 p I9.out.sb hF) (fun u wz hr=> ?_) (fun ch wz hr=>(by cases hr.1));obtain⟨hr1,hr⟩:=hr;cases hr1;have hS:=AI (hr.from I9.out.kp);clear hr;simp only[Q3,zq0];refine b8 6 1 0 (fun N hN wy he=> ?_) (by decide);simp only[zq1];replace hS:=AI (hS.out.ab he);clear he;go_wp2;refine hN.out _ _ (aZ (hK.out _ _ ?_));clear hN N hK K;refine ae (fun wx he=> ?_);replace hS:=AI (hS.out.ab he);clear he;go_wp2;refine hQ.out _ _ ?_;go_ret;exact⟨rfl,hS.out⟩
 |some x=>
  rw[hcl]at h0 hN;have hN:=hN x rfl;refine ag (fun K hK=> ?_);refine ae (fun w8 he=> ?_);have I8:=AI (hI.out.ab he);have h0:=AI (h0.out w8 he);clear he hI;go_wp2_with (first |(go_at_call 160;refine(h0.out).mono ?_;rintro e w' ⟨rfl,h1,hk2,h2⟩;replace I8:=AI (I8.out.both h2 h1 hk2);clear h1 hk2 h2)|fail)
  refine hK.out _ _ ?_;clear hK K;refine bS rfl (gI ?_);refine hN _ _ ?_ I8.out;exact⟨rfl,rfl,rfl,rfl,rfl,rfl,rfl,rfl⟩
set_option maxRecDepth 100000 in
theorem Fi
 {c1 c2 c3 c4 c5 c6 c7 c10 c11 c12 cA c24 cB c27 cC cD:Code} {i i1 i2:Nat} {o1 o2 o3 o4:Qw} (hc:(Tryz.f134).body=some (.seq c1 (.seq c2 (.seq c3 (.seq c4 (.seq c5 (.block i (.loop (.seq (.block i1 (.seq c7 (.block i2 (.seq c10 (.cond o1 c11 (.seq c12 (.cond o2 cA (.seq c24 (.cond o3 cB (.seq c27 (.cond o4 cC cD))))))))))) c6)))))))))
 {E:bt} {F:Array AT} {w:AS} {at_:Nat} {nt:Bool} {a:Act} {w7:AS} {p:Nat} {v7:AT} {S:an} {b:Nat} {R:ByteArray} {y:dF} {Q:Exit→Act→AS→Prop} (hs:E.s.size≤1000) (hF:F.size<E.cap) (hR0:0<R.size) (hR2:2<R.size) (hRp:p+R.size≤E.s.size)
 (h0:lm (.pointer (some ⟨E.x,0,none⟩)) (.int .i64 at_) (.pointer (some ⟨b,0,none⟩)) (.bool nt) v7 (.string R) a) (hI:cK E F b w w7 p S)
 (hy:R[2].toNat<R[0].toNat→y=dC 6 p p)
 (hQ:∀a w',R[2].toNat<R[0].toNat→bodyPost PB Tryz.f134 (qY E F w y) .ret a w'→Q .ret a w')
 (hN:¬ R[2].toNat<R[0].toNat→∀a w',lm (.pointer (some ⟨E.x,0,none⟩)) (.int .i64 at_) (.pointer (some ⟨b,0,none⟩)) (.bool nt) v7 (.string R) a→cK E F b w w' (p+3) (bV S R[0].toNat R[2].toNat)→Q .normal a w'):
 cV (aK T) cC Q a w7:=by
 cases hc;obtain⟨u,rfl⟩:=h0.out;have h0z:(0:Int)<(R.size:Int):=by omega
 have h2z:(2:Int)<(R.size:Int):=by omega
 have hb0:=R[0].toNat_lt;have hb2:=R[2].toNat_lt;have hA:=AI (fun(u:AS)(hu:ac u b 101 (words S))=>add_any b R[0].toNat R[2].toNat S u (by omega) (by omega) hu);clear hb0 hb2;replace hI:=AI hI;refine ag (fun K hK=> ?_);by_cases hlt:R[2].toNat<R[0].toNat
 ·have hy:=hy hlt;subst hy;have hQ:=fun a w'=>hQ a w' hlt
  have hlt':(R[2].toNat:Int)<(R[0].toNat:Int):=by exact_mod_cast hlt
  clear hlt hN;refine ag (fun K2 hK2=> ?_);refine ae (fun w8 he=> ?_);have I8:=AI (hI.out.ab he);clear he hI;go_quiet (fail)
  refine hK2.out _ _ ?_;clear hK2 K2;replace I8:=AI (I8.out.ab (w':=w8.drewN nq) rfl);generalize w8.drewN nq=w9 at *;refine bT (by simp[No,hlt']) ?_;replace hQ:=AI hQ;refine ag (fun K hK=> ?_);refine aC ?_;show bo _ _ _ (If 0 (5+2)) _ _;refine b8 0 5 2 (fun N hN wb he=> ?_) (by decide);simp only[zq1];have I9:=AI (I8.out.ab he);have c1_9:wb.cell? ⟨E.x,1,none⟩=some (.int .i64 p):=I9.out.sb.blk.cell 1;clear he I8;go_wp2;refine hN.out _ _ ?_;clear hN N c1_9;refine bJ (f:=138) (i:=5) (rest:=If 6 (1+0)) rfl rfl (fun u=>by simp[go_sem]) trivial (nE 6 p I9.out.sb hF) (fun u wz hr=> ?_) (fun ch wz hr=>(by cases hr.1));obtain⟨hr1,hr⟩:=hr;cases hr1;have hS:=AI (hr.from I9.out.kp);clear hr;simp only[Q3,zq0];refine b8 6 1 0 (fun N hN wy he=> ?_) (by decide);simp only[zq1];replace hS:=AI (hS.out.ab he);clear he;go_wp2;refine hN.out _ _ (aZ (hK.out _ _ ?_));clear hN N hK K;refine ae (fun wx he=> ?_);replace hS:=AI (hS.out.ab he);clear he;go_wp2;refine hQ.out _ _ ?_;go_ret;exact⟨rfl,hS.out⟩
 ·have hN:=hN hlt;have hlt':¬ (R[2].toNat:Int)<(R[0].toNat:Int):=by exact_mod_cast hlt
  clear hlt hQ;have hw3:IntKind.i64.wrap ((p:Int)+3)=((p+3:Nat):Int):=by rw[OF];omega
  refine ag (fun K2 hK2=> ?_);refine ae (fun w8 he=> ?_);have I8:=AI (hI.out.ab he);clear he hI;go_quiet (fail)
  refine hK2.out _ _ ?_;clear hK2 K2;replace I8:=AI (I8.out.ab (w':=w8.drewN nq) rfl);generalize w8.drewN nq=w9 at *;refine bS (by simp[No,hlt']) (gI ?_);refine hK.out _ _ ?_;clear hK K hlt';refine ag (fun K hK=> ?_);refine ae (fun wa he=> ?_);replace I8:=AI (I8.out.ab he);clear he;go_still_tail 4,(by kernel_rfl)
  change wpList _ _ _ _ _ wa.drew;go_wp2_with (first |(go_at_call 135;refine(hA.out wa.drew I8.out.blk).mono ?_;rintro e w' ⟨rfl,hb',hO⟩;replace I8:=AI (cK.only (w:=wa.drew) (I8.out.ab rfl) hO hb');clear hb' hO)|fail)
  refine hK.out _ _ ?_;clear hK K;refine ae (fun wb he=> ?_);replace I8:=AI (I8.out.ab he);have c1:wb.cell? ⟨E.x,1,none⟩=some (.int .i64 p):=I8.out.sb.blk.cell 1;have f1:∀i,wb.frozen? ⟨E.x,i,none⟩=false:=I8.out.sb.blk.frozen;clear he;go_wp2;refine hN _ _ ?_ ?_
  ·exact⟨rfl,rfl,rfl,rfl,rfl,rfl,rfl,rfl⟩
  ·exact I8.out.move (q:=p+3)
set_option maxRecDepth 100000 in
theorem Km
 {c1 c2 c3 c4 c5 c6 c7 c10 c11 c12 cA c24 cB c27 cC cD:Code} {i i1 i2:Nat} {o1 o2 o3 o4:Qw} (hc:(Tryz.f134).body=some (.seq c1 (.seq c2 (.seq c3 (.seq c4 (.seq c5 (.block i (.loop (.seq (.block i1 (.seq c7 (.block i2 (.seq c10 (.cond o1 c11 (.seq c12 (.cond o2 cA (.seq c24 (.cond o3 cB (.seq c27 (.cond o4 cC cD))))))))))) c6)))))))))
 {E:bt} {F:Array AT} {w:AS} {at_:Nat} {nt:Bool} {a:Act} {w7:AS} {p:Nat} {v7:AT} {S:an} {b:Nat} {R:ByteArray} {Q:Exit→Act→AS→Prop} (hs:E.s.size≤1000) (hF:F.size<E.cap) (hR0:0<R.size) (hRp:p+R.size≤E.s.size)
 (h0:lm (.pointer (some ⟨E.x,0,none⟩)) (.int .i64 at_) (.pointer (some ⟨b,0,none⟩)) (.bool nt) v7 (.string R) a) (hI:cK E F b w w7 p S)
 (hN:∀a w',lm (.pointer (some ⟨E.x,0,none⟩)) (.int .i64 at_) (.pointer (some ⟨b,0,none⟩)) (.bool nt) v7 (.string R) a→cK E F b w w' (p+1) (bV S R[0].toNat R[0].toNat)→Q .normal a w'):
 cV (aK T) cD Q a w7:=by
 cases hc;obtain⟨u,rfl⟩:=h0.out;have h0z:(0:Int)<(R.size:Int):=by omega
 have hb0:=R[0].toNat_lt;have hA:=AI (fun(u:AS)(hu:ac u b 101 (words S))=>add_any b R[0].toNat R[0].toNat S u (by omega) (by omega) hu);clear hb0;have hw3:IntKind.i64.wrap ((p:Int)+1)=((p+1:Nat):Int):=by rw[OF];omega
 replace hI:=AI hI;refine ag (fun K hK=> ?_);refine ae (fun wa he=> ?_);have I8:=AI (hI.out.ab he);clear he hI;go_still_tail 4,(by kernel_rfl)
 change wpList _ _ _ _ _ wa.drew;go_wp2_with (first |(go_at_call 135;refine(hA.out wa.drew I8.out.blk).mono ?_;rintro e w' ⟨rfl,hb',hO⟩;replace I8:=AI (cK.only (w:=wa.drew) (I8.out.ab rfl) hO hb');clear hb' hO)|fail)
 refine hK.out _ _ ?_;clear hK K;refine ae (fun wb he=> ?_);replace I8:=AI (I8.out.ab he);have c1:wb.cell? ⟨E.x,1,none⟩=some (.int .i64 p):=I8.out.sb.blk.cell 1;have f1:∀i,wb.frozen? ⟨E.x,i,none⟩=false:=I8.out.sb.blk.frozen;clear he;go_wp2;refine hN _ _ ?_ ?_
 ·exact⟨rfl,rfl,rfl,rfl,rfl,rfl,rfl,rfl⟩
 ·exact I8.out.move (q:=p+1)
end
section
open Go.RowKit
attribute [local instance] dP
variable{T:bw PB}
theorem AM(R:ByteArray)(i:Nat)(h:i<R.size):R.data.toList[i]?=some R[i]:=by
 have h':i<R.data.toList.length:=by simpa using h
 rw[Qv h'];rfl
theorem yG{a b:UInt8}{n:Int}(hn:(b.toNat:Int)=n)(h:a≠b):((a.toNat:Int)=n)=False:=eq_false fun e=>h (by rw[← QC];omega)
set_option maxHeartbeats 4000000 in
set_option maxRecDepth 100000 in
theorem Fh
 {c1 c2 c3 c4 c5 c6 c7 c10 c11 c12 cA c24 cB c27 cC cD:Code} {i i1 i2:Nat} {o1 o2 o3 o4:Qw} (hc:(Tryz.f134).body=some (.seq c1 (.seq c2 (.seq c3 (.seq c4 (.seq c5 (.block i (.loop (.seq (.block i1 (.seq c7 (.block i2 (.seq c10 (.cond o1 c11 (.seq c12 (.cond o2 cA (.seq c24 (.cond o3 cB (.seq c27 (.cond o4 cC cD))))))))))) c6)))))))))
 {E:bt} {F:Array AT} {w:AS} {at_:Nat} {nt:Bool} {y:dF} {f:Nat} {a0:Act} {w7:AS} {p:Nat} {first:Bool} {S:an} {id:Nat} (hs:E.s.size≤1000) (hF:F.size<E.cap) (hfl:E.fl<256)
 (hv:wq (.pointer (some ⟨E.x,0,none⟩)) (.int .i64 at_) (.pointer (some ⟨w.heap.size,0,none⟩)) (.bool nt) (.bool first) a0) (hI:AQ E F w.heap.size w.heap.size w at_ nt y f w7 p first S):
 cV (aK T) (.seq (.block i1 (.seq c7 (.block i2 (.seq c10 (.cond o1 c11 (.seq c12 (.cond o2 cA (.seq c24 (.cond o3 cB (.seq c27 (.cond o4 cC cD))))))))))) c6) (Exit.then (fun a' w'=>∃m,m<f∧Mp E F w.heap.size w.heap.size w at_ nt y m a' w') (Exit.inBlock id (bodyPost PB Tryz.f134 (qY E F w y)))) a0 w7:=by
 have hh:=fun a w7 p v7 v8 S b Q=> @Fj T _ _ _ _ _ _ _ _ _ _ _ _ _ _ _ _ _ _ _ _ _ _ _ hc E F w at_ nt a w7 p v7 v8 S b Q hs
 have hi:=fun a w7 p v7 S b R y Q=> @Fl T _ _ _ _ _ _ _ _ _ _ _ _ _ _ _ _ _ _ _ _ _ _ _ hc E F w at_ nt a w7 p v7 S b R y Q hs hF
 have hj:=fun a w7 p v7 S b R y Q=> @Fi T _ _ _ _ _ _ _ _ _ _ _ _ _ _ _ _ _ _ _ _ _ _ _ hc E F w at_ nt a w7 p v7 S b R y Q hs hF
 have hk:=fun a w7 p v7 S b R Q=> @Km T _ _ _ _ _ _ _ _ _ _ _ _ _ _ _ _ _ _ _ _ _ _ _ hc E F w at_ nt a w7 p v7 S b R Q hs hF
 replace hh:=AI hh;replace hi:=AI hi;replace hj:=AI hj;replace hk:=AI hk;cases hc;obtain⟨u,rfl⟩:=hv.out;refine ag (fun K6 hK6=> ?_);refine ek ?_;refine ag (fun K hK=> ?_);refine ae (fun w8 he=> ?_);have I8:=AI (hI.ab he);have c0:w8.cell? ⟨E.x,0,none⟩=some (.string E.s):=I8.out.sb.blk.cell 0;have c1:w8.cell? ⟨E.x,1,none⟩=some (.int .i64 p):=I8.out.sb.blk.cell 1;have ht:=I8.out.ple;clear he hI;go_quiet (fail)
 refine hK.out _ _ ?_;clear hK K c0 c1;replace I8:=AI (I8.out.ab (w':=w8.drewN nq) rfl);generalize w8.drewN nq=w9 at *;clear w8 nq w7;have hR:(E.s.extract p E.s.size).data.toList=E.l.drop p:=oo _ _;have hRs:(E.s.extract p E.s.size).size=E.s.size-p:=by rw[PG,hR,Q8];unfold bt.l;rw[← PG]
 generalize E.s.extract p E.s.size=R at *;have hy:=I8.out.eq;cases f with
 |zero=>cases hy
 |succ f=>
 unfold fI at hy;cases hl:E.l.drop p with
 |nil=>
  rw[hl]at hy hR;cases hy;have he:R.toList.isEmpty=true:=by rw[Qm,hR];rfl
  clear hRs ht;replace hR:=AI hR;replace hl:=AI hl;refine ek ?_;refine ag (fun K hK=> ?_);refine ae (fun wa hd=> ?_);replace I8:=AI (I8.out.ab hd);clear hd;go_wp2;refine hK.out _ _ ?_;clear hK K;refine bT rfl ?_;refine ag (fun K hK=> ?_);refine aC ?_;show bo _ _ _ (If 0 (2+2)) _ _;refine b8 0 2 2 (fun N hN wb he=> ?_) (by decide);simp only[zq1];have I9:=AI (I8.out.ab he);have c1_9:wb.cell? ⟨E.x,1,none⟩=some (.int .i64 p):=I9.out.sb.blk.cell 1;clear he I8;go_wp2;refine hN.out _ _ ?_;clear hN N c1_9;refine bJ (f:=138) (i:=2) (rest:=If 3 (1+0)) rfl rfl (fun u=>by simp[go_sem]) trivial (nE 4 at_ I9.out.sb hF) (fun u wz hr=> ?_) (fun ch wz hr=>(by cases hr.1));obtain⟨hr1,hr⟩:=hr;cases hr1;have hS:=AI (hr.from I9.out.kp);clear hr;simp only[Q3,zq0];refine b8 3 1 0 (fun N hN wy he=> ?_) (by decide);simp only[zq1];replace hS:=AI (hS.out.ab he);clear he;go_wp2;refine hN.out _ _ (aZ (hK.out _ _ ?_));clear hN N hK K;refine ae (fun wx he=> ?_);replace hS:=AI (hS.out.ab he);clear he;go_wp2;go_ret;exact⟨rfl,hS.out⟩
 |cons a r=>
  rw[hl]at hy;have hlen:=qR hl;rw[hl]at hR;dsimp only at hy;have hrl:r.length+1=R.size:=by rw[PG,hR];rfl
  have h0:0<R.size:=by omega
  have hg0:R[0]=a:=by
   have:=AM R 0 h0;rw[hR]at this;simpa using this.symm
  have hg1:∀h:1<R.size,r.getD 0 0=R[1]:=fun h=>by
   have:=AM R 1 h;rw[hR]at this;simp only[Qy]at this;rw[Qi,this];rfl
  have hg2:∀h:2<R.size,r.getD 1 0=R[2]:=fun h=>by
   have:=AM R 2 h;rw[hR]at this;simp only[Qy]at this;rw[Qi,this];rfl
  have hRp:p+R.size≤E.s.size:=by omega
  have hEl:E.l.length=E.s.size:=by unfold bt.l;rw[← PG]
  have hNext:∀a' w' p' S',lm (.pointer (some ⟨E.x,0,none⟩)) (.int .i64 at_) (.pointer (some ⟨w.heap.size,0,none⟩)) (.bool nt) (.bool first) (.string R) a'→cK E F w.heap.size w w' p' S'→p'≤E.s.size→fI E.ln E.fold E.l nt at_ f false S' p'=some y→K6 a' w':=fun a' w' p' S' hfr' hE hp' hq=>by
   refine hK6.out _ _ ?_;obtain⟨u,rfl⟩:=hfr'.out;refine ae (fun w2 he2=> ?_);have hg:=AI (hE.ab he2);clear he2;go_wp2;refine⟨f,R1 f,p',false,S',?_,⟨hg.out.sb,hg.out.blk,hg.out.kp,hg.out.le,hp',hq⟩⟩;exact⟨rfl,rfl,rfl,rfl,rfl,rfl,rfl⟩
  replace hNext:=AI hNext;have IE:=AI (⟨I8.out.sb,I8.out.blk,I8.out.kp,I8.out.lt⟩:cK E F w.heap.size w w9 p S);clear I8;have he:R.toList.isEmpty=false:=by rw[Qm,hR];rfl
  have h0z:(0:Int)<(R.size:Int):=by omega
  replace hR:=AI hR;replace hl:=AI hl;replace hy:=AI hy;refine ek ?_;refine ag (fun K hK=> ?_);refine ae (fun wa hd=> ?_);replace IE:=AI (IE.out.ab hd);clear hd;go_wp2;refine hK.out _ _ ?_;clear hK K;refine bS rfl ?_;have hm:=AI (show p<E.s.size from by omega);by_cases hA:a=93∧first=false
  ·obtain⟨ho,hA2⟩:=hA;have hy:=hy.out;rw[if_pos ⟨ho,hA2⟩]at hy;cases hy;subst hA2;have e93:(R[0].toNat:Int)=93:=by rw[hg0,ho];rfl
   refine bP (fun a' w'=>yN (.pointer (some ⟨E.x,0,none⟩)) (.int .i64 at_) (.pointer (some ⟨w.heap.size,0,none⟩)) (.bool nt) (.bool false) (.string R) (.bool true) a'∧cK E F w.heap.size w w' p S) ?_ ?_
   ·refine ae (fun wb h9=> ?_);replace IE:=AI (IE.out.ab h9);clear h9 hg0 hg1 hg2;go_wp2;refine⟨?_,IE.out⟩;exact⟨rfl,rfl,rfl,rfl,rfl,rfl,rfl,rfl,rfl⟩
   ·intro a' wb ⟨hfr',hE⟩;obtain⟨u,rfl⟩:=hfr'.out;refine bT rfl ?_;refine hh.out _ wb p (.bool false) (.string R) S w.heap.size _ hm.out hF hfl ?_ hE (fun a w' h=>h);exact⟨rfl,rfl,rfl,rfl,rfl,rfl,rfl,rfl⟩
  have hy:=hy.out;rw[if_neg hA]at hy;refine bP (fun a' w'=>yN (.pointer (some ⟨E.x,0,none⟩)) (.int .i64 at_) (.pointer (some ⟨w.heap.size,0,none⟩)) (.bool nt) (.bool first) (.string R) (.bool false) a'∧cK E F w.heap.size w w' p S) ?_ ?_
  ·refine ae (fun wb h9=> ?_);replace IE:=AI (IE.out.ab h9);by_cases ha:a=93
   ·have e93:(R[0].toNat:Int)=93:=by rw[hg0,ha];rfl
    have hf1:first=true:=by
     cases first
     ·exact absurd ⟨ha,rfl⟩ hA
     ·rfl
    subst hf1;clear h9 hy hg0 hg1 hg2 hA ha;go_wp2;refine⟨?_,IE.out⟩;exact⟨rfl,rfl,rfl,rfl,rfl,rfl,rfl,rfl,rfl⟩
   ·have e93:((R[0].toNat:Int)=93)=False:=yG (b:=93) rfl (hg0▸ha);clear h9 hy hg0 hg1 hg2 hA ha;go_wp2;refine⟨?_,IE.out⟩;exact⟨rfl,rfl,rfl,rfl,rfl,rfl,rfl,rfl,rfl⟩
  intro a' wb ⟨hfr',hE⟩;obtain⟨u,rfl⟩:=hfr'.out;replace hE:=AI hE;clear IE;refine bS rfl ?_;have h4:∀(h:1<R.size)(w:AS),Calls PB 139 #[.string ⟨#[58,46,61]⟩,.int .u8 R[1].toNat] w fun e w'=>e= .returned (.int .i64 (PX [58,46,61] R[1]))∧w'=w:=fun h w=>by
   have:=xe ⟨#[58,46,61]⟩ R[1].toNat w;rw[show R[1].toNat.toUInt8=R[1]from by simp]at this;exact this
  replace h4:=AI h4;by_cases hB:0<r.length∧a=91∧0≤PX [58,46,61] (r.getD 0 0)
  ·obtain⟨hB1,hB2,hB3⟩:=hB;rw[if_pos ⟨hB1,hB2,hB3⟩]at hy;have h1:1<R.size:=by omega
   rw[hg1 h1]at hB3;have h1z:(1:Int)<(R.size:Int):=by omega
   have e91:(R[0].toNat:Int)=91:=by rw[hg0,hB2];rfl
   have h4:=AI (h4.out h1);replace hy:=AI hy;refine bP (fun a' w'=>yM (.pointer (some ⟨E.x,0,none⟩)) (.int .i64 at_) (.pointer (some ⟨w.heap.size,0,none⟩)) (.bool nt) (.bool first) (.string R) (.bool true) a'∧cK E F w.heap.size w w' p S) ?_ ?_
   ·refine ae (fun wc h7=> ?_);replace hE:=AI (hE.out.ab h7);generalize PX [58,46,61] R[1]=ix at *;clear h7 hg0 hg1 hg2 hA hB1 hB2;go_wp2_with (first |(go_at_call 139;refine(h4.out _).mono ?_;rintro e w' ⟨rfl,rfl⟩)|fail)
    refine⟨?_,hE.out⟩;exact⟨rfl,rfl,rfl,rfl,rfl,rfl,rfl,rfl,rfl⟩
   ·intro a' wc ⟨hfr',hE⟩;obtain⟨u,rfl⟩:=hfr'.out;refine bT rfl ?_;have hy:=hy.out;rw[← hR.out]at hy;refine hi.out _ wc p (.bool first) S w.heap.size R y _ (by omega) hRp ?_ hE (fun hn=> ?_) (fun a w' _ h=>h) (fun x hx a w' hf h3=> ?_)
    ·exact⟨rfl,rfl,rfl,rfl,rfl,rfl,rfl,rfl⟩
    ·rw[hn]at hy;exact(Option.some.inj hy).symm
    ·rw[hx]at hy;have h5:=rR hx (by rw[hR.out];simp;omega);have h6:R.data.toList.length=R.size:=(PG R).symm;exact hNext.out _ _ _ _ hf h3 (by omega) hy
  rw[if_neg hB]at hy;refine bP (fun a' w'=>yM (.pointer (some ⟨E.x,0,none⟩)) (.int .i64 at_) (.pointer (some ⟨w.heap.size,0,none⟩)) (.bool nt) (.bool first) (.string R) (.bool false) a'∧cK E F w.heap.size w w' p S) ?_ ?_
  ·refine ae (fun wc h7=> ?_);replace hE:=AI (hE.out.ab h7);replace hy:=AI hy;by_cases h1:1<R.size
   ·have h1z:(1:Int)<(R.size:Int):=by omega
    by_cases ha:a=91
    ·have e91:(R[0].toNat:Int)=91:=by rw[hg0,ha];rfl
     have hB3:¬ 0≤PX [58,46,61] R[1]:=fun h=>hB ⟨by omega,ha,by rw[hg1 h1];exact h⟩
     have h4:=AI (h4.out h1);generalize PX [58,46,61] R[1]=ix at *;clear h7 hg0 hg1 hg2 hA hB ha;go_wp2_with (first |(go_at_call 139;refine(h4.out _).mono ?_;rintro e w' ⟨rfl,rfl⟩)|fail)
     refine⟨⟨rfl,rfl,rfl,rfl,rfl,rfl,rfl,rfl,?_⟩,hE.out⟩;show QL _=_;simp;omega
    ·have e91:((R[0].toNat:Int)=91)=False:=yG (b:=91) rfl (hg0▸ha);clear h7 hg0 hg1 hg2 hA hB ha;go_wp2;refine⟨?_,hE.out⟩;exact⟨rfl,rfl,rfl,rfl,rfl,rfl,rfl,rfl,rfl⟩
   ·have h1z:¬ (1:Int)<(R.size:Int):=by omega
    clear h7 hg0 hg1 hg2 hA hB h1;go_wp2;refine⟨?_,hE.out⟩;exact⟨rfl,rfl,rfl,rfl,rfl,rfl,rfl,rfl,rfl⟩
  intro a' wc ⟨hfr',h3⟩;obtain⟨u,rfl⟩:=hfr'.out;replace hE:=AI h3;clear h3 h4;refine bS rfl ?_;by_cases hC:1<r.length∧r.getD 0 0=45∧r.getD 1 0≠93
  ·obtain⟨hp,hC2,hC3⟩:=hC;rw[if_pos ⟨hp,hC2,hC3⟩]at hy;have h2:2<R.size:=by omega
   have h1:1<R.size:=by omega
   rw[hg1 h1]at hC2;rw[hg2 h2]at hC3 hy;have h1z:(1:Int)<(R.size:Int):=by omega
   have h2z:(2:Int)<(R.size:Int):=by omega
   have e45:(R[1].toNat:Int)=45:=by rw[hC2];rfl
   have e93:((R[2].toNat:Int)=93)=False:=yG (b:=93) rfl hC3;rw[← hg0]at hy;replace hy:=AI hy;refine bP (fun a' w'=>yL (.pointer (some ⟨E.x,0,none⟩)) (.int .i64 at_) (.pointer (some ⟨w.heap.size,0,none⟩)) (.bool nt) (.bool first) (.string R) (.bool true) a'∧cK E F w.heap.size w w' p S) ?_ ?_
   ·refine ae (fun wd h8=> ?_);replace hE:=AI (hE.out.ab h8);clear h8 hg0 hg1 hg2 hA hB hp hC2 hC3;go_wp2;refine⟨⟨rfl,rfl,rfl,rfl,rfl,rfl,rfl,rfl,?_⟩,hE.out⟩;show QL _=_;simp[e93]
   ·intro a' wd ⟨hfr',hE⟩;obtain⟨u,rfl⟩:=hfr'.out;refine bT rfl ?_;have hy:=hy.out;refine hj.out _ wd p (.bool first) S w.heap.size R y _ h0 h2 hRp ?_ hE (fun hn=> ?_) (fun a w' _ h=>h) (fun hx a w' hf h3=> ?_)
    ·exact⟨rfl,rfl,rfl,rfl,rfl,rfl,rfl,rfl⟩
    ·rw[if_pos hn]at hy;exact(Option.some.inj hy).symm
    ·rw[if_neg hx]at hy;exact hNext.out _ _ _ _ hf h3 (by omega) hy
  rw[if_neg hC,← hg0]at hy;refine bP (fun a' w'=>yL (.pointer (some ⟨E.x,0,none⟩)) (.int .i64 at_) (.pointer (some ⟨w.heap.size,0,none⟩)) (.bool nt) (.bool first) (.string R) (.bool false) a'∧cK E F w.heap.size w w' p S) ?_ ?_
  ·refine ae (fun wd h8=> ?_);replace hE:=AI (hE.out.ab h8);replace hy:=AI hy;by_cases h2:2<R.size
   ·have h2z:(2:Int)<(R.size:Int):=by omega
    have h1:1<R.size:=by omega
    have h1z:(1:Int)<(R.size:Int):=by omega
    by_cases ha:R[1]=45
    ·have e45:(R[1].toNat:Int)=45:=by rw[ha];rfl
     have e93:(R[2].toNat:Int)=93:=by
      have:r.getD 1 0=93:=Classical.byContradiction fun h=>hC ⟨by omega,by rw[hg1 h1];exact ha,h⟩
      rw[hg2 h2]at this;rw[this];rfl
     clear h8 hg0 hg1 hg2 hA hB hC ha;go_wp2;refine⟨?_,hE.out⟩;exact⟨rfl,rfl,rfl,rfl,rfl,rfl,rfl,rfl,rfl⟩
    ·have e45:((R[1].toNat:Int)=45)=False:=yG (b:=45) rfl ha;clear h8 hg0 hg1 hg2 hA hB hC ha;go_wp2;refine⟨?_,hE.out⟩;exact⟨rfl,rfl,rfl,rfl,rfl,rfl,rfl,rfl,rfl⟩
   ·have h2z:¬ (2:Int)<(R.size:Int):=by omega
    clear h8 hg0 hg1 hg2 hA hB hC h2;go_wp2;refine⟨?_,hE.out⟩;exact⟨rfl,rfl,rfl,rfl,rfl,rfl,rfl,rfl,rfl⟩
  intro a' wd ⟨hfr',h3⟩;obtain⟨u,rfl⟩:=hfr'.out;refine bS rfl ?_;refine hk.out _ wd p (.bool first) S w.heap.size R _ h0 hRp ?_ h3 (fun a w' hf h3=> ?_)
  ·exact⟨rfl,rfl,rfl,rfl,rfl,rfl,rfl,rfl⟩
  ·exact hNext.out _ _ _ _ hf h3 (by omega) hy
end
section
open Go.RowKit
attribute [local instance] dP
variable{T:bw PB}
set_option maxRecDepth 100000 in
theorem MM{E:bt}{w:AS}{p:Nat}{F:Array AT}(at_:Nat)(hs:E.s.size≤1000)(ha:p≤E.s.size)(h:SB E w p F)(hF:F.size<E.cap)(hfl:E.fl<256){y:dF}(hy:uh E.ln E.fold E.l at_ p=some y):
 dh (aK T) 134 #[.pointer (some ⟨E.x,0,none⟩),.int .i64 at_] w (qY E F w y):=by
 refine cF trivial (fun w' h=>nomatch h.1) (PB.func Tryz.func134 (by decide)) rfl ?_;simp only[Tryz.ntmps134,PU,PN,PW,Qd,Qc,PM,PL,Q4,PP,Q7,Q6];refine ag (fun K hK=> ?_);refine ae (fun w0 he=> ?_);have H1:=AI (h.ab he);have hK1:=AI ((Kp.refl (B:=w.heap.size) (X:=[E.x]) w).ab he);have hz:=congrArg Qp he;clear he h;go_wp2;refine hK.out _ _ ?_;clear hK K;refine ag (fun K hK=> ?_);refine ae (fun w1 he=> ?_);have H2:=AI (H1.out.ab he);have hK2:=AI (hK1.out.ab he);have h7:=(congrArg Qp he).trans hz;clear he H1 hK1 hz;go_wp2;refine hK.out _ _ ?_;clear hK K w0;have H3:=AI (H2.out.keep (w':=w1.alloc (.cells #[.int .u64 0,.int .u64 0,.int .u64 0,.int .u64 0] 101)) (Below.heap_alloc _ _ _ H2.out.lt.1) (Below.heap_alloc _ _ _ H2.out.lt.2.1) (Below.heap_alloc _ _ _ H2.out.max_lt) (Below.heap_alloc _ _ _ H2.out.lh));have hK3:=AI (hK2.out.alloc (IN _) (.cells #[.int .u64 0,.int .u64 0,.int .u64 0,.int .u64 0] 101));have h4:ac (w1.alloc (.cells #[.int .u64 0,.int .u64 0,.int .u64 0,.int .u64 0] 101)) w.heap.size 101 (words az):=by
  rw[← h7];unfold words;simp only[Ce];exact ac.new w1 101 #[.int .u64 0,.int .u64 0,.int .u64 0,.int .u64 0]
 replace h4:=AI h4;clear H2 hK2 h7;generalize w1.alloc _=w2 at *;clear w1;have hP:∀u,Calls PB 159 #[.string (E.s.extract p E.s.size),.string ⟨#[94]⟩] u fun e w'=>e= .returned (.bool (QK (E.l.drop p) [94]))∧w'=u:=fun u=>by
  have:=Kx (E.s.extract p E.s.size) ⟨#[94]⟩ u;rw[oo]at this;exact this
 unfold uh at hy;dsimp only at hy;have h8:QK (E.l.drop p) [94]=true→p+1≤E.s.size:=fun h=>by
  have:=qf h;unfold bt.l at this;rwa [← PG]at this
 generalize hnt:QK (E.l.drop p) [94]=nt at *;clear hnt;obtain⟨pp,hpp⟩:∃pp,pp=if nt=true then p+1 else p:=⟨_,rfl⟩
 rw[← hpp]at hy;have h3:pp≤E.s.size:=by
  rw[hpp];split
  ·next hn=>exact h8 hn
  ·exact ha
 clear h8;replace hP:=AI hP;replace hy:=AI hy;refine ag (fun K hK=> ?_);refine ae (fun w3 he=> ?_);have H4:=AI (H3.out.ab he);have hK4:=AI (hK3.out.ab he);have h9:=AI (h4.out.ab he);have c0:w3.cell? ⟨E.x,0,none⟩=some (.string E.s):=H4.out.blk.cell 0;have c1:w3.cell? ⟨E.x,1,none⟩=some (.int .i64 p):=H4.out.blk.cell 1;clear H3 hK3 h4 he;replace hpp:=AI hpp;replace h3:=AI h3;go_quiet (first |(go_at_call 159;refine QH (hP.out _)))
 refine hK.out _ _ ?_;clear hK K;have H5:=AI (H4.out.ab (w':=w3.drewN nq) rfl);have hK5:=AI (hK4.out.ab (w':=w3.drewN nq) rfl);have h5:=AI (h9.out.ab (w':=w3.drewN nq) rfl);clear c0 c1 H4 hK4 h9 hP w2;generalize w3.drewN nq=w4 at *;clear w3 nq;refine bP (Mo E F w at_ nt undef pp) ?_ ?_
 ·refine ae (fun w5 he=> ?_);have H6:=AI (H5.out.ab he);have hK6:=AI (hK5.out.ab he);have h0:=AI (h5.out.ab he);have c1:w5.cell? ⟨E.x,1,none⟩=some (.int .i64 p):=H6.out.blk.cell 1;have f1:∀i,w5.frozen? ⟨E.x,i,none⟩=false:=H6.out.blk.frozen;have hw1:IntKind.i64.wrap ((p:Int)+1)=((p+1:Nat):Int):=by rw[OF];omega
  clear H5 hK5 h5 he;cases nt with
  |true=>
   go_wp2;have hq:pp=p+1:=hpp.out;have hlx:=H6.out.lt.1;have hne:w.heap.size≠E.x:=fun e=>by have h1:=h0.out;have h2:=H6.out.blk;rw[e]at h1;unfold ac at h1 h2;rw[h1]at h2;cases h2
   refine⟨?_,?_,h0.out.far hne _,hK6.out.setCell (fun _=>By.2 rfl) _⟩
   ·exact⟨rfl,rfl,rfl,rfl,rfl,rfl,rfl⟩
   ·rw[hq];exact H6.out.move
  |false=>
   go_wp2;have hq:pp=p:=hpp.out;refine⟨?_,hq▸H6.out,h0.out,hK6.out⟩;exact⟨rfl,rfl,rfl,rfl,rfl,rfl,rfl⟩
 ·intro a w5 ⟨h6,H6,h0,hK6⟩;obtain⟨u,rfl⟩:=h6.out;replace H6:=AI H6;replace h0:=AI h0;replace hK6:=AI hK6;clear H5 hK5 h5;refine ag (fun K hK=> ?_);refine ae (fun w6 he=> ?_);have H7:=AI (H6.out.ab he);have hK7:=AI (hK6.out.ab he);have hc:=AI (h0.out.ab he);clear H6 hK6 h0 he;go_wp2;refine hK.out _ _ ?_;clear hK K;refine ek ?_;refine mj (Mp E F w.heap.size w.heap.size w at_ nt y) (E.l.length+1) ⟨pp,true,az,?_,H7.out,hc.out,hK7.out,IN _,h3.out,hy.out⟩ ?_
  ·exact⟨rfl,rfl,rfl,rfl,rfl,rfl,rfl⟩
  ·intro f a w7 ⟨p7,first,S,h6,hI⟩;exact Fh rfl hs hF hfl h6 hI
end
section
open Go.RowKit
attribute [local instance] dP
variable{T:bw PB}
def wv(v0 v3 v4:AT)(a:Act):Prop:=a.defers=[]∧a.tmps.size=134∧a.tmps.getD 0 undef=v0∧a.tmps.getD 3 undef=v3∧a.tmps.getD 4 undef=v4
theorem wv.out{v0 v3 v4:AT}{a:Act}(h:wv v0 v3 v4 a):∃u:Nat→AT,a= {tmps:=(v0::u 1::u 2::v3::v4::u 5::u 6::u 7::u 8::u 9::u 10::u 11::u 12::u 13::u 14::u 15::u 16::u 17::u 18::u 19::u 20::u 21::u 22::u 23::u 24::u 25::u 26::u 27::u 28::u 29::u 30::u 31::u 32::u 33::u 34::u 35::u 36::u 37::u 38::u 39::u 40::u 41::u 42::u 43::u 44::u 45::u 46::u 47::u 48::u 49::u 50::u 51::u 52::u 53::u 54::u 55::u 56::u 57::u 58::u 59::u 60::u 61::u 62::u 63::u 64::u 65::u 66::u 67::u 68::u 69::u 70::u 71::u 72::u 73::u 74::u 75::u 76::u 77::u 78::u 79::u 80::u 81::u 82::u 83::u 84::u 85::u 86::u 87::u 88::u 89::u 90::u 91::u 92::u 93::u 94::u 95::u 96::u 97::u 98::u 99::u 100::u 101::u 102::u 103::u 104::u 105::u 106::u 107::u 108::u 109::u 110::u 111::u 112::u 113::u 114::u 115::u 116::u 117::u 118::u 119::u 120::u 121::u 122::u 123::u 124::u 125::u 126::u 127::u 128::u 129::u 130::u 131::u 132::u 133::[]).toArray,defers:=[]}:=by
 obtain⟨hd,hn,rfl,rfl,rfl⟩:=h;obtain⟨ts,ds⟩:=a;dsimp only at hd hn ⊢;subst hd;refine⟨fun i=>ts.getD i undef,?_⟩;exact congrArg (fun t=>({tmps:=t,defers:=[]}:Act)) (du 134 ts hn)
theorem cK.sent{E:bt}{F:Array AT}{b:Nat}{w0 w w':AS}{p:Nat}{S:an}{at_:Int}(h:cK E F b w0 w p S)(h1:SB E w' p (F.push (Tok.val 0 (dl at_ S))))(h2:Kp w.heap.size [E.r] w w'):Sent E F w0 w' [E.x,E.r] ⟨dl at_ S,none,true,p⟩:=by
 have hle:=h.kp.1;exact⟨0,h1,fun q hq=>(by cases hq),(h.kp.mono (IN _) fun x hx _=>by rw[By.1 hx];exact PJ).trans (h2.mono hle fun x hx _=>by rw[By.1 hx];simp)⟩
theorem cK.fresh{E:bt}{F:Array AT}{w0 w:AS}{p:Nat}(h:SB E w p F)(hk:Kp w0.heap.size [E.x] w0 w):cK E F w.heap.size w0 (w.alloc (.cells #[.int .u64 0,.int .u64 0,.int .u64 0,.int .u64 0] 101)) p az:=by
 refine⟨h.keep (Below.heap_alloc _ _ _ h.lt.1) (Below.heap_alloc _ _ _ h.lt.2.1) (Below.heap_alloc _ _ _ h.max_lt) (Below.heap_alloc _ _ _ h.lh),?_,hk.alloc (IN _) _,hk.1⟩;unfold words;simp only[Ce];exact ac.new w 101 #[.int .u64 0,.int .u64 0,.int .u64 0,.int .u64 0]
set_option maxRecDepth 100000 in
theorem G4
 {c0 c1 c4 c5 c6 c7 c8 c11 cE1 cE2 cS1 cS2 c33 c34 c35 c36 cM c16 c17 c18 c19 c20 c21 c22 c23 c24 cX cY:Code} {i:Nat} {o1 o2 o3 o4 o5 o6:Qw} (hc:(Tryz.f116).body=some (.seq c0 (.seq (.seq c1 (.cond o1 cE1 cE2)) (.seq c4 (.seq c5 (.seq c6 (.seq (.seq c7 (.seq c8 (.cond o2 cS1 cS2))) (.seq (.seq c11 (.block i (.seq cM (.cond o3 c16 (.seq c17 (.cond o4 c18 (.seq c19 (.cond o5 (.seq c20 (.seq c21 (.seq c22 c23))) (.seq c24 (.cond o6 cX cY)))))))))) (.seq c33 (.seq c34 (.seq c35 c36)))))))))))
 {E:bt} {F:Array AT} {w:AS} {at_ c:Nat} {a:Act} {w7:AS} {p:Nat} {y:dF} {Q:Exit→Act→AS→Prop} (hs:E.s.size≤1000) (hF:F.size<E.cap) (hc8:c<256)
 (h3:wv (.pointer (some ⟨E.x,0,none⟩)) (.int .i64 at_) (.int .u8 c) a) (hB:SB E w7 p F) (hK7:Kp w.heap.size [E.x] w w7)
 (hy:y=⟨dl at_ (lv E.fold (bV az c c)),none,true,p⟩)
 (hQ:∀a w',bodyPost PB Tryz.f116 (qY E F w y) .ret a w'→Q .ret a w'):
 cV (aK T) (.seq c33 (.seq c34 (.seq c35 c36))) Q a w7:=by
 cases hc;subst hy;replace hQ:=AI hQ;obtain⟨u,rfl⟩:=h3.out;refine ag (fun K hK=> ?_);refine ae (fun w8 he=> ?_);replace hB:=hB.ab he;replace hK7:=hK7.ab he;have I8:=AI (cK.fresh hB hK7);clear he hB hK7;go_wp2;refine hK.out _ _ ?_;clear hK K;generalize w8.alloc _=w9 at I8 ⊢;generalize w8.heap.size=b at I8 ⊢;clear w8 w7;have hA:=AI (fun(u:AS)(hu:ac u b 101 (words az))=>add_any b c c az u (by omega) (by omega) hu);refine ag (fun K hK=> ?_);refine ae (fun wa he=> ?_);replace I8:=AI (I8.out.ab he);clear he;go_wp2_with (first |(go_at_call 135;refine(hA.out wa I8.out.blk).mono ?_;rintro e w' ⟨rfl,hb',hO⟩;replace I8:=AI (I8.out.only hO hb');clear hb' hO)|fail)
 refine hK.out _ _ ?_;clear hK K hA wa w9;generalize hS0:bV az c c=S at I8 ⊢;replace hS0:=AI hS0;have h0:∀u:AS,u.heap=w'.heap→Calls PB 140 #[.pointer (some ⟨E.x,0,none⟩),.agg #[.int .u64 (wz S 0),.int .u64 (wz S 1),.int .u64 (wz S 2),.int .u64 (wz S 3)]] u fun e w'=>e= .returned (.agg #[.int .u64 (wz (lv E.fold S) 0),.int .u64 (wz (lv E.fold S) 1),.int .u64 (wz (lv E.fold S) 2),.int .u64 (wz (lv E.fold S) 3)])∧Kp u.heap.size [] u w':=fun u hu=>vT E.x E.r E.s p E.fl E.fold S u (I8.out.sb.blk.ab hu)
 replace h0:=AI h0;generalize hS1:lv E.fold S=S1 at h0 ⊢;replace hS1:=AI hS1;refine ag (fun K hK=> ?_);refine aC ?_;show bo _ _ _ (If 0 (5+1)) _ _;refine b8 0 5 1 (fun N hN wd he=> ?_) (by decide);simp only[zq1];replace I8:=AI (I8.out.ab he);have b0:wd.cell? ⟨b,0,none⟩=some _:=I8.out.blk.cell 0;have b1:wd.cell? ⟨b,1,none⟩=some _:=I8.out.blk.cell 1;have b2:wd.cell? ⟨b,2,none⟩=some _:=I8.out.blk.cell 2;have b3:wd.cell? ⟨b,3,none⟩=some _:=I8.out.blk.cell 3;have h0:=AI (h0.out wd he);clear he;go_wp2_with (first |(go_at_call 140;refine(h0.out).mono ?_;rintro e w2 ⟨rfl,hk⟩;have Iw:=AI (I8.out.call hk);clear hk)|fail)
 refine hN.out _ _ ?_;clear hN N b0 b1 b2 b3 h0 I8;have Iw':cK E F b w w2 p S:=Iw.out;refine bJ (f:=136) (i:=5) (rest:=[]) rfl rfl (fun u=>by simp[go_sem];rfl) trivial (zv S1 at_ Iw.out.sb hF) (fun u we hr=> ?_) (fun ch we hr=>(by cases hr.1));obtain⟨hr1,h1,h2⟩:=hr;cases hr1;refine aZ (hK.out _ _ ?_);simp only[Q3,zq0];clear hK K;have hS:Sent E F w we [E.x,E.r] ⟨dl at_ S1,none,true,p⟩:=by
  have hle:=Iw'.kp.1;exact⟨0,h1,fun q hq=>(by cases hq),(Iw'.kp.mono (IN _) fun x hx _=>by rw[By.1 hx];exact PJ).trans (h2.mono hle fun x hx _=>by rw[By.1 hx];simp)⟩
 replace hS:=AI hS;clear h1 h2 Iw Iw';refine ae (fun wf he=> ?_);replace hS:=AI (hS.out.ab he);clear he;go_wp2;refine hQ.out _ _ ?_;go_ret;exact⟨rfl,by rw[hS0.out,hS1.out];exact hS.out⟩
set_option maxRecDepth 100000 in
theorem Iq
 {c0 c1 c4 c5 c6 c7 c8 c11 cE1 cE2 cS1 cS2 c33 c34 c35 c36 cM c16 c17 c18 c19 c20 c21 c22 c23 c24 cX cY:Code} {i:Nat} {o1 o2 o3 o4 o5 o6:Qw} (hc:(Tryz.f116).body=some (.seq c0 (.seq (.seq c1 (.cond o1 cE1 cE2)) (.seq c4 (.seq c5 (.seq c6 (.seq (.seq c7 (.seq c8 (.cond o2 cS1 cS2))) (.seq (.seq c11 (.block i (.seq cM (.cond o3 c16 (.seq c17 (.cond o4 c18 (.seq c19 (.cond o5 (.seq c20 (.seq c21 (.seq c22 c23))) (.seq c24 (.cond o6 cX cY)))))))))) (.seq c33 (.seq c34 (.seq c35 c36)))))))))))
 {E:bt} {F:Array AT} {w:AS} {at_:Nat} {v4:AT} {a:Act} {w7:AS} {p:Nat} {y:dF} {Q:Exit→Act→AS→Prop} (hs:E.s.size≤1000) (hF:F.size<E.cap) (hfl:E.fl<256)
 (h3:wv (.pointer (some ⟨E.x,0,none⟩)) (.int .i64 at_) v4 a) (hB:SB E w7 p F) (hK7:Kp w.heap.size [E.x] w w7)
 (hy:y=⟨dl at_ (lu E.ln (bV az 0 255)),none,true,p⟩)
 (hQ:∀a w',bodyPost PB Tryz.f116 (qY E F w y) .ret a w'→Q .ret a w'):
 cV (aK T) (.seq c20 (.seq c21 (.seq c22 c23))) Q a w7:=by
 cases hc;subst hy;replace hQ:=AI hQ;obtain⟨u,rfl⟩:=h3.out;refine ag (fun K hK=> ?_);refine ae (fun w8 he=> ?_);replace hB:=hB.ab he;replace hK7:=hK7.ab he;have I8:=AI (cK.fresh hB hK7);clear he hB hK7;go_wp2;refine hK.out _ _ ?_;clear hK K;generalize w8.alloc _=w9 at I8 ⊢;generalize w8.heap.size=b at I8 ⊢;clear w8 w7;have hA:=AI (fun(u:AS)(hu:ac u b 101 (words az))=>add_any b 0 255 az u (by omega) (by omega) hu);refine ag (fun K hK=> ?_);refine ae (fun wa he=> ?_);replace I8:=AI (I8.out.ab he);clear he;go_wp2_with (first |(go_at_call 135;refine(hA.out wa I8.out.blk).mono ?_;rintro e w' ⟨rfl,hb',hO⟩;replace I8:=AI (I8.out.only hO hb');clear hb' hO)|fail)
 refine hK.out _ _ ?_;clear hK K hA wa w9;generalize hS0:bV az 0 255=S at I8 ⊢;replace hS0:=AI hS0;have h0:∀u:AS,u.heap=w'.heap→Calls PB 137 #[.pointer (some ⟨E.x,0,none⟩),.agg #[.int .u64 (wz S 0),.int .u64 (wz S 1),.int .u64 (wz S 2),.int .u64 (wz S 3)]] u fun e w'=>e= .returned (.agg #[.int .u64 (wz (lu E.ln S) 0),.int .u64 (wz (lu E.ln S) 1),.int .u64 (wz (lu E.ln S) 2),.int .u64 (wz (lu E.ln S) 3)])∧Kp u.heap.size [] u w':=fun u hu=>by
  have:=su E.x E.r E.s p E.fl E.fold S u hfl (I8.out.sb.blk.ab hu);have e:(if E.fl/2%2=1 then del S 10 else S)=lu E.ln S:=by
   unfold lu bt.ln;simp only[decide_eq_true_eq]
  rw[e]at this;exact this
 replace h0:=AI h0;generalize hS1:lu E.ln S=S1 at h0 ⊢;replace hS1:=AI hS1;refine ag (fun K hK=> ?_);refine aC ?_;show bo _ _ _ (If 0 (5+1)) _ _;refine b8 0 5 1 (fun N hN wd he=> ?_) (by decide);simp only[zq1];replace I8:=AI (I8.out.ab he);have b0:wd.cell? ⟨b,0,none⟩=some _:=I8.out.blk.cell 0;have b1:wd.cell? ⟨b,1,none⟩=some _:=I8.out.blk.cell 1;have b2:wd.cell? ⟨b,2,none⟩=some _:=I8.out.blk.cell 2;have b3:wd.cell? ⟨b,3,none⟩=some _:=I8.out.blk.cell 3;have h0:=AI (h0.out wd he);clear he;go_wp2_with (first |(go_at_call 137;refine(h0.out).mono ?_;rintro e w2 ⟨rfl,hk⟩;have Iw:=AI (I8.out.call hk);clear hk)|fail)
 refine hN.out _ _ ?_;clear hN N b0 b1 b2 b3 h0 I8;have Iw':cK E F b w w2 p S:=Iw.out;refine bJ (f:=136) (i:=5) (rest:=[]) rfl rfl (fun u=>by simp[go_sem];rfl) trivial (zv S1 at_ Iw.out.sb hF) (fun u we hr=> ?_) (fun ch we hr=>(by cases hr.1));obtain⟨hr1,h1,h2⟩:=hr;cases hr1;refine aZ (hK.out _ _ ?_);simp only[Q3,zq0];clear hK K;have hS:Sent E F w we [E.x,E.r] ⟨dl at_ S1,none,true,p⟩:=by
  have hle:=Iw'.kp.1;exact⟨0,h1,fun q hq=>(by cases hq),(Iw'.kp.mono (IN _) fun x hx _=>by rw[By.1 hx];exact PJ).trans (h2.mono hle fun x hx _=>by rw[By.1 hx];simp)⟩
 replace hS:=AI hS;clear h1 h2 Iw Iw';refine ae (fun wf he=> ?_);replace hS:=AI (hS.out.ab he);clear he;go_wp2;refine hQ.out _ _ ?_;go_ret;exact⟨rfl,by rw[hS0.out,hS1.out];exact hS.out⟩
end
section
open Go.RowKit
attribute [local instance] dP
variable{T:bw PB}
def Mr(v0 v3 v4 v5:AT)(a:Act):Prop:=a.defers=[]∧a.tmps.size=134∧a.tmps.getD 0 undef=v0∧a.tmps.getD 3 undef=v3∧a.tmps.getD 4 undef=v4∧a.tmps.getD 5 undef=v5
theorem Mr.out{v0 v3 v4 v5:AT}{a:Act}(h:Mr v0 v3 v4 v5 a):∃u:Nat→AT,a= {tmps:=(v0::u 1::u 2::v3::v4::v5::u 6::u 7::u 8::u 9::u 10::u 11::u 12::u 13::u 14::u 15::u 16::u 17::u 18::u 19::u 20::u 21::u 22::u 23::u 24::u 25::u 26::u 27::u 28::u 29::u 30::u 31::u 32::u 33::u 34::u 35::u 36::u 37::u 38::u 39::u 40::u 41::u 42::u 43::u 44::u 45::u 46::u 47::u 48::u 49::u 50::u 51::u 52::u 53::u 54::u 55::u 56::u 57::u 58::u 59::u 60::u 61::u 62::u 63::u 64::u 65::u 66::u 67::u 68::u 69::u 70::u 71::u 72::u 73::u 74::u 75::u 76::u 77::u 78::u 79::u 80::u 81::u 82::u 83::u 84::u 85::u 86::u 87::u 88::u 89::u 90::u 91::u 92::u 93::u 94::u 95::u 96::u 97::u 98::u 99::u 100::u 101::u 102::u 103::u 104::u 105::u 106::u 107::u 108::u 109::u 110::u 111::u 112::u 113::u 114::u 115::u 116::u 117::u 118::u 119::u 120::u 121::u 122::u 123::u 124::u 125::u 126::u 127::u 128::u 129::u 130::u 131::u 132::u 133::[]).toArray,defers:=[]}:=by
 obtain⟨hd,hn,rfl,rfl,rfl,rfl⟩:=h;obtain⟨ts,ds⟩:=a;dsimp only at hd hn ⊢;subst hd;refine⟨fun i=>ts.getD i undef,?_⟩;exact congrArg (fun t=>({tmps:=t,defers:=[]}:Act)) (du 134 ts hn)
def Mt(v0 v3 v4 v115:AT)(a:Act):Prop:=a.defers=[]∧a.tmps.size=134∧a.tmps.getD 0 undef=v0∧a.tmps.getD 3 undef=v3∧a.tmps.getD 4 undef=v4∧a.tmps.getD 115 undef=v115
theorem Mt.out{v0 v3 v4 v115:AT}{a:Act}(h:Mt v0 v3 v4 v115 a):∃u:Nat→AT,a= {tmps:=(v0::u 1::u 2::v3::v4::u 5::u 6::u 7::u 8::u 9::u 10::u 11::u 12::u 13::u 14::u 15::u 16::u 17::u 18::u 19::u 20::u 21::u 22::u 23::u 24::u 25::u 26::u 27::u 28::u 29::u 30::u 31::u 32::u 33::u 34::u 35::u 36::u 37::u 38::u 39::u 40::u 41::u 42::u 43::u 44::u 45::u 46::u 47::u 48::u 49::u 50::u 51::u 52::u 53::u 54::u 55::u 56::u 57::u 58::u 59::u 60::u 61::u 62::u 63::u 64::u 65::u 66::u 67::u 68::u 69::u 70::u 71::u 72::u 73::u 74::u 75::u 76::u 77::u 78::u 79::u 80::u 81::u 82::u 83::u 84::u 85::u 86::u 87::u 88::u 89::u 90::u 91::u 92::u 93::u 94::u 95::u 96::u 97::u 98::u 99::u 100::u 101::u 102::u 103::u 104::u 105::u 106::u 107::u 108::u 109::u 110::u 111::u 112::u 113::u 114::v115::u 116::u 117::u 118::u 119::u 120::u 121::u 122::u 123::u 124::u 125::u 126::u 127::u 128::u 129::u 130::u 131::u 132::u 133::[]).toArray,defers:=[]}:=by
 obtain⟨hd,hn,rfl,rfl,rfl,rfl⟩:=h;obtain⟨ts,ds⟩:=a;dsimp only at hd hn ⊢;subst hd;refine⟨fun i=>ts.getD i undef,?_⟩;exact congrArg (fun t=>({tmps:=t,defers:=[]}:Act)) (du 134 ts hn)
def Ms(v0 v3 v4 v55:AT)(a:Act):Prop:=a.defers=[]∧a.tmps.size=134∧a.tmps.getD 0 undef=v0∧a.tmps.getD 3 undef=v3∧a.tmps.getD 4 undef=v4∧a.tmps.getD 55 undef=v55
theorem Ms.out{v0 v3 v4 v55:AT}{a:Act}(h:Ms v0 v3 v4 v55 a):∃u:Nat→AT,a= {tmps:=(v0::u 1::u 2::v3::v4::u 5::u 6::u 7::u 8::u 9::u 10::u 11::u 12::u 13::u 14::u 15::u 16::u 17::u 18::u 19::u 20::u 21::u 22::u 23::u 24::u 25::u 26::u 27::u 28::u 29::u 30::u 31::u 32::u 33::u 34::u 35::u 36::u 37::u 38::u 39::u 40::u 41::u 42::u 43::u 44::u 45::u 46::u 47::u 48::u 49::u 50::u 51::u 52::u 53::u 54::v55::u 56::u 57::u 58::u 59::u 60::u 61::u 62::u 63::u 64::u 65::u 66::u 67::u 68::u 69::u 70::u 71::u 72::u 73::u 74::u 75::u 76::u 77::u 78::u 79::u 80::u 81::u 82::u 83::u 84::u 85::u 86::u 87::u 88::u 89::u 90::u 91::u 92::u 93::u 94::u 95::u 96::u 97::u 98::u 99::u 100::u 101::u 102::u 103::u 104::u 105::u 106::u 107::u 108::u 109::u 110::u 111::u 112::u 113::u 114::u 115::u 116::u 117::u 118::u 119::u 120::u 121::u 122::u 123::u 124::u 125::u 126::u 127::u 128::u 129::u 130::u 131::u 132::u 133::[]).toArray,defers:=[]}:=by
 obtain⟨hd,hn,rfl,rfl,rfl,rfl⟩:=h;obtain⟨ts,ds⟩:=a;dsimp only at hd hn ⊢;subst hd;refine⟨fun i=>ts.getD i undef,?_⟩;exact congrArg (fun t=>({tmps:=t,defers:=[]}:Act)) (du 134 ts hn)
def JY(v0 v3 v4 v55 v56:AT)(a:Act):Prop:=a.defers=[]∧a.tmps.size=134∧a.tmps.getD 0 undef=v0∧a.tmps.getD 3 undef=v3∧a.tmps.getD 4 undef=v4∧a.tmps.getD 55 undef=v55∧a.tmps.getD 56 undef=v56
theorem JY.out{v0 v3 v4 v55 v56:AT}{a:Act}(h:JY v0 v3 v4 v55 v56 a):∃u:Nat→AT,a= {tmps:=(v0::u 1::u 2::v3::v4::u 5::u 6::u 7::u 8::u 9::u 10::u 11::u 12::u 13::u 14::u 15::u 16::u 17::u 18::u 19::u 20::u 21::u 22::u 23::u 24::u 25::u 26::u 27::u 28::u 29::u 30::u 31::u 32::u 33::u 34::u 35::u 36::u 37::u 38::u 39::u 40::u 41::u 42::u 43::u 44::u 45::u 46::u 47::u 48::u 49::u 50::u 51::u 52::u 53::u 54::v55::v56::u 57::u 58::u 59::u 60::u 61::u 62::u 63::u 64::u 65::u 66::u 67::u 68::u 69::u 70::u 71::u 72::u 73::u 74::u 75::u 76::u 77::u 78::u 79::u 80::u 81::u 82::u 83::u 84::u 85::u 86::u 87::u 88::u 89::u 90::u 91::u 92::u 93::u 94::u 95::u 96::u 97::u 98::u 99::u 100::u 101::u 102::u 103::u 104::u 105::u 106::u 107::u 108::u 109::u 110::u 111::u 112::u 113::u 114::u 115::u 116::u 117::u 118::u 119::u 120::u 121::u 122::u 123::u 124::u 125::u 126::u 127::u 128::u 129::u 130::u 131::u 132::u 133::[]).toArray,defers:=[]}:=by
 obtain⟨hd,hn,rfl,rfl,rfl,rfl,rfl⟩:=h;obtain⟨ts,ds⟩:=a;dsimp only at hd hn ⊢;subst hd;refine⟨fun i=>ts.getD i undef,?_⟩;exact congrArg (fun t=>({tmps:=t,defers:=[]}:Act)) (du 134 ts hn)
structure lq(E:bt)(F:Array AT)(w0 w:AS)(p:Nat):Prop where
 sb:SB E w p F
 kp:Kp w0.heap.size [E.x] w0 w
theorem lq.ab{E:bt}{F:Array AT}{w0 w w':AS}{p:Nat}(h:lq E F w0 w p)(he:w'.heap=w.heap):lq E F w0 w' p:=⟨h.sb.ab he,h.kp.ab he⟩
theorem lq.move{E:bt}{F:Array AT}{w0 w:AS}{p q:Nat}(h:lq E F w0 w p):lq E F w0 (w.setCell ⟨E.x,1,none⟩ (.int .i64 (q:Int))) q:=⟨h.sb.move,h.kp.setCell (fun _=>By.2 rfl) _⟩
theorem Sent.JI{E:bt}{F:Array AT}{w w1 w':AS}{y:dF}(h:Sent E F w1 w' [E.x,E.r] y)(hk:Kp w.heap.size [E.x] w w1):Sent E F w w' [E.x,E.r] y:=by
 obtain⟨e,h1,h2,h3⟩:=h;have hle:=hk.1;exact⟨e,h1,fun q hq=>⟨(h2 q hq).1,Qk hle (h2 q hq).2⟩,(hk.mono (IN _) fun x hx _=>by rw[By.1 hx];exact PJ).trans (h3.mono hle fun x hx _=>hx)⟩
theorem lq.sent{E:bt}{F:Array AT}{w0 w:AS}{p sd:Nat}{k at_:Int}{more:Bool}(h:lq E F w0 w p):Sent E F w0 (ay w E.r (.chan E.cap (F.push (Tok.val 0 (gl k at_))) false sd E.rc E.tm)) [E.x,E.r] ⟨gl k at_,none,more,p⟩:=
 ⟨0,h.sb.push h.sb.lt.2.2 h.sb.tf _,fun q hq=>(by cases hq),(h.kp.mono (IN _) fun x hx _=>by rw[By.1 hx];exact PJ).ay (fun _=>by simp) _⟩
theorem nO{a b:UInt8}{n:Int}(hn:(b.toNat:Int)=n)(h:a≠b):(a.toNat:Int)≠n:=fun e=>h (by rw[← QC];omega)
set_option maxHeartbeats 4000000 in
set_option maxRecDepth 100000 in
theorem G5
 {c0 c1 c4 c5 c6 c7 c8 c11 cE1 cE2 cS1 cS2 c33 c34 c35 c36 cM c16 c17 c18 c19 c20 c21 c22 c23 c24 cX cY:Code} {i:Nat} {o1 o2 o3 o4 o5 o6:Qw} (hc:(Tryz.f116).body=some (.seq c0 (.seq (.seq c1 (.cond o1 cE1 cE2)) (.seq c4 (.seq c5 (.seq c6 (.seq (.seq c7 (.seq c8 (.cond o2 cS1 cS2))) (.seq (.seq c11 (.block i (.seq cM (.cond o3 c16 (.seq c17 (.cond o4 c18 (.seq c19 (.cond o5 (.seq c20 (.seq c21 (.seq c22 c23))) (.seq c24 (.cond o6 cX cY)))))))))) (.seq c33 (.seq c34 (.seq c35 c36)))))))))))
 {E:bt} {F:Array AT} {w:AS} {y:dF} {p:Nat} (hs:E.s.size≤1000) (hF:F.size<E.cap) (hfl:E.fl<256) (hps:p≤E.s.size) (h:SB E w p F) (hy:bG E.ln E.fold E.l p=some y) {us:List AT} (hh:us=List.replicate 133 undef):
 cV (aK T) (.seq c0 (.seq (.seq c1 (.cond o1 cE1 cE2)) (.seq c4 (.seq c5 (.seq c6 (.seq (.seq c7 (.seq c8 (.cond o2 cS1 cS2))) (.seq (.seq c11 (.block i (.seq cM (.cond o3 c16 (.seq c17 (.cond o4 c18 (.seq c19 (.cond o5 (.seq c20 (.seq c21 (.seq c22 c23))) (.seq c24 (.cond o6 cX cY)))))))))) (.seq c33 (.seq c34 (.seq c35 c36)))))))))) (bodyPost PB Tryz.f116 (qY E F w y)) {tmps:=#[.pointer (some ⟨E.x,0,none⟩)]++Qt (134-1) undef,defers:=[]} w:=by
 have hT:=fun at_ c a w7 p y Q=> @G4 T _ _ _ _ _ _ _ _ _ _ _ _ _ _ _ _ _ _ _ _ _ _ _ _ _ _ _ _ _ _ _ _ _ _ _ hc E F w at_ c a w7 p y Q hs hF
 have hD:=fun at_ v a w7 p y Q=> @Iq T _ _ _ _ _ _ _ _ _ _ _ _ _ _ _ _ _ _ _ _ _ _ _ _ _ _ _ _ _ _ _ _ _ _ _ hc E F w at_ v a w7 p y Q hs hF hfl
 replace hT:=AI hT;replace hD:=AI hD;cases hc;simp only[PU,PN,PW,Qd,Qc,PM,PL,Q4,PP,Q7,Q6];clear hh us;have I8:=AI (⟨h,Kp.refl w⟩:lq E F w w p);clear h;refine ag (fun K hK=> ?_);refine ae (fun w1 he=> ?_);replace I8:=AI (I8.out.ab he);clear he;go_wp2;refine hK.out _ _ ?_;clear hK K;refine ag (fun K1 hK1=> ?_);refine ag (fun K hK=> ?_);refine ae (fun w2 he=> ?_);replace I8:=AI (I8.out.ab he);have c0:w2.cell? ⟨E.x,0,none⟩=some (.string E.s):=I8.out.sb.blk.cell 0;have c1:w2.cell? ⟨E.x,1,none⟩=some (.int .i64 p):=I8.out.sb.blk.cell 1;clear he;go_quiet (fail)
 refine hK.out _ _ ?_;clear hK K c0 c1;replace I8:=AI (I8.out.ab (w':=w2.drewN nq) rfl);generalize w2.drewN nq=w3 at *;clear w2 nq w1;unfold bG at hy;by_cases hpe:p=E.s.size
 ·have hd:E.l.drop p=[]:=by
   refine Qz ?_;unfold bt.l;rw[← PG,hpe];exact IN _
  rw[hd]at hy;cases hy;have hpe':(p:Int)=(E.s.size:Int):=by omega
  refine bT (by simp[No,hpe']) ?_;clear hd hpe hpe';refine ag (fun M hM=> ?_);refine lx 9 (by kernel_rfl) (by kernel_rfl) (fun K hK w4 he4=> ?_);simp only[QE,QS];have c1:w4.cell? ⟨E.x,1,none⟩=some (.int .i64 p):=(I8.out.sb.blk.ab he4).cell 1;have c3:w4.cell? ⟨E.x,3,none⟩=some (.chan (some E.r)):=(I8.out.sb.blk.ab he4).cell 3;clear he4;repeat still_step
  refine wpStill_nil (hK.out _ ?_);clear hK K c1 c3;obtain⟨sd,hch⟩:=I8.out.sb.chan;refine mu (rest:=[]) (v:=Tok.val 0 (gl 0 p)) rfl rfl (PB.send E.r _ rfl rfl ?_) hch hF ?_
  ·rfl
  refine aZ ?_;simp only[Q3];refine hM.out _ _ ?_;clear hM M;have hS:=AI (I8.out.sent (sd:=sd+1) (k:=0) (at_:=p) (more:=false));clear hch I8;show cV _ _ _ _ (ay w3 E.r (.chan E.cap (F.push (Tok.val 0 (gl 0 p))) false (sd+1) E.rc E.tm));generalize ay w3 E.r (.chan E.cap (F.push (Tok.val 0 (gl 0 p))) false (sd+1) E.rc E.tm)=w5 at *;refine ae (fun w6 he=> ?_);replace hS:=AI (hS.out.ab he);clear he;go_wp2;go_ret;exact⟨rfl,hS.out⟩
 have hlt:p<E.s.size:=by omega
 have hd:E.l.drop p=E.s[p]::E.l.drop (p+1):=drop_at E.s p hlt;rw[hd]at hy;dsimp only at hy;have hpe':¬ (p:Int)=(E.s.size:Int):=by omega
 refine bS (by simp[No,hpe']) (gI ?_);refine hK1.out _ _ ?_;clear hK1 K1 hpe hpe' hd;have hp0:(p:Int)<(E.s.size:Int):=by omega
 have ha:=E.s[p].toNat_lt;generalize hcc:E.s[p]=c at hy ha;replace hy:=AI hy;refine bP (fun a' w'=>wv (.pointer (some ⟨E.x,0,none⟩)) (.int .i64 p) undef a'∧lq E F w w' p) ?_ ?_
 ·refine ae (fun w4 he=> ?_);replace I8:=AI (I8.out.ab he);have c1:w4.cell? ⟨E.x,1,none⟩=some (.int .i64 p):=I8.out.sb.blk.cell 1;clear he;go_wp2;refine⟨?_,I8.out⟩;exact⟨rfl,rfl,rfl,rfl,rfl⟩
 intro a w4 ⟨h0,hI⟩;clear I8;have I8:=AI hI;clear hI;obtain⟨u,rfl⟩:=h0.out;refine bP (fun a' w'=>wv (.pointer (some ⟨E.x,0,none⟩)) (.int .i64 p) (.int .u8 c.toNat) a'∧lq E F w w' p) ?_ ?_
 ·refine ae (fun w5 he=> ?_);replace I8:=AI (I8.out.ab he);have c0:w5.cell? ⟨E.x,0,none⟩=some (.string E.s):=I8.out.sb.blk.cell 0;clear he;subst hcc;go_wp2;refine⟨?_,I8.out⟩;exact⟨rfl,rfl,rfl,rfl,rfl⟩
 intro a w5 ⟨h0,hI⟩;clear I8;have I8:=AI hI;clear hI;obtain⟨u,rfl⟩:=h0.out;replace hcc:=AI hcc;have hw1:IntKind.i64.wrap ((p:Int)+1)=((p+1:Nat):Int):=by rw[OF];omega
 refine bP (fun a' w'=>wv (.pointer (some ⟨E.x,0,none⟩)) (.int .i64 p) (.int .u8 c.toNat) a'∧lq E F w w' (p+1)) ?_ ?_
 ·refine ae (fun w6 he=> ?_);replace I8:=AI (I8.out.ab he);have c1:w6.cell? ⟨E.x,1,none⟩=some (.int .i64 p):=I8.out.sb.blk.cell 1;have f1:∀i,w6.frozen? ⟨E.x,i,none⟩=false:=I8.out.sb.blk.frozen;clear he;go_wp2;refine⟨?_,I8.out.move (q:=p+1)⟩;exact⟨rfl,rfl,rfl,rfl,rfl⟩
 intro a w6 ⟨h0,hI⟩;clear I8 hw1;have I8:=AI hI;clear hI;obtain⟨u,rfl⟩:=h0.out;have hf:=AI (fun w=>HG c.toNat w);refine ag (fun K1 hK1=> ?_);refine bP (fun a' w'=>Mr (.pointer (some ⟨E.x,0,none⟩)) (.int .i64 p) (.int .u8 c.toNat) (.int .i64 (dH c.toNat)) a'∧lq E F w w' (p+1)) ?_ ?_
 ·refine ae (fun w7 he=> ?_);replace I8:=AI (I8.out.ab he);clear he;generalize dH c.toNat=sk at *;go_wp2_with (first |(go_at_call 132;refine(hf.out _).mono ?_;rintro e w' ⟨rfl,rfl⟩)|fail)
  refine⟨?_,I8.out⟩;exact⟨rfl,rfl,rfl,rfl,rfl,rfl⟩
 intro a w7 ⟨h0,hI⟩;clear I8 hf;have I8:=AI hI;clear hI;obtain⟨u,rfl⟩:=h0.out;by_cases h2:0≤dH c.toNat
 ·have hy:=hy.out;rw[if_pos h2]at hy;cases hy;generalize dH c.toNat=sk at *;refine ag (fun K hK=> ?_);refine ae (fun w8 he=> ?_);replace I8:=AI (I8.out.ab he);clear he;go_wp2;refine hK.out _ _ ?_;clear hK K;refine bT (by simp[No,h2]) ?_;refine ag (fun K hK=> ?_);refine aC ?_;show bo _ _ _ (If 0 (7+1)) _ _;refine b8 0 7 1 (fun N hN w9 he=> ?_) (by decide);simp only[zq1];replace I8:=AI (I8.out.ab he);have c3:w9.cell? ⟨E.x,3,none⟩=some (.chan (some E.r)):=I8.out.sb.blk.cell 3;clear he;go_wp2;refine hN.out _ _ ?_;clear hN N c3;obtain⟨sd,hch⟩:=I8.out.sb.chan;refine mu (rest:=[]) (v:=Tok.val 0 (gl sk p)) rfl rfl (PB.send E.r _ rfl rfl ?_) hch hF ?_
  ·rfl
  refine aZ ?_;simp only[Q3];refine hK.out _ _ ?_;clear hK K;have hS:=AI (I8.out.sent (sd:=sd+1) (k:=sk) (at_:=p) (more:=true));clear hch I8;show cV _ _ _ _ (ay w9 E.r (.chan E.cap (F.push (Tok.val 0 (gl sk p))) false (sd+1) E.rc E.tm));generalize ay w9 E.r (.chan E.cap (F.push (Tok.val 0 (gl sk p))) false (sd+1) E.rc E.tm)=wa at *;refine ae (fun wb he=> ?_);replace hS:=AI (hS.out.ab he);clear he;go_wp2;go_ret;exact⟨rfl,hS.out⟩
 replace hy:=AI (by have:=hy.out;rw[if_neg h2]at this;exact this);have h9:¬ 0≤dH c.toNat:=h2;generalize dH c.toNat=sk at *;refine ag (fun K hK=> ?_);refine ae (fun w8 he=> ?_);replace I8:=AI (I8.out.ab he);clear he;go_wp2;refine hK.out _ _ ?_;clear hK K;refine bS (by simp[No,h9]) (gI ?_);refine hK1.out _ _ ?_;clear hK1 K1 h2 h9;refine ag (fun K1 hK1=> ?_);refine bP (fun a' w'=>Ms (.pointer (some ⟨E.x,0,none⟩)) (.int .i64 p) (.int .u8 c.toNat) (.int .u8 c.toNat) a'∧lq E F w w' (p+1)) ?_ ?_
 ·refine ae (fun w9 he=> ?_);replace I8:=AI (I8.out.ab he);clear he;go_wp2;refine⟨?_,I8.out⟩;exact⟨rfl,rfl,rfl,rfl,rfl,rfl⟩
 intro a w9 ⟨h0,hI⟩;clear I8;have I8:=AI hI;clear hI;obtain⟨u,rfl⟩:=h0.out;have hEl:E.l.length=E.s.size:=by unfold bt.l;rw[← PG]
 refine ek ?_;have h6:∀n:Nat,n<256→((c.toNat:Int)=(n:Int)↔c=n.toUInt8):=fun n hn=>by
  rw[← QC];have:n.toUInt8.toNat=n:=by simp;omega
  rw[this];omega
 by_cases hrep:c=42∨c=43∨c=63∨c=123
 ·have hy:=hy.out;rw[if_pos hrep]at hy;cases hy;refine bP (fun a' w'=>JY (.pointer (some ⟨E.x,0,none⟩)) (.int .i64 p) (.int .u8 c.toNat) (.int .u8 c.toNat) (.bool true) a'∧lq E F w w' (p+1)) ?_ ?_
  ·refine ae (fun wa he=> ?_);replace I8:=AI (I8.out.ab he);clear he h6;rcases hrep with rfl|rfl|rfl|rfl
   all_goals
    go_wp2;refine⟨?_,I8.out⟩;exact⟨rfl,rfl,rfl,rfl,rfl,rfl,rfl⟩
  intro a wa ⟨h0,hI⟩;clear I8;have I8:=AI hI;clear hI;obtain⟨u,rfl⟩:=h0.out;have h7:c.toNat=42∨c.toNat=43∨c.toNat=63∨c.toNat=123:=by
   rcases hrep with rfl|rfl|rfl|rfl
   ·exact .inl rfl
   ·exact .inr (.inl rfl)
   ·exact .inr (.inr (.inl rfl))
   ·exact .inr (.inr (.inr rfl))
  refine bT rfl ?_;have hRp:=AI (fun(u:AS)(hu:SB E u (p+1) F)=>MQ (T:=T) c.toNat p h7 rfl hs (by omega) hu hF);clear hrep h7 h6;refine ag (fun K hK=> ?_);refine aC ?_;show bo _ _ _ (If 0 (3+2)) _ _;refine b8 0 3 2 (fun N hN wd he=> ?_) (by decide);simp only[zq1];have I9:=AI (I8.out.ab he);clear he I8;go_wp2;refine hN.out _ _ ?_;clear hN N;refine bJ (f:=133) (i:=3) (rest:=If 4 (1+0)) rfl rfl (fun u=>by simp[go_sem]) trivial (hRp.out _ I9.out.sb) (fun u wz hr=> ?_) (fun ch wz hr=>(by cases hr.1));obtain⟨hr1,hr⟩:=hr;cases hr1;have hS:=AI (hr.JI I9.out.kp);clear hr;simp only[Q3,zq0];refine b8 4 1 0 (fun N hN wy he=> ?_) (by decide);simp only[zq1];replace hS:=AI (hS.out.ab he);clear he;go_wp2;refine hN.out _ _ (aZ (hK.out _ _ ?_));clear hN N hK K;refine ae (fun wx he=> ?_);replace hS:=AI (hS.out.ab he);clear he;go_wp2;go_ret;exact⟨rfl,hS.out⟩
 replace hy:=AI (by have:=hy.out;rw[if_neg hrep]at this;exact this);refine bP (fun a' w'=>JY (.pointer (some ⟨E.x,0,none⟩)) (.int .i64 p) (.int .u8 c.toNat) (.int .u8 c.toNat) (.bool false) a'∧lq E F w w' (p+1)) ?_ ?_
 ·refine ae (fun wa he=> ?_);replace I8:=AI (I8.out.ab he);have e1:(c.toNat:Int)≠42:=nO (b:=42) rfl fun h=>hrep (.inl h)
  have e2:(c.toNat:Int)≠43:=nO (b:=43) rfl fun h=>hrep (.inr (.inl h))
  have e3:(c.toNat:Int)≠63:=nO (b:=63) rfl fun h=>hrep (.inr (.inr (.inl h)))
  have e4:(c.toNat:Int)≠123:=nO (b:=123) rfl fun h=>hrep (.inr (.inr (.inr h)))
  clear he h6 hrep;go_wp2;refine⟨⟨rfl,rfl,rfl,rfl,rfl,rfl,?_⟩,I8.out⟩;show QL _=_;simp[e4]
 intro a wa ⟨h0,hI⟩;clear I8 hrep;have I8:=AI hI;clear hI;obtain⟨u,rfl⟩:=h0.out;refine bS rfl ?_;by_cases h91:c=91
 ·subst h91;replace hy:=AI (by have:=hy.out;rw[if_pos rfl]at this;exact this);refine ag (fun K hK=> ?_);refine ae (fun wb he=> ?_);replace I8:=AI (I8.out.ab he);clear he h6;go_wp2;refine hK.out _ _ ?_;clear hK K;refine bT rfl ?_;have hi:=AI (fun(u:AS)(hu:SB E u (p+1) F)=>MM (T:=T) p hs (by omega) hu hF hfl hy.out);refine ag (fun K hK=> ?_);refine aC ?_;show bo _ _ _ (If 0 (2+2)) _ _;refine b8 0 2 2 (fun N hN wd he=> ?_) (by decide);simp only[zq1];have I9:=AI (I8.out.ab he);clear he I8;go_wp2;refine hN.out _ _ ?_;clear hN N;refine bJ (f:=134) (i:=2) (rest:=If 3 (1+0)) rfl rfl (fun u=>by simp[go_sem]) trivial (hi.out _ I9.out.sb) (fun u wz hr=> ?_) (fun ch wz hr=>(by cases hr.1));obtain⟨hr1,hr⟩:=hr;cases hr1;have hS:=AI (hr.JI I9.out.kp);clear hr;simp only[Q3,zq0];refine b8 3 1 0 (fun N hN wy he=> ?_) (by decide);simp only[zq1];replace hS:=AI (hS.out.ab he);clear he;go_wp2;refine hN.out _ _ (aZ (hK.out _ _ ?_));clear hN N hK K;refine ae (fun wx he=> ?_);replace hS:=AI (hS.out.ab he);clear he;go_wp2;go_ret;exact⟨rfl,hS.out⟩
 replace hy:=AI (by have:=hy.out;rw[if_neg h91]at this;exact this);refine ag (fun K hK=> ?_);refine ae (fun wb he=> ?_);replace I8:=AI (I8.out.ab he);have e1:(c.toNat:Int)≠91:=nO (b:=91) rfl h91;clear he h6 h91;go_wp2;refine hK.out _ _ ?_;clear hK K;refine bS (by simp[No,e1]) ?_;clear e1;by_cases h46:c=46
 ·subst h46;replace hy:=AI (by have:=hy.out;rw[if_pos rfl]at this;exact this);refine ag (fun K hK=> ?_);refine ae (fun wc he=> ?_);replace I8:=AI (I8.out.ab he);clear he;go_wp2;refine hK.out _ _ ?_;clear hK K;refine bT rfl ?_;have hy:=hy.out;refine hD.out p (.int .u8 ((46:UInt8).toNat:Int)) _ _ (p+1) y _ ?_ I8.out.sb I8.out.kp (Option.some.inj hy).symm (fun a w' h=>h);exact⟨rfl,rfl,rfl,rfl,rfl⟩
 replace hy:=AI (by have:=hy.out;rw[if_neg h46]at this;exact this);refine ag (fun K hK=> ?_);refine ae (fun wc he=> ?_);replace I8:=AI (I8.out.ab he);have e1:(c.toNat:Int)≠46:=nO (b:=46) rfl h46;clear he h46;go_wp2;refine hK.out _ _ ?_;clear hK K;refine bS (by simp[No,e1]) ?_;clear e1;by_cases h92:c=92
 ·subst h92;replace hy:=AI (by have:=hy.out;rw[if_pos rfl]at this;exact this);refine ag (fun K hK=> ?_);refine ae (fun wd he=> ?_);replace I8:=AI (I8.out.ab he);clear he;go_wp2;refine hK.out _ _ ?_;clear hK K;refine bT rfl ?_;refine ag (fun K2 hK2=> ?_);refine ag (fun K hK=> ?_);refine ae (fun w2 he=> ?_);replace I8:=AI (I8.out.ab he);have c0:w2.cell? ⟨E.x,0,none⟩=some (.string E.s):=I8.out.sb.blk.cell 0;have c1:w2.cell? ⟨E.x,1,none⟩=some (.int .i64 ((p+1:Nat):Int)):=I8.out.sb.blk.cell 1;obtain⟨p1,h1⟩:∃p1,p1=p+1:=⟨_,rfl⟩;rw[← h1]at c1;replace h1:=AI h1;clear he;go_quiet (fail)
  refine hK.out _ _ ?_;clear hK K c0 c1;replace I8:=AI (I8.out.ab (w':=w2.drewN nq) rfl);generalize w2.drewN nq=w3 at *;rw[← h1.out]at I8 hy;have hp1s:p1≤E.s.size:=by have:=h1.out;omega
  by_cases hpe:p1=E.s.size
  ·have hd:E.l.drop p1=[]:=Qz (by rw[hEl,hpe];exact IN _);have hpe':(p1:Int)=(E.s.size:Int):=by omega
   have hy':y=dC 2 p p1:=by
    have hy2:=hy.out;rw[hd]at hy2;rw[(Option.some.inj hy2).symm,h1.out]
   subst hy';refine bT (by simp[No,hpe']) ?_;clear hd hpe hpe';refine ag (fun K hK=> ?_);refine aC ?_;show bo _ _ _ (If 0 (2+2)) _ _;refine b8 0 2 2 (fun N hN wb he=> ?_) (by decide);simp only[zq1];have I9:=AI (I8.out.ab he);clear he I8;go_wp2;refine hN.out _ _ ?_;clear hN N;refine bJ (f:=138) (i:=2) (rest:=If 3 (1+0)) rfl rfl (fun u=>by simp[go_sem]) trivial (nE 2 p I9.out.sb hF) (fun u wz hr=> ?_) (fun ch wz hr=>(by cases hr.1));obtain⟨hr1,hr⟩:=hr;cases hr1;have hS:=AI (hr.from I9.out.kp);clear hr;simp only[Q3,zq0];refine b8 3 1 0 (fun N hN wy he=> ?_) (by decide);simp only[zq1];replace hS:=AI (hS.out.ab he);clear he;go_wp2;refine hN.out _ _ (aZ (hK.out _ _ ?_));clear hN N hK K;refine ae (fun wx he=> ?_);replace hS:=AI (hS.out.ab he);clear he;go_wp2;go_ret;exact⟨rfl,hS.out⟩
  have hlt1:p1<E.s.size:=by omega
  have hd:E.l.drop p1=E.s[p1]::E.l.drop (p1+1):=drop_at E.s p1 hlt1;have hy:=hy.out;rw[hd]at hy;dsimp only at hy;have hpe':¬ (p1:Int)=(E.s.size:Int):=by omega
  refine bS (by simp[No,hpe']) (gI ?_);refine hK2.out _ _ ?_;clear hK2 K2 hpe hpe' hd;have hp2:(p1:Int)<(E.s.size:Int):=by omega
  have hg:=E.s[p1].toNat_lt;generalize hdd:E.s[p1]=d at hy hg;replace hy:=AI hy;refine bP (fun a' w'=>wv (.pointer (some ⟨E.x,0,none⟩)) (.int .i64 p) (.int .u8 d.toNat) a'∧lq E F w w' p1) ?_ ?_
  ·refine ae (fun w5 he=> ?_);replace I8:=AI (I8.out.ab he);have c0:w5.cell? ⟨E.x,0,none⟩=some (.string E.s):=I8.out.sb.blk.cell 0;have c1:w5.cell? ⟨E.x,1,none⟩=some (.int .i64 p1):=I8.out.sb.blk.cell 1;clear he;subst hdd;go_quiet (fail)
   refine⟨?_,I8.out.ab (w':=w5.drewN nq) rfl⟩;exact⟨rfl,rfl,rfl,rfl,rfl⟩
  intro a w5 ⟨h0,hI⟩;clear I8;have I8:=AI hI;clear hI;obtain⟨u,rfl⟩:=h0.out;replace hdd:=AI hdd;have hw1:IntKind.i64.wrap ((p1:Int)+1)=((p1+1:Nat):Int):=by rw[OF];omega
  refine bP (fun a' w'=>wv (.pointer (some ⟨E.x,0,none⟩)) (.int .i64 p) (.int .u8 d.toNat) a'∧lq E F w w' (p1+1)) ?_ ?_
  ·refine ae (fun w6 he=> ?_);replace I8:=AI (I8.out.ab he);have c1:w6.cell? ⟨E.x,1,none⟩=some (.int .i64 p1):=I8.out.sb.blk.cell 1;have f1:∀i,w6.frozen? ⟨E.x,i,none⟩=false:=I8.out.sb.blk.frozen;clear he;go_wp2;refine⟨?_,I8.out.move (q:=p1+1)⟩;exact⟨rfl,rfl,rfl,rfl,rfl⟩
  intro a w6 ⟨h0,hI⟩;clear I8 hw1;have I8:=AI hI;clear hI;obtain⟨u,rfl⟩:=h0.out;refine ag (fun K2 hK2=> ?_);by_cases h3:49≤d.toNat∧d.toNat≤57
  ·have hy':y=dC 3 p (p1+1):=by
    have hy2:=hy.out;rw[if_pos h3]at hy2;rw[(Option.some.inj hy2).symm,h1.out]
   subst hy';have e1:(49:Int)≤(d.toNat:Int):=by omega
   have e2:(d.toNat:Int)≤57:=by omega
   refine ag (fun K hK=> ?_);refine ae (fun w7 he=> ?_);replace I8:=AI (I8.out.ab he);clear he h3;go_wp2;refine hK.out _ _ ?_;clear hK K;refine bT (by simp[No,e1,e2]) ?_;refine ag (fun K hK=> ?_);refine aC ?_;show bo _ _ _ (If 0 (2+2)) _ _;refine b8 0 2 2 (fun N hN wb he=> ?_) (by decide);simp only[zq1];have I9:=AI (I8.out.ab he);clear he I8;go_wp2;refine hN.out _ _ ?_;clear hN N;refine bJ (f:=138) (i:=2) (rest:=If 3 (1+0)) rfl rfl (fun u=>by simp[go_sem]) trivial (nE 3 p I9.out.sb hF) (fun u wz hr=> ?_) (fun ch wz hr=>(by cases hr.1));obtain⟨hr1,hr⟩:=hr;cases hr1;have hS:=AI (hr.from I9.out.kp);clear hr;simp only[Q3,zq0];refine b8 3 1 0 (fun N hN wy he=> ?_) (by decide);simp only[zq1];replace hS:=AI (hS.out.ab he);clear he;go_wp2;refine hN.out _ _ (aZ (hK.out _ _ ?_));clear hN N hK K;refine ae (fun wx he=> ?_);replace hS:=AI (hS.out.ab he);clear he;go_wp2;go_ret;exact⟨rfl,hS.out⟩
  replace hy:=AI (by have:=hy.out;rw[if_neg h3]at this;exact this);refine bP (fun a' w'=>Mt (.pointer (some ⟨E.x,0,none⟩)) (.int .i64 p) (.int .u8 d.toNat) (.bool false) a'∧lq E F w w' (p1+1)) ?_ ?_
  ·refine ae (fun w7 he=> ?_);replace I8:=AI (I8.out.ab he);by_cases h4:49≤d.toNat
   ·have e1:(49:Int)≤(d.toNat:Int):=by omega
    have e2:¬ (d.toNat:Int)≤57:=by omega
    clear he h3;go_wp2;refine⟨⟨rfl,rfl,rfl,rfl,rfl,?_⟩,I8.out⟩;show QL _=_;simp[e1,e2]
   ·have e1:¬ (49:Int)≤(d.toNat:Int):=by omega
    clear he h3;go_wp2;refine⟨⟨rfl,rfl,rfl,rfl,rfl,?_⟩,I8.out⟩;show QL _=_;simp[e1]
  intro a w7 ⟨h0,hI⟩;clear I8;have I8:=AI hI;clear hI;obtain⟨u,rfl⟩:=h0.out;refine bS rfl (gI ?_);refine hK2.out _ _ ?_;clear hK2 K2 h3;have h8:∀(w:AS),Calls PB 139 #[.string ⟨#[40,41,91,46,94,36,92,124,42,43,63,123,93,125]⟩,.int .u8 d.toNat] w fun e w'=>e= .returned (.int .i64 (PX sE d))∧w'=w:=fun w=>by
   have:=xe ⟨#[40,41,91,46,94,36,92,124,42,43,63,123,93,125]⟩ d.toNat w;rw[show d.toNat.toUInt8=d from by simp]at this;exact this
  replace h8:=AI h8;generalize hj:PX sE d=ix at *;refine ag (fun K hK=> ?_);refine ae (fun w8 he=> ?_);replace I8:=AI (I8.out.ab he);clear he hj;go_wp2_with (first |(go_at_call 139;refine(h8.out _).mono ?_;rintro e w' ⟨rfl,rfl⟩)|fail)
  refine hK.out _ _ ?_;clear hK K h8;have hy:=hy.out;by_cases h5:ix<0
  ·have hy':y=dC 2 p (p1+1):=by
    rw[if_pos h5]at hy;rw[(Option.some.inj hy).symm,h1.out]
   subst hy';refine bT (by simp[No,h5]) ?_;refine ag (fun K hK=> ?_);refine aC ?_;show bo _ _ _ (If 0 (2+2)) _ _;refine b8 0 2 2 (fun N hN wb he=> ?_) (by decide);simp only[zq1];have I9:=AI (I8.out.ab he);clear he I8;go_wp2;refine hN.out _ _ ?_;clear hN N;refine bJ (f:=138) (i:=2) (rest:=If 3 (1+0)) rfl rfl (fun u=>by simp[go_sem]) trivial (nE 2 p I9.out.sb hF) (fun u wz hr=> ?_) (fun ch wz hr=>(by cases hr.1));obtain⟨hr1,hr⟩:=hr;cases hr1;have hS:=AI (hr.from I9.out.kp);clear hr;simp only[Q3,zq0];refine b8 3 1 0 (fun N hN wy he=> ?_) (by decide);simp only[zq1];replace hS:=AI (hS.out.ab he);clear he;go_wp2;refine hN.out _ _ (aZ (hK.out _ _ ?_));clear hN N hK K;refine ae (fun wx he=> ?_);replace hS:=AI (hS.out.ab he);clear he;go_wp2;go_ret;exact⟨rfl,hS.out⟩
  rw[if_neg h5]at hy;refine bS (by simp[No];omega) (gI ?_);refine hK1.out _ _ ?_;refine hT.out p d.toNat _ _ (p1+1) y _ hg ?_ I8.out.sb I8.out.kp ?_ (fun a w' h=>h)
  ·exact⟨rfl,rfl,rfl,rfl,rfl⟩
  ·rw[(Option.some.inj hy).symm,h1.out]
 replace hy:=AI (by have:=hy.out;rw[if_neg h92]at this;exact this);refine ag (fun K hK=> ?_);refine ae (fun wd he=> ?_);replace I8:=AI (I8.out.ab he);have e1:(c.toNat:Int)≠92:=nO (b:=92) rfl h92;clear he h92;go_wp2;refine hK.out _ _ ?_;clear hK K;refine bS (by simp[No,e1]) (gI ?_);clear e1;refine hK1.out _ _ ?_;have hy:=hy.out;refine hT.out p c.toNat _ _ (p+1) y _ ha ?_ I8.out.sb I8.out.kp (Option.some.inj hy).symm (fun a w' h=>h);exact⟨rfl,rfl,rfl,rfl,rfl⟩
theorem LS{E:bt}{F:Array AT}{w:AS}{y:dF}{p:Nat}(hs:E.s.size≤1000)(hF:F.size<E.cap)(hfl:E.fl<256)(h0:p≤E.s.size)(h:SB E w p F)(hy:bG E.ln E.fold E.l p=some y):
 dh (aK T) 116 #[.pointer (some ⟨E.x,0,none⟩)] w (qY E F w y):=
 cF trivial (fun w' h=>nomatch h.1) (PB.func Tryz.func116 (by decide)) rfl (G5 rfl hs hF hfl h0 h hy rfl)
end
section
open Go.RowKit
attribute [local instance] dP
variable{T:bw PB}
theorem z6{t:Tok}(h:t.bad=false)(e e':Nat):Tok.val e t=Tok.val e' t:=by
 unfold Tok.val gN;rw[h];rfl
structure nD(E:bt)(ob xb:Nat)(w:AS):Prop where
 o:w.cell? ⟨ob,0,none⟩=some (.chan (some E.r))
 x:w.cell? ⟨xb,0,none⟩=some (.pointer (some ⟨E.x,0,none⟩))
theorem nD.ab{E:bt}{ob xb:Nat}{w w':AS}(h:nD E ob xb w)(he:w'.heap=w.heap):nD E ob xb w':=⟨by unfold PZ;rw[he];exact h.o,by unfold PZ;rw[he];exact h.x⟩
theorem cell_lt{w:AS}{b i:Nat}{v:AT}(h:w.cell? ⟨b,i,none⟩=some v):b<w.heap.size:=by
 rcases Qa b w.heap.size with hlt|hge
 ·exact hlt
 ·unfold PZ at h;rw[Q2 hge]at h;cases h
theorem nD.kp{E:bt}{ob xb:Nat}{w w':AS}(h:nD E ob xb w){X:List Nat}(hk:Kp w.heap.size X w w')(ho:ob∉X)(hx:xb∉X):nD E ob xb w':=
 ⟨(iN (hk.2 _ (cell_lt h.o) ho) 0).trans h.o,(iN (hk.2 _ (cell_lt h.x) hx) 0).trans h.x⟩
def NQ(ats:Array Ql)(ty:Ql)(cs:Array Bool)(r:Nat):Deferred:= {target:=.builtin .close ats ty cs,args:=#[.chan (some r)]}
def JP(E:bt)(ob xb:Nat)(a:Act):Prop:=∃u2 u3 u4 ats ty cs,a= {tmps:=#[.pointer (some ⟨ob,0,none⟩),.pointer (some ⟨xb,0,none⟩),u2,u3,u4],defers:=[NQ ats ty cs E.r]}
structure JO(E:bt)(ob xb:Nat)(all:List Tok)(wr:Option (Int×Int))(w0:AS)(n:Nat)(w:AS):Prop where
 box:nD E ob xb w
 kp:Kp w0.heap.size [E.x,E.r] w0 w
 go:∃p F done rest,SB E w p F∧p≤E.s.size∧F.size+n≤E.cap∧F.toList=done.map (Tok.val 0)∧(∀t∈done,t.bad=false)∧eE E.ln E.fold E.l n p=some (rest,wr)∧all=done++rest
structure JQ(E:bt)(all:List Tok)(wr:Option (Int×Int))(w0:AS)(w:AS):Prop where
 kp:Kp w0.heap.size [E.x,E.r] w0 w
 go:∃p F e,SB E w p F∧F.toList=all.map (Tok.val e)∧∀q,wr=some q→ac w e 137 #[.int .i64 q.2,.int .i64 q.1]∧w0.heap.size≤e
set_option maxRecDepth 100000 in
theorem ET{E:bt}{ob xb:Nat}{all:List Tok}{wr:Option (Int×Int)}{w:AS}(hs:E.s.size≤1000)(hcap:E.s.size+1≤E.cap)(hfl:E.fl<256)(h:SB E w 0 #[])(hb:nD E ob xb w)(ho:ob∉[E.x,E.r])(hx:xb∉[E.x,E.r])
 (hall:eE E.ln E.fold E.l (E.l.length+1) 0=some (all,wr)) {c:Code} (hc:(Tryz.f115).body=some c):
 cV (aK T) c (fun e a w'=>e= .normal∧JP E ob xb a∧JQ E all wr w w') {tmps:=#[.pointer (some ⟨ob,0,none⟩),.pointer (some ⟨xb,0,none⟩)]++Qt (5-2) undef,defers:=[]} w:=by
 cases hc;have hEl:E.l.length=E.s.size:=by unfold bt.l;rw[← PG]
 simp only[PU,PN,PW,Qd,Qc,PM,PL,Q4,PP,Q7,Q6];have I0:JO E ob xb all wr w (E.l.length+1) w:=⟨hb,Kp.refl w,0,#[],[],all,h,Qr _,by rw[hEl];simp;omega,rfl,(fun t h=>by cases h),hall,rfl⟩;clear h hb hall;refine bP (fun a w'=>JP E ob xb a∧JO E ob xb all wr w (E.l.length+1) w') ?_ ?_
 ·refine ae (fun w1 he=> ?_);have hI1:JO E ob xb all wr w (E.l.length+1) w1:=by
   obtain⟨p,F,d,r,h1,h2⟩:=I0.go;exact⟨I0.box.ab he,I0.kp.ab he,p,F,d,r,h1.ab he,h2⟩
  have c0:w1.cell? ⟨ob,0,none⟩=some (.chan (some E.r)):=hI1.box.o;replace hI1:=AI hI1;clear I0 he;go_wp2;exact⟨⟨_,_,_,_,_,_,rfl⟩,hI1.out⟩
 ·intro a w1 ⟨h8,hI⟩;refine ek ?_;refine mj (fun n a w'=>JP E ob xb a∧JO E ob xb all wr w n w') (E.l.length+1) ⟨h8,hI⟩ ?_;clear I0 h8 hI;rintro n a w2 ⟨⟨u2,u3,u4,ats,ty,cs,rfl⟩,hI⟩;obtain⟨p,F,done,rest,hB,hp,hF,h5,h0,hsc,hal⟩:=hI.go;cases n with
  |zero=>cases hsc
  |succ n=>
  unfold eE at hsc;obtain⟨y,hy,hp1,hp2,hp3,hok⟩:=eX E.ln E.fold E.l p (by rw[hEl];exact hp);rw[hy]at hsc;dsimp only at hsc;have h3:=AI hI.box;have h4:=AI hI.kp;clear hI;refine ag (fun K hK=> ?_);refine ag (fun K2 hK2=> ?_);refine aC ?_;show bo _ _ _ (If 0 (1+1)) _ _;refine b8 0 1 1 (fun N hN w3 he=> ?_) (by decide);simp only[zq1];replace hB:=AI (hB.ab he);replace h3:=AI (h3.out.ab he);replace h4:=AI (h4.out.ab he);have c1:w3.cell? ⟨xb,0,none⟩=some (.pointer (some ⟨E.x,0,none⟩)):=h3.out.x;replace hsc:=AI hsc;replace hal:=AI hal;replace h5:=AI h5;replace h0:=AI h0;clear he;go_wp2;refine hN.out _ _ ?_;clear hN N c1;refine bJ (f:=116) (i:=1) (rest:=[]) rfl rfl (fun u=>by simp[go_sem]) trivial (LS hs (by omega) hfl hp hB.out hy) (fun u we hr=> ?_) (fun ch we hr=>(by cases hr.1));obtain⟨hr1,e,h9,ha,hd⟩:=hr;cases hr1;refine aZ (hK2.out _ _ ?_);simp only[Q3,zq0];clear hK2 K2;have h7:=h3.out.kp hd ho hx;have h6:Kp w.heap.size [E.x,E.r] w we:=h4.out.trans (hd.mono h4.out.1 fun x hx _=>hx);cases hm:y.more with
  |true=>
   have hsc2:=hsc.out;rw[if_pos hm,PD]at hsc2;obtain⟨⟨ts,wr'⟩,hg,heq⟩:=hsc2;simp only[Prod.mk.injEq]at heq;obtain⟨rfl,rfl⟩:=heq;have hf:y.t.bad=false:=by rw[hok.bad,hok.wrn hm];rfl
   refine bT (by simp[No]) (gI ?_);refine hK.out _ _ ?_;refine ek (gI ?_);refine⟨n,R1 n,⟨_,_,_,_,_,_,rfl⟩,h7,h6,y.p,F.push (Tok.val e y.t),done++[y.t],ts,h9,by omega,by simp;omega,?_,fun t ht=> ?_,hg,by rw[hal.out];simp⟩
   ·rw[Array.toList_push,h5.out,List.map_append,z6 hf e 0];rfl
   ·rcases List.mem_append.1 ht with ht|ht
    ·exact h0.out t ht
    ·rw[By.1 ht];exact hf
  |false=>
   have hsc:=hsc.out;rw[if_neg (by rw[hm];simp)]at hsc;simp only[Option.some.injEq,Prod.mk.injEq]at hsc;obtain⟨rfl,rfl⟩:=hsc;refine bS (by simp[No]) (Hn ?_);refine⟨rfl,⟨_,_,_,_,_,_,rfl⟩,h6,y.p,F.push (Tok.val e y.t),e,h9,?_,fun q hq=>⟨(ha q hq).1,Qk h4.out.1 (ha q hq).2⟩⟩;rw[Array.toList_push,h5.out,hal.out,List.map_append];congr 1
   exact List.map_congr_left fun t ht=>z6 (h0.out t ht) 0 e
end
section
open Go.RowKit
attribute [local instance] dP
variable{T:bw PB}
def AN:PY:= {(default:PY)with fn:=115,kind:=.deferred}
noncomputable def lj:PY:= {(default:PY)with fn:=Tryz.prog.funcs.size,mode:=.panicking [goexitEntry]}
def rv(E:bt)(ob xb:Nat)(all:List Tok)(wr:Option (Int×Int))(D0:PY)(w0:AS)(g:PK)(w:AS):Prop:=
 ∃a,g=bY {AN.at a []with mode:=.returning} [lj,D0]∧JP E ob xb a∧JQ E all wr w0 w
theorem ES{E:bt}{ob xb:Nat}{all:List Tok}{wr:Option (Int×Int)}{w:AS}{D0:PY}(hs:E.s.size≤1000)(h0:E.s.size+1≤E.cap)(hfl:E.fl<256)(h:SB E w 0 #[])(hb:nD E ob xb w)(ho:ob∉[E.x,E.r])(hx:xb∉[E.x,E.r])
 (hall:eE E.ln E.fold E.l (E.l.length+1) 0=some (all,wr)):
 (aK T).H (rv E ob xb all wr D0 w) (bY {lj with defers:=[{target:=.fn (.func 115) #[.pointer (some ⟨ob,0,none⟩),.pointer (some ⟨xb,0,none⟩)],args:=#[]}]} [D0]) w:=by
 obtain⟨c,hc⟩:∃c,(Tryz.f115).body=some c:=⟨_,rfl⟩;have hbody:= @ET T E ob xb all wr w hs h0 hfl h hb ho hx hall c hc;have hent:Qs PB 115 #[.pointer (some ⟨ob,0,none⟩),.pointer (some ⟨xb,0,none⟩)] .deferred=AN.at {tmps:=#[.pointer (some ⟨ob,0,none⟩),.pointer (some ⟨xb,0,none⟩)]++Qt (5-2) undef,defers:=[]} [.code c]:=by
  have hf:=PB.func Tryz.func115 (by decide);simp[Qs,Frame.at,hf,hc,AN,Tryz.ntmps115]
 refine(aK T).one (fr':=Qs PB 115 #[.pointer (some ⟨ob,0,none⟩),.pointer (some ⟨xb,0,none⟩)] .deferred) (cs':=lj::[D0]) (fun u=>step_defer (by simp[lj]) rfl rfl ?_) trivial ?_
 ·exact ao (PB.func Tryz.func115 (by decide)) (by kernel_rfl) rfl _ u
 rw[hent];refine hbody AN [] [lj,D0] _ trivial (by simp[AN]) fun e a' w' hq=> ?_
 obtain⟨rfl,h1,h2⟩:=hq;exact(aK T).one (fun u=>step_end) trivial ((aK T).stop _ _ _ ⟨a',rfl,h1,h2⟩)
end
section
open Go.RowKit Go.Conc
attribute [local instance] mb
theorem uC(w:AS)(τ:Nat→QV→Nat)(d:Nat)(a:Addr):(af w τ d).cell? a=w.cell? a:=rfl
theorem vR(w:AS)(τ:Nat→QV→Nat)(d:Nat)(a:Addr):(af w τ d).frozen? a=w.frozen? a:=rfl
theorem kJ(w:AS)(τ:Nat→QV→Nat)(d:Nat)(o:Obj):(af w τ d).alloc o=af (w.alloc o) τ d:=rfl
theorem tP(w:AS)(τ:Nat→QV→Nat)(d:Nat)(a:Addr)(v:AT):(af w τ d).setCell a v=af (w.setCell a v) τ d:=rfl
theorem lN(w:AS)(τ:Nat→QV→Nat)(d:Nat):(af w τ d).heap=w.heap:=rfl
theorem IL{P:IS}{f:Nat}{fn:Func}{c:Code}(hf:P.funcs[f]?=some fn)(hb:fn.body=some c)(args:Array AT):Hu P (BY f args):=by
 unfold BY;refine⟨?_⟩;show iy P 0 (match P.funcs[f]? with |none=>_|some fn=>_);rw[hf];dsimp only;rw[hb];simp only[Option.isNone_some,Bool.false_eq_true,if_false];exact(fL zq2 zq2:Hu P (if(fn.name== "runtime.NumGoroutine")=true then pure Next.numGoroutine else pure (.enter f args))).hu
theorem FB{P:IS}{f:Nat}{fn:Func}{c:Code}(hf:P.funcs[f]?=some fn)(hb:fn.body=some c)(hn:(fn.name== "runtime.NumGoroutine")=false)(args:Array AT)(w:AS):(BY f args).run P w= .ok (.enter f args) w:=by
 unfold BY;show Sem.run P (match P.funcs[f]? with |none=>_|some fn=>_) w=_;rw[hf];dsimp only;rw[hb,hn];rfl
def JX(v14 v15:AT)(a:Act):Prop:=a.defers=[]∧a.tmps.size=29∧a.tmps.getD 14 undef=v14∧a.tmps.getD 15 undef=v15
theorem JX.out{v14 v15:AT}{a:Act}(h:JX v14 v15 a):∃u:Nat→AT,a= {tmps:=(u 0::u 1::u 2::u 3::u 4::u 5::u 6::u 7::u 8::u 9::u 10::u 11::u 12::u 13::v14::v15::u 16::u 17::u 18::u 19::u 20::u 21::u 22::u 23::u 24::u 25::u 26::u 27::u 28::[]).toArray,defers:=[]}:=by
 obtain⟨hd,hn,rfl,rfl⟩:=h;obtain⟨ts,ds⟩:=a;dsimp only at hd hn ⊢;subst hd;refine⟨fun i=>ts.getD i undef,?_⟩;exact congrArg (fun t=>({tmps:=t,defers:=[]}:Act)) (du 29 ts hn)
section
variable(w:AS)(s:ByteArray)(fl:Nat)(fold:Bool)
def xX:AS:=w.alloc (.chan 0 #[] false 0 0 false)
def Ai:AS:=(xX w).alloc (.cells #[.chan none] 239)
def om:AS:=(Ai w).setCell ⟨w.heap.size+1,0,none⟩ (.chan (some w.heap.size))
def Cy:AS:=(om w).alloc (.cells (jb s 0 fl w.heap.size fold) 243)
def Gu:AS:=(Cy w s fl fold).alloc (.cells #[.pointer none] 240)
def fM:AS:=(Gu w s fl fold).setCell ⟨w.heap.size+3,0,none⟩ (.pointer (some ⟨w.heap.size+2,0,none⟩))
end
def goT(n:Nat)(s:ByteArray)(fl:Nat):Act:= {tmps:=#[.string s,.int .u8 fl,undef,undef,.chan none,vp (n+1),vp (n+3),.chan (some n),.string s,.int .u8 fl,.chan (some n),.int .u8 fl,.int .u8 ((fl%2:Nat):Int),.bool (decide (fl%2=1)),.agg (jb s 0 fl n (decide (fl%2=1))),vp (n+2),.func (.func 115) #[] #[vp (n+1),vp (n+3)],undef],defers:=[]}
theorem M8(n:Nat)(s:ByteArray)(fl:Nat):Hc (vp (n+1)) (goT n s fl):=⟨rfl,rfl,rfl⟩
theorem and_one{fl:Nat}(h:fl<256):bits .and .u8 (fl:Int) 1=(fl:Int)%2:=by
 rw[Kc fl h];split <;>omega
set_option maxRecDepth 100000 in
set_option maxHeartbeats 4000000 in
theorem EU{R:Machine→Trace→Prop}{t0 t1 t2 t4 t5 p0 p1 p4:Code}{iT iP:Nat}{opsT opsP:Array Oper}{kP:List Item}{cs:List PY}{w:AS}{aP:Act}{s:ByteArray}{fl:Nat}
 (hP:(Tryz.f53).body=some (.seq p0 (.seq p1 (.seq (.region iP opsP false) p4)))) (h0:JX (.string s) (.int .u8 fl) aP) (hfl:fl<256)
 (hT:(Tryz.f91).body=some (.seq t0 (.seq t1 (.seq t2 (.seq (.region iT opsT false) (.seq t4 t5))))))
 (H:∀gs sl q τ d t k,k≠0→dj Tryz.prog k (G (oz.at (goT w.heap.size s fl) (.inRegion opsT []::[.code (.seq t4 t5)])) (gi.at aP (.inRegion opsP [2,3,4,5,6]::kP)::cs))
  (born Tryz.prog {target:=.fn (.func 115) #[vp (w.heap.size+1),vp (w.heap.size+3)],args:=#[]}) gs q t→PT k (fun _=>False) (fun _=>False) t→Runs Tryz.prog (crowd gs (af (fM w s fl (decide (fl%2=1))) τ d) sl) t R):
 cR Tryz.prog R (G (gi.at aP (.inRegion opsP [2,3,4,5,6]::kP)) cs) w:=by
 intro m t hF;cases hP;obtain⟨u,rfl⟩:=h0.out;refine hF.enter (f:=91) (args:=#[.string s,.int .u8 fl]) rfl (by rfl) (by simp[gi]) ?_ Tryz.func91 hT (fun τ d=> ?_) ?_
 ·show Hu Tryz.prog (BY 91 _);exact IL Tryz.func91 hT _
 ·have:=FB Tryz.func91 hT (by kernel_rfl) #[.string s,.int .u8 fl] (af w τ d);simp[Qf,go_sem,No,this]
 show cR Tryz.prog R _ _;clear hF;generalize gi.at _ _::cs=cs2 at H ⊢;cases hT;rw[show(Tryz.f91).ntmps=18 from Tryz.ntmps91];simp only[PU,PN,PW,Qd,Qc,PM,PL,Q4,PP,Q7,Q6];refine cR.ctl (fun w=>stepG_seq) rfl ?_;refine cR.ctl (fun w=>stepG_region) rfl ?_;refine cR.value (v:=.chan none) w rfl rfl (by simp[base]) (fun c h=>by cases h) (fun τ d=>by rfl) ?_;walk_nrm
 refine cR.ctl (fun w=>stepG_region_end) rfl ?_;refine cR.ctl (fun w=>stepG_seq) rfl ?_;refine cR.ctl (fun w=>stepG_region) rfl ?_;refine cR.value (v:=.chan (some w.heap.size)) (xX w) rfl rfl (by simp[base]) (fun c h=>by cases h) (fun τ d=> ?_) ?_
 ·obtain⟨i,hi⟩:∃i,Tryz.prog.info? 195=some i:=⟨_,rfl⟩;have:=run_makeChan (P:=Tryz.prog) (w:=af w τ d) (t:=239) (dir:=.both) (e:=195) (i:=i) (by kernel_rfl) hi .i64 0 (by decide) (by simp);simp[Qf,go_sem,No];rw[show(Value.int IntKind.i64 0)= .int .i64 ((0:Nat):Int)from rfl,this];simp[xX,kJ,lN]
 walk_nrm
 refine cR.value (v:=.pointer (some ⟨w.heap.size+1,0,none⟩)) (Ai w) rfl rfl (by simp[base]) (fun c h=>by cases h) (fun τ d=> ?_) ?_
 ·simp[Qf,go_sem,No,Ai,xX,kJ,lN]
 walk_nrm
 refine cR.none (om w) rfl rfl (by simp[base]) (fun c h=>by cases h) (fun τ d=> ?_) ?_
 ·simp[Qf,go_sem,No,om,Ai,xX,uC,vR,kJ,lN,tP]
 walk_nrm
 have c1:(om w).cell? ⟨w.heap.size+1,0,none⟩=some (.chan (some w.heap.size)):=by
  simp[om,Ai,xX,go_sem]
 have z3:(om w).heap.size=w.heap.size+2:=by simp[om,Ai,xX]
 refine cR.ctl (fun w=>stepG_region_end) rfl ?_;refine cR.ctl (fun w=>stepG_seq) rfl ?_;refine cR.ctl (fun w=>stepG_region) rfl ?_;refine cR.value (v:=.string s) (om w) rfl rfl (by simp[base]) (fun c h=>by cases h) (fun τ d=>by rfl) ?_;walk_nrm
 refine cR.value (v:=.int .u8 fl) (om w) rfl rfl (by simp[base]) (fun c h=>by cases h) (fun τ d=>by rfl) ?_;walk_nrm
 refine cR.value (v:=.chan (some w.heap.size)) (om w) rfl rfl (by simp[base]) (fun c h=>by cases h) (fun τ d=> ?_) ?_
 ·simp[Qf,go_sem,No,uC,c1]
 walk_nrm
 refine cR.value (v:=.int .u8 fl) (om w) rfl rfl (by simp[base]) (fun c h=>by cases h) (fun τ d=>by rfl) ?_;walk_nrm
 refine cR.value (v:=.int .u8 ((fl%2:Nat):Int)) (om w) rfl rfl (by simp[base]) (fun c h=>by cases h) (fun τ d=> ?_) ?_
 ·simp[Qf,go_sem,No];exact and_one hfl
 walk_nrm
 refine cR.value (v:=.bool (decide (fl%2=1))) (om w) rfl rfl (by simp[base]) (fun c h=>by cases h) (fun τ d=> ?_) ?_
 ·simp[Qf,go_sem,No];rcases Nat.mod_two_eq_zero_or_one fl with h|h
  ·have:((fl:Int)%2)=0:=by omega
   simp[h,this]
  ·have:((fl:Int)%2)=1:=by omega
   simp[h,this]
 walk_nrm
 refine cR.value (v:=.agg (jb s 0 fl w.heap.size (decide (fl%2=1)))) (om w) rfl rfl (by simp[base]) (fun c h=>by cases h) (fun τ d=> ?_) ?_
 ·simp[Qf,go_sem,No];simp[jb]
 walk_nrm
 refine cR.value (v:=.pointer (some ⟨w.heap.size+2,0,none⟩)) (Cy w s fl (decide (fl%2=1))) rfl rfl (by simp[base]) (fun c h=>by cases h) (fun τ d=> ?_) ?_
 ·simp[Qf,go_sem,No,Cy,kJ,lN,z3]
 walk_nrm
 refine cR.value (v:=.pointer (some ⟨w.heap.size+3,0,none⟩)) (Gu w s fl (decide (fl%2=1))) rfl rfl (by simp[base]) (fun c h=>by cases h) (fun τ d=> ?_) ?_
 ·simp[Qf,go_sem,No,Gu,Cy,kJ,lN,z3]
 walk_nrm
 refine cR.none (fM w s fl (decide (fl%2=1))) rfl rfl (by simp[base]) (fun c h=>by cases h) (fun τ d=> ?_) ?_
 ·simp[Qf,go_sem,No,fM,Gu,Cy,uC,vR,kJ,lN,tP,z3]
 walk_nrm
 refine cR.ctl (fun w=>stepG_region_end) rfl ?_;refine cR.ctl (fun w=>stepG_seq) rfl ?_;refine cR.ctl (fun w=>stepG_region) rfl ?_;refine cR.value (v:=.func (.func 115) #[] #[.pointer (some ⟨w.heap.size+1,0,none⟩),.pointer (some ⟨w.heap.size+3,0,none⟩)]) (fM w s fl (decide (fl%2=1))) rfl rfl (by simp[base]) (fun c h=>by cases h) (fun τ d=> ?_) ?_
 ·simp[Qf,go_sem,No]
 walk_nrm
 refine cR.hire (d0:= {target:=.fn (.func 115) #[vp (w.heap.size+1),vp (w.heap.size+3)],args:=#[]}) rfl rfl (by simp[base]) (fun τ d=> ?_) (fun τ d=> ?_) rfl ?_
 ·simp[Qf,go_sem,No]
 ·simp[Qf,go_sem,No]
 walk_nrm
 exact H
end
section
open Go.RowKit Go.Conc
attribute [local instance] dP
def DX:PY:= {(default:PY)with todo:=[.code (.refuse "")],defers:=[{target:=.fn (.func 0) #[],args:=#[]}]}
theorem JH:∃fn,Tryz.prog.funcs[0]?=some fn:=by
 have h:(Tryz.prog.funcs[0]?).isSome=true:=by kernel_rfl
 exact Qu.1 h
theorem NP:mi Tryz.prog bA DX:=by
 obtain⟨fn,hf⟩:=JH;obtain⟨c,hc⟩:∃c,bA 0=some c:=⟨_,rfl⟩;obtain⟨why,rfl⟩:=fC _ _ _ hc;exact⟨⟨⟨_,rfl⟩,rfl⟩,0,fn,why,rfl,hc,hf⟩
theorem NO:mi Tryz.prog bB DX:=by
 obtain⟨fn,hf⟩:=JH;obtain⟨c,hc⟩:∃c,bB 0=some c:=⟨_,rfl⟩;obtain⟨why,rfl⟩:=fC _ _ _ hc;exact⟨⟨⟨_,rfl⟩,rfl⟩,0,fn,why,rfl,hc,hf⟩
theorem xZ{Q:IS}{β:Nat→Option Code}(hβ:ir β){g:PK}(h:pU Q β g):∃why,g.frame.todo=[.code (.refuse why)]:=by
 obtain⟨f,args,k,h0,h1,hst,hdy⟩:=h;obtain⟨c,hc⟩:=Qu.1 h1;obtain⟨why,rfl⟩:=hβ f c hc;rw[h0];unfold Qs;have hget:= @fN Q β f;rw[hget];cases hf:Q.funcs[f]? with
 |none=>exact⟨_,rfl⟩
 |some fn=>
  refine⟨why,?_⟩;have:(aw β f fn).body=some (.refuse why):=by unfold aw;rw[hc]
  simp[this]
theorem MX{E:eJ}{ops:Array Oper}{k:List Item}{D0:PY}{w0:AS}{x:cO Nd}:sS Tryz.prog bA (pq E ops k D0 w0 x) where
 run g w:=fun⟨a,PF,pb,h,_⟩=>by rw[h];rfl
 dep g w:=fun⟨a,PF,pb,h,_⟩=>by rw[h];simp[bY]
 foul g w:=fun⟨a,PF,pb,h,_⟩ hf=>by
  obtain⟨why,hw⟩:=xZ (fC _) hf;rw[h]at hw;simp[bY,Frame.at]at hw
theorem MW{E:bt}{ob xb:Nat}{all:List Tok}{wr:Option (Int×Int)}{D0:PY}{w0:AS}:sS Tryz.prog bB (rv E ob xb all wr D0 w0) where
 run g w:=fun⟨a,h,_⟩=>by rw[h];rfl
 dep g w:=fun⟨a,h,_⟩=>by rw[h];simp[bY]
 foul g w:=fun⟨a,h,_⟩ hf=>by
  obtain⟨why,hw⟩:=xZ (fC _) hf;rw[h]at hw;simp[bY,Frame.at]at hw
set_option maxRecDepth 100000 in
theorem Jx{q0 q1 q2 q3 cQ:Code}{i iQ:Nat}{ops:Array Oper}(hc:(Tryz.f92).body=some (.seq (.seq q0 (.seq q1 q2)) (.seq q3 (.block i (.loop (.seq (.region iQ ops false) cQ))))))
 {E:eJ} {k:List Item} {D0:PY} {w0:AS} {x:cO Nd} {g:PK} {w:AS} (h:pq E ops k D0 w0 x g w):
 ∃z,∀m w2,stepG PA m g w2= .comm (bm g) #[{chan:=.chan (some E.r),send:=none,zero:=z}] true (.recv true) w2 #[]:=by
 cases hc;obtain⟨a,PF,pb,rfl,hq,_⟩:=h;obtain⟨u,rfl⟩:=hq.out;refine⟨.agg #[.int .i64 0,.int .i64 0,.int .u64 0,.int .u64 0,.int .u64 0,.int .u64 0,.int .i64 0,.int .i64 0,.pointer none],fun m w2=> ?_⟩;refine(Conc.stepG_comm (P:=PA) (main:=m) (b:=pf) (i:=0) (rest:=[1]) rfl rfl (by simp[pf]) (PA.recv E.r rfl rfl w2)).trans ?_;rw[listed_nil (by simp[Qf,go_sem,No])];rfl
end
section
open Go.RowKit Go.Conc
attribute [local instance] dP
theorem Jj{E:bt}{ob xb:Nat}{all:List Tok}{wr:Option (Int×Int)}{D0:PY}{w0:AS}{g:PK}{w:AS}(h:rv E ob xb all wr D0 w0 g w):AtClose g:=by
 obtain⟨a,rfl,⟨u2,u3,u4,ats,ty,cs,rfl⟩,_⟩:=h;exact⟨nofun,_,[],ats,ty,cs,E.r,rfl,rfl,rfl⟩
theorem HQ(σ τ:Nat→Nat){t:Tok}(h:t.bad=false)(e e':Nat):a7 σ (Tok.val e t)=a7 τ (Tok.val e' t):=by
 unfold Tok.val gN;rw[h];simp[dw]
theorem Ku(σ τ:Nat→Nat){t:Tok}(h:t.bad=true){e e':Nat}(he:σ e=τ e'):a7 σ (Tok.val e t)=a7 τ (Tok.val e' t):=by
 unfold Tok.val gN;rw[h];simp[dw,bh,he]
theorem Cn(σ τ:Nat→Nat){t:Tok}(h:t.bad=true){e e':Nat}(he:a7 σ (Tok.val e t)=a7 τ (Tok.val e' t)):σ e=τ e':=by
 unfold Tok.val gN at he;rw[h]at he;simpa[dw,bh]using he
theorem Fp{ln fold:Bool}{l:List UInt8}:∀(n p:Nat){all:List Tok}{wr:Option (Int×Int)},p≤l.length→eE ln fold l n p=some (all,wr)→∀i t,all[i]?=some t→t.bad=true→i+1=all.length∧wr.isSome=true:=by
 intro n;induction n with
 |zero=>intro p all wr hp h;cases h
 |succ n ih=>
  intro p all wr hp h i t hi ht;unfold eE at h;obtain⟨x,hx,_,_,hle,hok⟩:=eX ln fold l p hp
  ·rw[hx]at h;dsimp only at h;cases hm:x.more with
   |true=>
    rw[if_pos hm,PD]at h;obtain⟨⟨ts,wr'⟩,h3,heq⟩:=h;simp only[Prod.mk.injEq]at heq;obtain⟨rfl,rfl⟩:=heq;cases i with
    |zero=>
     exfalso;simp only[Qx,Option.some.injEq]at hi;subst hi;rw[hok.bad,hok.wrn hm]at ht;cases ht
    |succ i=>
     rw[Qy]at hi;obtain⟨h1,h2⟩:=ih x.p hle h3 i t hi ht;exact⟨by rw[PN,h1],h2⟩
   |false=>
    rw[if_neg (by rw[hm];simp)]at h;cases h;cases i with
    |zero=>
     simp only[Qx,Option.some.injEq]at hi;subst hi;exact⟨rfl,by rw[← hok.bad];exact ht⟩
    |succ i=>simp at hi
theorem MP{Z:Duo}{E:bt}{ob xb:Nat}{all:List Tok}{wr:Option (Int×Int)}{D0:PY}{w0:AS}{g:PK}{w:AS}(h:rv E ob xb all wr D0 w0 g w)(hall:eE E.ln E.fold E.l (E.l.length+1) 0=some (all,wr))
 (hT:Z.TA=(all.map (Tok.val Z.eA)).toArray) (hG:Z.lo<w0.heap.size) (hRo:∀i,Z.RoB i→i<w0.heap.size):
 ∃F s,w.heap[E.r]?=some (.chan E.cap F false s E.rc E.tm)∧F.size=Z.TA.size∧∀i a b,Z.TA[i]?=some a→F[i]?=some b→yK Z i a b w:=by
 obtain⟨a,rfl,_,⟨_,p,F,e,hS,hF,hw⟩⟩:=h;obtain⟨sd,hch⟩:=hS.chan;have hF2:F=(all.map (Tok.val e)).toArray:=by rw[← hF,Array.toArray_toList]
 subst hF2;refine⟨_,sd,hch,by rw[hT];simp,fun i a b ha hb=> ?_⟩;rw[hT]at ha;simp only[QT,QZ,PD]at ha hb;obtain⟨t,ht,rfl⟩:=ha;obtain⟨t',h0,rfl⟩:=hb;obtain rfl:t=t':=Option.some.inj (ht.symm.trans h0);cases hbad:t.bad with
 |false=>exact .inl fun σ τ=>HQ σ τ hbad _ _
 |true=>
  obtain⟨h1,h2⟩:=Fp _ _ (Qr _) hall i t ht hbad;obtain⟨q,hq⟩:=Qu.1 h2;obtain⟨hB,hle⟩:=hw q hq;refine .inr ⟨by rw[hT,h1];simp,e,by omega,?_,fun hr=>absurd (hRo e hr) (by omega),fun σ τ he=>Ku σ τ hbad he,fun σ τ he=>Cn σ τ hbad he⟩;exact⟨_,_,_,hB⟩
theorem Mh:Hk Tryz.prog lj:=⟨rfl,rfl,by show Tryz.prog.funcs[Tryz.prog.funcs.size]?=none;exact Q2 (IN _),rfl⟩
theorem KZ{Z:Duo}{E:bt}{ob xb:Nat}{all:List Tok}{wr:Option (Int×Int)}{D0:PY}{w0:AS}(hQ:Z.Q=Tryz.prog)(hr:Z.restB=[])(hB:Z.rB=E.r):EL Z (rv E ob xb all wr D0 w0) where
 rest:=hr
 stop g w h:=by
  obtain⟨a,rfl,⟨u2,u3,u4,ats,ty,cs,rfl⟩,_⟩:=h;rw[hQ,hB];exact⟨⟨lj,rfl,Mh⟩,rfl,rfl,⟨ats,ty,cs,rfl⟩,_,Tryz.func115,by kernel_rfl⟩
theorem M3{Z:Duo}{A:eJ}{B:bt}{q0 q1 q2 q3 cQ:Code}{i iQ:Nat}{ops:Array Oper}(hc:(Tryz.f92).body=some (.seq (.seq q0 (.seq q1 q2)) (.seq q3 (.block i (.loop (.seq (.region iQ ops false) cQ))))))
 {ob xb:Nat} {all:List Tok} {wr:Option (Int×Int)} {k:List Item} {wA wB:AS} {x:cO Nd} (hall:eE B.ln B.fold B.l (B.l.length+1) 0=some (all,wr))
 (hQ:Z.Q=Tryz.prog) (h0:Z.βA=bA) (hbB:Z.βB=bB) (h2:Z.dtA=tZ) (h3:Z.dtB=[]) (h4:Z.DA=DX) (h5:Z.DB=DX) (hk:Z.k≠0) (hrA:Z.rA=A.r) (h6:Z.capA=A.cap) (h7:Z.tmA=A.tm)
 (h8:Z.rB=B.r) (h9:Z.capB=B.cap) (h1:Z.rcB=B.rc) (ha:Z.tmB=B.tm) (hT:Z.TA=(all.map (Tok.val Z.eA)).toArray) (hG:Z.lo<wB.heap.size) (hRo:∀i,Z.RoB i→i<wB.heap.size):
 eK Z (pq A ops k DX wA x) (rv B ob xb all wr DX wB) where
 EA:=by rw[hQ,h0,h2];exact NN
 EB:=by rw[hQ,hbB,h3];exact NM
 rA:=by rw[h0];exact fC _
 rB:=by rw[hbB];exact fC _
 kA:=by rw[hQ,h0];exact MX
 kB:=by rw[hQ,hbB];exact MW
 dA:=by rw[hQ,h0,h4];exact NP
 dB:=by rw[hQ,hbB,h5];exact NO
 k0:=hk
 sA g w h:=by
  rw[hQ,h0,hrA,h6,h7];exact⟨let⟨z,h⟩:=Jx hc h;⟨z,true,h⟩,by obtain⟨a,PF,pb,_,_,_,hch,_⟩:=h;exact hch⟩
 sB g w h:=by
  refine⟨Jj h,?_⟩;rw[h8,h9,h1,ha];exact MP h hall hT hG hRo
end
section
open Go.Conc
variable[aJ]
def ghost(w:AS)(n:Nat)(f:Nat→Option Obj):AS:= {w with heap:=R6 (n:=n) fun i=>(f i).getD (.coro none)}
section
variable{w:AS}{n i:Nat}{f:Nat→Option Obj}{o:Obj}
@[simp] theorem iM:(ghost w n f).heap.size=n:=by simp[ghost]
theorem xY(h:i<n):(ghost w n f).heap[i]?=some ((f i).getD (.coro none)):=by
 simp[ghost,h]
theorem eI(h:i<n)(hf:f i=some o):(ghost w n f).heap[i]?=some o:=by rw[xY h,hf];rfl
theorem mz(h:(ghost w n f).heap[i]?=some o):i<n∧o=(f i).getD (.coro none):=by
 have hi:i<n:=by
  have:=(IT.1 h).1;simpa using this
 rw[xY hi]at h;exact⟨hi,(Option.some.inj h).symm⟩
end
structure ub(Q:IS)(Ro:Nat→Prop)(p:Part)(n:Nat)(f:Nat→Option Obj)(w':AS):Prop where
 part:iY Q p n w'.heap.size
 known:∀i o,f i=some o→p.K i
 kind:∀i o,f i=some o→(∃c e z,o= .cells c e z)∨∃cap b d s r t,o= .chan cap b d s r t
 ro:∀i,Ro i→∃c e,f i=some (.cells c e (0,c.size))
 cells:∀i c e z,f i=some (.cells c e z)→∀σ,Ag p σ→xp σ (Ro i) True (.cells c e z) w'.heap[p.κ i]?
 other:∀i,p.K i→(∀c e z,f i≠some (.cells c e z))→∃o',w'.heap[p.κ i]?=some o'∧Plain o'∧((∃c e z,o'= .cells c e z)∨o'.isChan=((f i).getD (.coro none)).isChan)
theorem ub.lt{Q:IS}{Ro:Nat→Prop}{p:Part}{n:Nat}{f:Nat→Option Obj}{w':AS}(h:ub Q Ro p n f w'){i:Nat}{o:Obj}(hf:f i=some o):i<n:=h.part.dom i (h.known i o hf)
theorem ub.M5{Q:IS}{Ro:Nat→Prop}{p:Part}{n:Nat}{f:Nat→Option Obj}{w':AS}(h:ub Q Ro p n f w')(w:AS):am (ghost w n f):=fun i o ho=>by
 obtain⟨hi,rfl⟩:=mz ho;cases hf:f i with
 |none=>exact .inr (.inr ⟨_,rfl⟩)
 |some o=>
  refine .inl ?_;rcases h.kind i o hf with⟨c,e,z,rfl⟩|⟨_,_,_,_,_,_,rfl⟩<;>trivial
theorem ub.side{Q:IS}{β:Nat→Option Code}{D0:PY}{dt:be}{cl:Bool}{Ro:Nat→Prop}{os:Os}{rest:List PY}{p:Part}{n:Nat}{f:Nat→Option Obj}{w':AS}{g g':PK}
 (h:ub Q Ro p n f w') (hos:w'.os=os) (hg:ud Q D0 dt cl g) (hj:JG g) (hd:g.dying=none) (hr:∀σ,Ag p σ→mU σ rest g g'):Side Q β D0 dt cl Ro os rest p g (ghost w' n f) g' w':=by
 refine⟨by rw[iM];exact h.part,hg,⟨h.M5 w',.inr ⟨hj,fun d e=>by rw[hd]at e;cases e⟩⟩,fun i hi=> ?_,hr,fun σ hσ=> ?_⟩
 ·obtain⟨c,e,hf⟩:=h.ro i hi;exact⟨c,e,eI (h.lt hf) hf⟩
 ·have hget:∀(i:Nat)(o:Obj),(af (ghost w' n f) w'.tape w'.drawn).heap[i]?=some o→i<n∧o=(f i).getD (.coro none):=fun i o ho=>mz ho
  refine⟨hσ.1,rfl,rfl,fun i hi=> ?_,fun i o ho=> ?_,fun i a l ho=> ?_,hos,hos⟩
  ·obtain⟨c,e,hf⟩:=h.ro i hi;show i<(ghost w' n f).heap.size;rw[iM];exact h.lt hf
  ·obtain⟨hi,rfl⟩:=hget i o ho;cases hf:f i with
   |none=>
    intro hk;obtain⟨o',h1,h2,h3⟩:=h.other i hk (fun c e z h=>by rw[hf]at h;cases h);rw[hf]at h3;exact⟨o',by rw[hσ.2 i hk];exact h1,h2,h3⟩
   |some o=>
    have hk:=h.known i o hf;rcases h.kind i o hf with⟨c,e,z,rfl⟩|⟨_,_,_,_,_,_,rfl⟩
    ·have:=h.cells i c e z hf σ hσ;rw[← hσ.2 i hk]at this;exact this
    ·intro _;obtain⟨o',h1,h2,h3⟩:=h.other i hk (fun c e z h=>by rw[hf]at h;cases h);rw[hf]at h3;exact⟨o',by rw[hσ.2 i hk];exact h1,h2,h3⟩
  ·obtain⟨hi,e⟩:=hget i _ ho;cases hf:f i with
   |none=>rw[hf]at e;cases e
   |some o=>
    rw[hf]at e;rcases h.kind i o hf with⟨c,e,z,rfl⟩|⟨_,_,_,_,_,_,rfl⟩<;>cases e
theorem vQ{w:AS}{n r cap s rc:Nat}{b:Array AT}{tm:Bool}{f:Nat→Option Obj}(hr:r<n)(hf:f r=some (.chan cap b false s rc tm))(ho:∀i o,f i=some o→o.isChan=true→i=r):cJ (ghost w n f) r cap b s rc tm:=by
 refine⟨eI hr hf,fun i o h hc=> ?_⟩;obtain⟨hi,rfl⟩:=mz h;cases h0:f i with
 |none=>rw[h0]at hc;cases hc
 |some o=>rw[h0]at hc;exact ho i o h0 hc
theorem me{w:AS}{n i:Nat}{f:Nat→Option Obj}(h:aM (ghost w n f) i):∃c e z,f i=some (.cells c e z):=by
 obtain⟨c,e,z,h⟩:=h;obtain⟨hi,h⟩:=mz h;cases hf:f i with
 |none=>rw[hf]at h;cases h
 |some o=>rw[hf]at h;exact⟨c,e,z,congrArg some h.symm⟩
theorem inv_start{Z:Duo}{pA pB:Part}{fA fB:Nat→Option Obj}{nA nB:Nat}{gA gA' gB gB':PK}{w':AS}{t:Trace}{tm:Bool}{sA rcA sB:Nat}
 (PA:ub Z.Q Z.RoA pA nA fA w') (PB:ub Z.Q Z.RoB pB nB fB w') (hos:w'.os=Z.os)
 (gAok:ud Z.Q Z.DA Z.dtA false gA) (gBok:ud Z.Q Z.DB Z.dtB true gB) (jA:JG gA) (jB:JG gB) (dA:gA.dying=none) (dB:gB.dying=none)
 (rA:∀σ,Ag pA σ→mU σ Z.restA gA gA') (rB:∀σ,Ag pB σ→mU σ Z.restB gB gB')
 (cA:fA Z.rA=some (.chan Z.capA Z.TA false sA rcA Z.tmA)) (cA1:∀i o,fA i=some o→o.isChan=true→i=Z.rA) (kA:pA.κ Z.rA=Z.c)
 (cB:fB Z.rB=some (.chan Z.capB #[] false sB Z.rcB Z.tmB)) (cB1:∀i o,fB i=some o→o.isChan=true→i=Z.rB) (kB:pB.κ Z.rB=Z.c)
 (hch:w'.heap[Z.c]?=some (.chan 0 #[] Z.cls 0 0 tm)) (eA:Z.eA<nA) (eA1:¬ pA.K Z.eA)
 (oth:∀i,pA.K i→(∃c e z,fA i=some (.cells c e z))∨(∃j,j≤Z.lo∧pB.K j∧pB.κ j=pA.κ i)∨i=Z.rA)
 (disj:∀i j,(∃c e z,fA i=some (.cells c e z))→(∃c e z,fB j=some (.cells c e z))→pA.κ i=pB.κ j→Z.RoA i∧Z.RoB j)
 (ht:PT Z.k (fun _=>False) (fun _=>False) t)
 (mA:∀i,(∃c e z,fA i=some (.cells c e z))→¬ Z.RoA i→pA.κ i<Z.N0→Z.MA (pA.κ i)) (mB:∀i,(∃c e z,fB i=some (.cells c e z))→¬ Z.RoB i→pB.κ i<Z.N0→Z.MB (pB.κ i))
 (fr:∀b,b<Z.N0→b≠Z.c→¬ Z.MA b→¬ Z.MB b→w'.heap[b]?=Z.h0[b]?) (nz:Z.N0≤w'.heap.size) (out:w'.output=Z.out0):
 Inv2 Z 0 pA gA (ghost w' nA fA) gA' pB gB (ghost w' nB fB) gB' w' t:=by
 have hOB:cJ (ghost w' nB fB) Z.rB Z.capB #[] sB Z.rcB Z.tmB:=vQ (PB.lt cB) cB cB1;refine⟨PA.side hos gAok jA dA rA,PB.side hos gBok jB dB rB,⟨sA,rcA,?_⟩,⟨#[],sB,hOB,rfl⟩,⟨PA.known _ _ cA,kA⟩,⟨PB.known _ _ cB,kB⟩,⟨tm,hch⟩,⟨by rw[iM];exact eA,fun o ho=> ?_,fun _=>eA1⟩,Qr _,fun i hi=> ?_,fun i j hi hj=>disj i j (me hi) (me hj),ht.mono (fun _ h=>h.elim) (fun _ h=>h.elim),fun i hi=>mA i (me hi),fun i hi=>mB i (me hi),fr,nz,out,⟨#[],sB,hOB,fun i x y hx hy=> ?_⟩⟩
 ·have:=vQ (w:=w') (PA.lt cA) cA cA1;rw[show Z.TA.extract 0 Z.TA.size=Z.TA from by simp];exact this
 ·obtain⟨_,rfl⟩:=mz ho;cases hf:fA Z.eA with
  |none=>exact fun h=>h
  |some o=>exact absurd (PA.known _ _ hf) eA1
 ·rcases oth i hi with⟨c,e,z,hf⟩|h|h
  ·exact .inl ⟨_,eI (PA.lt hf) hf,trivial⟩
  ·exact .inr (.inl h)
  ·exact .inr (.inr (.inl h))
 ·simp at hy
end
section
open Go.Conc
variable[aJ]
open Classical in
noncomputable def cP(w w':AS):AS:= {w' with heap:=R6 (n:=w'.heap.size) fun i=>if i.1<w.heap.size then(w.heap[i.1]?).getD (.coro none)else dV w'.heap[i]}
section
variable{w w0' w':AS}{i:Nat}
@[simp] theorem iU:(cP w w').heap.size=w'.heap.size:=by simp[cP]
theorem jj(h:i<w.heap.size)(hle:w.heap.size≤w'.heap.size):(cP w w').heap[i]?=w.heap[i]?:=by
 have h2:i<w'.heap.size:=by omega
 simp[cP,h,h2]
theorem o7(h:w.heap.size≤i)(h2:i<w'.heap.size):(cP w w').heap[i]?=some (dV w'.heap[i]):=by
 have:¬ i<w.heap.size:=by omega
 simp[cP,this,h2]
theorem r8(c:Array AT)(e:Ql)(z:Nat×Nat):dV (.cells c e z)= .cells c e z:=by
 unfold dV;rw[if_pos (.inl trivial)]
theorem wW(h:w.heap.size≤i){c:Array AT}{e:Ql}{z:Nat×Nat}(hc:w'.heap[i]?=some (.cells c e z)):(cP w w').heap[i]?=some (.cells c e z):=by
 obtain⟨h2,h3⟩:=IT.1 hc;rw[o7 h h2,h3,r8]
theorem pw(o:Obj):dV o=o∨(dV o= .coro none∧((∃l,o= .loop l)∨∃d,o= .deferred d)):=by
 unfold dV;split
 ·exact .inl rfl
 ·rename_i hn;refine .inr ⟨rfl,?_⟩;cases o;case loop l=>exact .inl ⟨l,rfl⟩
  case deferred d=>exact .inr ⟨d,rfl⟩
  case pending c t=>exact absurd (.inr (.inl ⟨c,t,rfl⟩)) hn
  case coro c=>exact absurd (.inr (.inr ⟨c,rfl⟩)) hn
  all_goals exact absurd (.inl trivial) hn
end
open Classical in
noncomputable def nU(w w':AS):Array Obj:=R6 (n:=w'.heap.size) fun i=>if(cP w w').heap[i.1]?=some (.coro none)then w'.heap[i]else .coro none
theorem rJ{w w':AS}{i:Nat}(h2:i<w'.heap.size)(h:(cP w w').heap[i]?=some (.coro none)):(nU w w')[i]?=w'.heap[i]?:=by
 unfold nU;rw[Array.getElem?_ofFn,dif_pos h2,Q9 h2];exact congrArg some (if_pos h)
theorem Bi{w w':AS}{i:Nat}(h2:i<w'.heap.size)(h:¬ (cP w w').heap[i]?=some (.coro none)):(nU w w')[i]?=some (.coro none):=by
 unfold nU;rw[Array.getElem?_ofFn,dif_pos h2];exact congrArg some (if_neg h)
theorem Gx{Q:IS}{h0 h1:Array Obj}{w w0' w':AS}{g:PK}{m:Machine}{t:Trace}(hp:bj h1 w w0')(ho:th h0 h1)(hu:Under h0 w)(hold:∀b,b<w.heap.size→w'.heap[b]?=w0'.heap[b]?)(hle:w.heap.size≤w'.heap.size)
 (hF:gj Q g w' m t):qp h0 Q g (cP w w') m t:=by
 obtain⟨⟨gs,sl,q,τ,d,rfl,hg,hL⟩,hH,hD⟩:=hF;refine⟨nU w w',⟨⟨gs,sl,q,af w' τ d,rfl,?_,hg,hL⟩,hH,hD⟩,fun i hi hl=> ?_⟩
 ·refine⟨by show w'.heap.size=(cP w w').heap.size;rw[iU],rfl,rfl,rfl,rfl,fun i=> ?_,fun i hi=> ?_⟩
  ·show(cP w w').heap[i]?=w'.heap[i]?∨((cP w w').heap[i]?=_∧((∃l,w'.heap[i]?=_)∨∃d,w'.heap[i]?=_));rcases Qa i w.heap.size with h|h
   ·rw[jj h hle,hold i h];exact hp.blk i
   ·rcases Qa i w'.heap.size with h2|h2
    ·rw[o7 h h2,Q9 h2];rcases pw w'.heap[i]with e|⟨e,⟨l,e'⟩|⟨l,e'⟩⟩
     ·rw[e];exact .inl rfl
     ·exact .inr ⟨congrArg some e,.inl ⟨l,congrArg some e'⟩⟩
     ·exact .inr ⟨congrArg some e,.inr ⟨l,congrArg some e'⟩⟩
    ·refine .inl ?_;rw[Q2 h2,Q2 (by rw[iU];exact h2)]
  ·have h4:(cP w w').heap[i]?=some (.coro none):=hi;have h2:i<w'.heap.size:=by
    have:=(IT.1 h4).1;rwa [iU]at this
   exact(rJ h2 h4).symm
 ·have hsz:=hu.le;have h2:i<w'.heap.size:=by omega
  have h3:i<w.heap.size:=by omega
  by_cases hc:(cP w w').heap[i]?=some (.coro none)
  ·rw[rJ h2 hc]at hl ⊢;rw[jj h3 hle]at hc;have hk:=hp.keep i hc;rw[hold i h3,hk]at hl ⊢;exact ho i hi hl
  ·exfalso;rw[Bi h2 hc]at hl;rcases hl with(⟨l,h⟩|⟨l,h⟩)|h
   ·cases h
   ·cases h
   ·exact hc (by rw[jj h3 hle];exact hu.st i hi h)
theorem BL{w w':AS}(hw:am w)(h0:aJ.lim≤w.heap.size)(hle:w.heap.size≤w'.heap.size):am (cP w w'):=fun i o ho=>by
 rcases Qa i w.heap.size with h|h
 ·rw[jj h hle]at ho;exact hw i o ho
 ·have h2:i<w'.heap.size:=by
   have:=(IT.1 ho).1;rwa [iU]at this
  rw[o7 h h2]at ho;cases ho;unfold dV;split
  ·rename_i hc;rcases hc with hc|hc|hc
   ·exact .inl hc
   ·exact .inr (.inl ⟨hc,Qk h0 h⟩)
   ·exact .inr (.inr hc)
  ·exact .inr (.inr ⟨_,rfl⟩)
theorem qp.real{Q:IS}{h0:Array Obj}{g:PK}{w:AS}{m:Machine}{t:Trace}(h:qp h0 Q g w m t):∃h1 w',bj h1 w w'∧th h0 h1∧gj Q g w' m t:=by
 obtain⟨h1,⟨⟨gs,sl,q,w',e,hp,hg,hL⟩,hH,hD⟩,ho⟩:=h;refine⟨h1,af w' w.tape w.drawn,⟨hp.size,rfl,rfl,hp.os,hp.output,hp.blk,hp.keep⟩,ho,⟨gs,sl,q,w'.tape,w'.drawn,e,hg,hL⟩,hH,hD⟩
theorem Done.Pd{Z:Duo}{KA KB:PK→AS→Prop}{m:Machine}{t:Trace}(h:Done Z KA KB m t):
 ∃pA gA wA gA' pB gB wB gB' w' c0 z ok t0,Inv2 Z.shut Z.TA.size pA gA wA gA' pB gB wB gB' w' t0∧KA gA wA∧KB gB wB∧(∀m w2,stepG (alt Z.Q Z.βA) m gA w2= .comm (bm gA) #[c0] true (.recv ok) w2 #[])∧(∀σ,Ag pA σ→rcase Z.c z=kn σ c0)∧
  gj Z.Q (Conc.served (bm gA') (recvd ok z false)) w' m t:=by
 obtain⟨gs,sl,q,pA,gA,wA,gA',pB,gB,wB,gB',w',c0,z,ok,t0,rfl,h1,h2,hB,h3,h4,h5,h6,h7,h8⟩:=h;exact⟨pA,gA,wA,gA',pB,gB,wB,gB',w',c0,z,ok,t0,h1,h2,hB,h3,h4,⟨gs,sl,q,w'.tape,w'.drawn,rfl,h5,h6⟩,h7,h8⟩
end
section
open Go.RowKit Go.Conc
section
variable(w:AS)(s:ByteArray)(fl:Nat)(fold:Bool)
theorem lO:(fM w s fl fold).heap=(((w.heap.push (.chan 0 #[] false 0 0 false)).push (.cells #[.chan (some w.heap.size)] 239)).push (.cells (jb s 0 fl w.heap.size fold) 243)).push (.cells #[.pointer (some ⟨w.heap.size+2,0,none⟩)] 240):=by
 apply QY;intro i;simp only[fM,Gu,Cy,om,Ai,xX,QJ,World.alloc];simp only[Array.getElem?_modify,PR,Array.size_modify,Qb];rcases Qa i w.heap.size with h|h
 ·have h0:i≠w.heap.size:=by omega
  have h1:i≠w.heap.size+1:=by omega
  have h2:i≠w.heap.size+2:=by omega
  have h3:i≠w.heap.size+3:=by omega
  simp[h0,h1,h2,h3,PV h1,PV h3]
 ·obtain⟨j,rfl⟩:∃j,i=w.heap.size+j:=⟨i-w.heap.size,by omega⟩;rcases j with _|_|_|_|j
  ·simp[show¬ (w.heap.size=w.heap.size+1+1+1) by omega,show¬ (w.heap.size=w.heap.size+1+1) by omega]
  ·simp
  ·simp
  ·simp
  ·simp[show¬ (w.heap.size+(j+1+1+1+1)=w.heap.size+1+1+1) by omega,show¬ (w.heap.size+(j+1+1+1+1)=w.heap.size+1+1) by omega]
theorem ux:(fM w s fl fold).heap.size=w.heap.size+4:=by rw[lO];simp
theorem kG{i:Nat}(h:i<w.heap.size):(fM w s fl fold).heap[i]?=w.heap[i]?:=by
 rw[lO];rw[Qh (by simp;omega),PE (by simp;omega),PE (by simp;omega),PE h,Q9 h]
theorem E6:(fM w s fl fold).heap[w.heap.size]?=some (.chan 0 #[] false 0 0 false):=by
 rw[lO];simp[PR,show¬ (w.heap.size=w.heap.size+1+1+1) by omega,show¬ (w.heap.size=w.heap.size+1+1) by omega]
theorem Gt:(fM w s fl fold).heap[w.heap.size+1]?=some (.cells #[.chan (some w.heap.size)] 239):=by
 rw[lO];simp only[PR,Qb];simp
theorem JF:(fM w s fl fold).heap[w.heap.size+2]?=some (.cells (jb s 0 fl w.heap.size fold) 243):=by
 rw[lO];simp only[PR,Qb];simp
theorem Gs:(fM w s fl fold).heap[w.heap.size+3]?=some (.cells #[.pointer (some ⟨w.heap.size+2,0,none⟩)] 240):=by
 rw[lO];simp only[PR,Qb];simp
theorem M6:(fM w s fl fold).os=w.os:=rfl
theorem KX:(fM w s fl fold).output=w.output:=rfl
end
end
section
open Go.RowKit Go.Conc
def EK(w:AS):Prop:=∀g,g≤Tryz.prog.globals.size→∃o,w.heap[g]?=some o∧Plain o∧((∃c e z,o= .cells c e z)∨o.isChan=false)
structure yP(w:AS)(nb gb eb:Nat):Prop where
 n:ac w nb 86 #[.nilIface]
 g:ac w gb 3 #[.int .i64 0]
 e:ac w eb 105 #[.nilIface]
 ln:Tryz.prog.globals.size<nb
 lg:Tryz.prog.globals.size<gb
 le:Tryz.prog.globals.size<eb
 n_g:nb≠gb
 n_e:nb≠eb
 g_e:gb≠eb
 glob:EK w
theorem ac.lt'{w:AS}{b:Nat}{t:Ql}{c:Array AT}(h:ac w b t c):b<w.heap.size:=(IT.1 h).1
def vy(n nb gb eb:Nat):Part:=⟨fun i=>i≤Tryz.prog.globals.size∨i=nb∨i=gb∨i=eb∨i=n∨i=n+1∨i=n+2∨i=n+3,id⟩
def gJ(n nb gb eb cap:Nat)(T:Array AT)(i:Nat):Option Obj:=
 if i=nb then some (.cells #[.nilIface] 86)else if i=gb then some (.cells #[.int .i64 0] 3)else if i=eb then some (.cells #[.nilIface] 105)
 else if i=n then some (.chan cap T false 0 0 false)else if i=n+1 then some (.cells #[.chan (some n)] 239 (0,1))else none
theorem MU{w:AS}{nb gb eb cap:Nat}{T:Array AT}(h:yP w nb gb eb)(s:ByteArray)(fl:Nat)(fold:Bool):
 ub Tryz.prog (fun i=>i=w.heap.size+1) (vy w.heap.size nb gb eb) (w.heap.size+5) (gJ w.heap.size nb gb eb cap T) (fM w s fl fold):=by
 have h1:=h.n.lt';have h2:=h.g.lt';have h3:=h.e.lt';have h4:=h.ln;have key:∀i o,gJ w.heap.size nb gb eb cap T i=some o→(i=nb∧o= .cells #[.nilIface] 86)∨(i=gb∧o= .cells #[.int .i64 0] 3)∨(i=eb∧o= .cells #[.nilIface] 105)∨(i=w.heap.size∧o= .chan cap T false 0 0 false)∨(i=w.heap.size+1∧o= .cells #[.chan (some w.heap.size)] 239 (0,1)):=fun i o hf=>by
  unfold gJ at hf;repeat' split at hf
  all_goals first
   |(cases hf;simp_all;done)
   |(cases hf)
 refine⟨⟨fun i j _ _ e=>e,fun i hi=> ?_,fun i hi=> ?_,fun g hg=>⟨.inl hg,rfl⟩⟩,fun i o hf=> ?_,fun i o hf=> ?_,fun i hi=> ?_,fun i c e z hf σ hσ=> ?_,fun i hi hc=> ?_⟩
 ·rcases hi with hi|rfl|rfl|rfl|rfl|rfl|rfl|rfl<;>omega
 ·rw[ux];show i<_;rcases hi with hi|rfl|rfl|rfl|rfl|rfl|rfl|rfl<;>omega
 ·rcases key i o hf with⟨rfl,_⟩|⟨rfl,_⟩|⟨rfl,_⟩|⟨rfl,_⟩|⟨rfl,_⟩
  ·exact .inr (.inl rfl)
  ·exact .inr (.inr (.inl rfl))
  ·exact .inr (.inr (.inr (.inl rfl)))
  ·exact .inr (.inr (.inr (.inr (.inl rfl))))
  ·exact .inr (.inr (.inr (.inr (.inr (.inl rfl)))))
 ·rcases key i o hf with⟨_,rfl⟩|⟨_,rfl⟩|⟨_,rfl⟩|⟨_,rfl⟩|⟨_,rfl⟩
  ·exact .inl ⟨_,_,_,rfl⟩
  ·exact .inl ⟨_,_,_,rfl⟩
  ·exact .inl ⟨_,_,_,rfl⟩
  ·exact .inr ⟨_,_,_,_,_,_,rfl⟩
  ·exact .inl ⟨_,_,_,rfl⟩
 ·have hi:i=w.heap.size+1:=hi;subst hi;refine⟨_,239,show gJ _ _ _ _ _ _ _=some (.cells #[.chan (some w.heap.size)] 239 (0,1))from ?_⟩;unfold gJ;rw[if_neg (by omega),if_neg (by omega),if_neg (by omega),if_neg (by omega),if_pos rfl]
 ·show xp σ (i=w.heap.size+1) True (.cells c e z) (fM w s fl fold).heap[i]?;rcases key i _ hf with⟨rfl,e1⟩|⟨rfl,e1⟩|⟨rfl,e1⟩|⟨rfl,e1⟩|⟨rfl,e1⟩
  ·cases e1;refine⟨fun hr=>absurd hr (by omega),fun _=> ?_⟩;rw[kG w s fl fold h1,h.n];simp
  ·cases e1;refine⟨fun hr=>absurd hr (by omega),fun _=> ?_⟩;rw[kG w s fl fold h2,h.g];simp
  ·cases e1;refine⟨fun hr=>absurd hr (by omega),fun _=> ?_⟩;rw[kG w s fl fold h3,h.e];simp
  ·cases e1
  ·cases e1;have e2:σ w.heap.size=w.heap.size:=hσ.2 _ (.inr (.inr (.inr (.inr (.inl rfl)))));refine⟨fun _=>⟨rfl,(0,0),?_,by simp⟩,fun hr=>absurd rfl hr⟩;rw[Gt];simp[e2]
 ·show∃o',(fM w s fl fold).heap[i]?=some o'∧_;rcases hi with hi|rfl|rfl|rfl|rfl|rfl|rfl|rfl
  ·obtain⟨o,g1,g2,g3⟩:=h.glob i hi;have hn:gJ w.heap.size nb gb eb cap T i=none:=by
    cases hp:gJ w.heap.size nb gb eb cap T i with
    |none=>rfl
    |some o=>
     have:=h.lg;have:=h.le;rcases key i o hp with⟨rfl,_⟩|⟨rfl,_⟩|⟨rfl,_⟩|⟨rfl,_⟩|⟨rfl,_⟩<;>omega
   rw[kG w s fl fold (by omega),hn];exact⟨o,g1,g2,g3⟩
  ·exact absurd (by unfold gJ;rw[if_pos rfl]) (hc #[.nilIface] 86 (0,0))
  ·exact absurd (by unfold gJ;rw[if_neg (PV h.n_g),if_pos rfl]) (hc #[.int .i64 0] 3 (0,0))
  ·exact absurd (by unfold gJ;rw[if_neg (PV h.n_e),if_neg (PV h.g_e),if_pos rfl]) (hc #[.nilIface] 105 (0,0))
  ·have hn:gJ w.heap.size nb gb eb cap T w.heap.size=some (.chan cap T false 0 0 false):=by
    unfold gJ;rw[if_neg (by omega),if_neg (by omega),if_neg (by omega),if_pos rfl]
   rw[E6,hn];exact⟨_,rfl,trivial,.inr rfl⟩
  ·exact absurd (by unfold gJ;rw[if_neg (by omega),if_neg (by omega),if_neg (by omega),if_neg (by omega),if_pos rfl]) (hc #[.chan (some w.heap.size)] 239 (0,1))
  ·exact⟨_,JF ..,trivial,.inl ⟨_,_,_,rfl⟩⟩
  ·exact⟨_,Gs ..,trivial,.inl ⟨_,_,_,rfl⟩⟩
end
section
open Go.RowKit Go.Conc
structure JR(w:AS)(C:Array AT)(tC tM:Ql)(m:Int):Prop where
 cls:∃z,w.heap[1]?=some (.cells C tC z)∧z.2≤C.size
 ren:∀σ,C.map (a7 σ)=C
 max:∃z,w.heap[2]?=some (.cells #[.int .i64 m] tM z)∧z.2≤1
def DD(n:Nat):Part:=⟨fun i=>i≤Tryz.prog.globals.size∨i=n∨i=n+1∨i=n+2∨i=n+3,id⟩
def fw(n cap:Nat)(s:ByteArray)(fl:Nat)(fold:Bool)(C:Array AT)(tC tM:Ql)(m:Int)(i:Nat):Option Obj:=
 if i=1 then some (.cells C tC (0,C.size))else if i=2 then some (.cells #[.int .i64 m] tM (0,1))else if i=n then some (.chan cap #[] false 0 0 false)
 else if i=n+1 then some (.cells #[.chan (some n)] 239 (0,1))else if i=n+2 then some (.cells (jb s 0 fl n fold) 243)else if i=n+3 then some (.cells #[.pointer (some ⟨n+2,0,none⟩)] 240 (0,1))else none
def Jy(n:Nat)(i:Nat):Prop:=i=1∨i=2∨i=n+1∨i=n+3
theorem vO:Tryz.prog.globals.size=3:=by kernel_rfl
theorem MT{w:AS}{cap:Nat}{C:Array AT}{tC tM:Ql}{m:Int}(hg:EK w)(h:JR w C tC tM m)(hn:Tryz.prog.globals.size<w.heap.size)(s:ByteArray)(fl:Nat)(fold:Bool):
 ub Tryz.prog (Jy w.heap.size) (DD w.heap.size) (w.heap.size+4) (fw w.heap.size cap s fl fold C tC tM m) (fM w s fl fold):=by
 have h0:=vO;have key:∀i o,fw w.heap.size cap s fl fold C tC tM m i=some o→(i=1∧o= .cells C tC (0,C.size))∨(i=2∧o= .cells #[.int .i64 m] tM (0,1))∨(i=w.heap.size∧o= .chan cap #[] false 0 0 false)∨(i=w.heap.size+1∧o= .cells #[.chan (some w.heap.size)] 239 (0,1))∨(i=w.heap.size+2∧o= .cells (jb s 0 fl w.heap.size fold) 243)∨(i=w.heap.size+3∧o= .cells #[.pointer (some ⟨w.heap.size+2,0,none⟩)] 240 (0,1)):=fun i o hf=>by
  unfold fw at hf;repeat' split at hf
  all_goals first
   |(cases hf;simp_all;done)
   |(cases hf)
 have p1:fw w.heap.size cap s fl fold C tC tM m 1=some (.cells C tC (0,C.size)):=by unfold fw;rw[if_pos rfl]
 have p2:fw w.heap.size cap s fl fold C tC tM m 2=some (.cells #[.int .i64 m] tM (0,1)):=by unfold fw;rw[if_neg (by decide),if_pos rfl]
 have p3:fw w.heap.size cap s fl fold C tC tM m w.heap.size=some (.chan cap #[] false 0 0 false):=by unfold fw;rw[if_neg (by omega),if_neg (by omega),if_pos rfl]
 have p4:fw w.heap.size cap s fl fold C tC tM m (w.heap.size+1)=some (.cells #[.chan (some w.heap.size)] 239 (0,1)):=by unfold fw;rw[if_neg (by omega),if_neg (by omega),if_neg (by omega),if_pos rfl]
 have p5:fw w.heap.size cap s fl fold C tC tM m (w.heap.size+2)=some (.cells (jb s 0 fl w.heap.size fold) 243):=by unfold fw;rw[if_neg (by omega),if_neg (by omega),if_neg (by omega),if_neg (by omega),if_pos rfl]
 have p6:fw w.heap.size cap s fl fold C tC tM m (w.heap.size+3)=some (.cells #[.pointer (some ⟨w.heap.size+2,0,none⟩)] 240 (0,1)):=by unfold fw;rw[if_neg (by omega),if_neg (by omega),if_neg (by omega),if_neg (by omega),if_neg (by omega),if_pos rfl]
 refine⟨⟨fun i j _ _ e=>e,fun i hi=> ?_,fun i hi=> ?_,fun g hg=>⟨.inl hg,rfl⟩⟩,fun i o hf=> ?_,fun i o hf=> ?_,fun i hi=> ?_,fun i c e z hf σ hσ=> ?_,fun i hi hc=> ?_⟩
 ·rcases hi with hi|rfl|rfl|rfl|rfl<;>omega
 ·rw[ux];show i<_;rcases hi with hi|rfl|rfl|rfl|rfl<;>omega
 ·rcases key i o hf with⟨rfl,_⟩|⟨rfl,_⟩|⟨rfl,_⟩|⟨rfl,_⟩|⟨rfl,_⟩|⟨rfl,_⟩
  ·exact .inl (by omega)
  ·exact .inl (by omega)
  ·exact .inr (.inl rfl)
  ·exact .inr (.inr (.inl rfl))
  ·exact .inr (.inr (.inr (.inl rfl)))
  ·exact .inr (.inr (.inr (.inr rfl)))
 ·rcases key i o hf with⟨_,rfl⟩|⟨_,rfl⟩|⟨_,rfl⟩|⟨_,rfl⟩|⟨_,rfl⟩|⟨_,rfl⟩
  ·exact .inl ⟨_,_,_,rfl⟩
  ·exact .inl ⟨_,_,_,rfl⟩
  ·exact .inr ⟨_,_,_,_,_,_,rfl⟩
  ·exact .inl ⟨_,_,_,rfl⟩
  ·exact .inl ⟨_,_,_,rfl⟩
  ·exact .inl ⟨_,_,_,rfl⟩
 ·rcases hi with rfl|rfl|rfl|rfl
  ·exact⟨_,_,p1⟩
  ·exact⟨_,_,p2⟩
  ·exact⟨_,_,p4⟩
  ·exact⟨_,_,p6⟩
 ·show xp σ (Jy w.heap.size i) True (.cells c e z) (fM w s fl fold).heap[i]?;have e2:σ w.heap.size=w.heap.size:=hσ.2 _ (.inr (.inl rfl));have e3:σ (w.heap.size+2)=w.heap.size+2:=hσ.2 _ (.inr (.inr (.inr (.inl rfl))));rcases key i _ hf with⟨rfl,e1⟩|⟨rfl,e1⟩|⟨rfl,e1⟩|⟨rfl,e1⟩|⟨rfl,e1⟩|⟨rfl,e1⟩
  ·cases e1;obtain⟨z,hz,h1⟩:=h.cls;refine⟨fun _=>⟨rfl,z,?_,h1⟩,fun hr=>absurd (.inl rfl) hr⟩;rw[kG w s fl fold (by omega),hz,h.ren]
  ·cases e1;obtain⟨z,hz,h1⟩:=h.max;refine⟨fun _=>⟨rfl,z,?_,by simpa using h1⟩,fun hr=>absurd (.inr (.inl rfl)) hr⟩;rw[kG w s fl fold (by omega),hz];simp
  ·cases e1
  ·cases e1;refine⟨fun _=>⟨rfl,(0,0),?_,by simp⟩,fun hr=>absurd (.inr (.inr (.inl rfl))) hr⟩;rw[Gt];simp[e2]
  ·cases e1;refine⟨fun hr=> ?_,fun _=> ?_⟩
   ·exfalso;rcases hr with hr|hr|hr|hr<;>omega
   ·rw[JF];simp[jb,e2]
  ·cases e1;refine⟨fun _=>⟨rfl,(0,0),?_,by simp⟩,fun hr=>absurd (.inr (.inr (.inr rfl))) hr⟩;rw[Gs];simp[bh,e3]
 ·show∃o',(fM w s fl fold).heap[i]?=some o'∧_;rcases hi with hi|rfl|rfl|rfl|rfl
  ·obtain⟨o,g1,g2,g3⟩:=hg i hi;have hn:fw w.heap.size cap s fl fold C tC tM m i=none:=by
    cases hp:fw w.heap.size cap s fl fold C tC tM m i with
    |none=>rfl
    |some o=>
     exfalso;rcases key i o hp with⟨rfl,rfl⟩|⟨rfl,rfl⟩|⟨rfl,_⟩|⟨rfl,_⟩|⟨rfl,_⟩|⟨rfl,_⟩
     ·exact hc _ _ _ hp
     ·exact hc _ _ _ hp
     all_goals omega
   rw[kG w s fl fold (by omega),hn];exact⟨o,g1,g2,g3⟩
  ·rw[E6,p3];exact⟨_,rfl,trivial,.inr rfl⟩
  ·exact absurd p4 (hc _ _ _)
  ·exact absurd p5 (hc _ _ _)
  ·exact absurd p6 (hc _ _ _)
end
section
open Go.RowKit Go.Conc
theorem Kq{σ:Nat→Nat}{n:Nat}{s:ByteArray}{fl:Nat}(h0:σ n=n)(h1:σ (n+1)=n+1)(h2:σ (n+2)=n+2)(h3:σ (n+3)=n+3)(todo:List Item):
 aH σ (oz.at (goT n s fl) todo)=oz.at (goT n s fl) todo:=by
 unfold aH oz goT Frame.at jb;simp[bh,undef,h0,h1,h2,h3];exact⟨by simp[l7],rfl⟩
def oY(nb gb eb:Nat)(s:ByteArray)(fl:Nat):Act:= {tmps:=#[.string s,.int .u8 fl,undef,undef,vp nb,vp gb,vp eb,undef,.string s,.int .i64 s.size,.bool false,undef,undef,undef,.string s,.int .u8 fl,undef,undef,undef,undef,undef,undef,undef,undef,undef,undef,undef,undef,undef],defers:=[]}
theorem M9(nb gb eb:Nat)(s:ByteArray)(fl:Nat):JX (.string s) (.int .u8 fl) (oY nb gb eb s fl):=⟨rfl,rfl,rfl,rfl⟩
theorem Kr{σ:Nat→Nat}{nb gb eb:Nat}{s:ByteArray}{fl:Nat}(h0:σ nb=nb)(h1:σ gb=gb)(h2:σ eb=eb)(todo:List Item):
 aH σ (gi.at (oY nb gb eb s fl) todo)=gi.at (oY nb gb eb s fl) todo:=by
 unfold aH gi oY Frame.at;simp[bh,undef,h0,h1,h2];rfl
theorem Ks{σ:Nat→Nat}{n:Nat}(h1:σ (n+1)=n+1)(h3:σ (n+3)=n+3):
 aH σ {lj with defers:=[{target:=.fn (.func 115) #[vp (n+1),vp (n+3)],args:=#[]}]}= {lj with defers:=[{target:=.fn (.func 115) #[vp (n+1),vp (n+3)],args:=#[]}]}:=by
 unfold aH lj;simp[km,bh,lG,jG,goexitEntry,h1,h3];exact⟨by rw[show(default:PY).tmps=#[]from rfl];simp,by simp[wY,l7,bh,h1,h3]⟩
end
section
open Go.Conc
variable[aJ]
section
variable{Q:IS}{R:Machine→Trace→Prop}{w:AS}{fr PF c:PY}{cs:List PY}{fn:Func}{v:AT}
theorem Bn(hm:fr.mode= .returning)(hk:fr.kind= .deferred)(hd:fr.defers=[])(hf:Q.funcs[fr.fn]?=some fn)(hr:fn.results=#[])
 (hPF:PF.mode= .returning∨∃v,PF.mode= .panicking [{v:=v,recovered:=true}]) (m:Bool) (w:AS):stepG Q m (bY fr (PF::cs)) w= .go (bY {PF with mode:=.returning} cs) w:=by
 have h1:=results_none hr fr.tmps Q w;have h2:(results fn fr.tmps).events Q w #[]=#[]:=events_results_none hr _ _;unfold stepG bY;dsimp only;rw[hm];dsimp only;unfold unwind;rw[hd];dsimp only;rw[hm];dsimp only;rw[hf];dsimp only;rw[Sem.runT_eq,h1,h2];dsimp only;rw[seen_none];unfold doReturn;dsimp only;rw[hk];dsimp only;rcases hPF with h|⟨v,h⟩
 ·rw[h];dsimp only;have:PF= {PF with mode:=.returning}:=by rw[← h]
  rw[← this];rfl
 ·rw[h];rfl
theorem cR.N6(hm:fr.mode= .returning)(hk:fr.kind= .deferred)(hd:fr.defers=[])(hf:Q.funcs[fr.fn]?=some fn)(hr:fn.results=#[])
 (hPF:PF.mode= .returning∨∃v,PF.mode= .panicking [{v:=v,recovered:=true}]) (k1:cR Q R (bY {PF with mode:=.returning} cs) w):cR Q R (bY fr (PF::cs)) w:=
 cR.ctl (fun w=>Bn hm hk hd hf hr hPF true w) rfl k1
theorem Bm(hm:fr.mode= .returning)(hk:fr.kind= .normal)(hd:fr.defers=[])(hf:Q.funcs[fr.fn]?=some fn){u:AS}(hr:(results fn fr.tmps).run Q u= .ok v u):
 ∃E,stepG Q true (bY fr (c::cs)) u= .go (bY (c.finish v) cs) u E∧deafBehind 0 E=0:=by
 refine⟨seen Q fr.fn ((results fn fr.tmps).runT Q u #[]).2,?_,?_⟩
 ·unfold stepG bY;dsimp only;rw[hm];dsimp only;unfold unwind;rw[hd];dsimp only;rw[hm];dsimp only;rw[hf];dsimp only;rw[Sem.runT_eq,hr];dsimp only;unfold doReturn;dsimp only;rw[hk];simp[GStep.after]
 ·rcases js 0 (vK (P:=Q) fn fr.tmps).hu u #[] ii with⟨_,_,_,hl⟩|⟨x,u2,e1,_⟩
  ·exact(dT Q _ hl.ev).trans hl.deaf
  ·rw[Sem.runT_fst,hr]at e1;cases e1
theorem cR.N5(hm:fr.mode= .returning)(hk:fr.kind= .normal)(hd:fr.defers=[])(hf:Q.funcs[fr.fn]?=some fn)(hr:∀τ d,(results fn fr.tmps).run Q (af w τ d)= .ok v (af w τ d))
 (k1:cR Q R (bY (c.finish v) cs) w):cR Q R (bY fr (c::cs)) w:=fun m t hF=>
 hF.go rfl (fun τ d=>by obtain⟨E,h1,h2⟩:=Bm (c:=c) (cs:=cs) hm hk hd hf (hr τ d);exact⟨d,E,h1,h2⟩) k1
end
def ou(n:Nat)(w:AS):AS:= {w with heap:=w.heap.extract 0 n}
section
variable{n:Nat}{w w':AS}{h1:Array Obj}
theorem lR(i:Nat):(ou n w).heap[i]?=if i<n then w.heap[i]? else none:=by
 unfold ou;dsimp only;rw[Array.getElem?_extract];simp only[Nat.sub_zero,Nat.zero_add];split
 ·rename_i h;rw[if_pos (by omega)]
 ·rename_i h;split
  ·rw[Q2 (by omega)]
  ·rfl
theorem GP(h:n≤w.heap.size):(ou n w).heap.size=n:=by
 unfold ou;simp;omega
theorem Ia(hp:bj h1 w w')(n:Nat):bj h1 (ou n w) (ou n w'):=by
 refine⟨by unfold ou;simp[hp.size],hp.tape,hp.drawn,hp.os,hp.output,fun i=> ?_,fun i hi=> ?_⟩
 ·rw[lR,lR];split
  ·exact hp.blk i
  ·exact .inl rfl
 ·rw[lR]at hi ⊢;split at hi
  ·rename_i h;rw[if_pos h];exact hp.keep i hi
  ·cases hi
theorem GQ{we:AS}(h:n=we.heap.size)(hk:∀b,b<n→w.heap[b]?=we.heap[b]?):(ou n w).heap=we.heap:=by
 apply QY;intro i;rw[lR];split
 ·rename_i hi;exact hk i hi
 ·rw[Q2 (by omega)]
theorem ys{we:AS}(h:w.heap=we.heap)(w':AS):cP w w'=cP we w':=by
 unfold cP;rw[h]
theorem IU{Q:IS}{h0:Array Obj}{we wc wc':AS}{g:PK}{m:Machine}{t:Trace}(hp:bj h1 wc wc')(ho:th h0 h1)(hu:Under h0 we)(h2:we.heap.size≤wc.heap.size)(hk:∀b,b<we.heap.size→wc.heap[b]?=we.heap[b]?)
 (hold:∀b,b<we.heap.size→w'.heap[b]?=wc'.heap[b]?) (hle:we.heap.size≤w'.heap.size) (hF:gj Q g w' m t):qp h0 Q g (cP we w') m t:=by
 have e:=GQ (w:=wc) rfl hk;have hs:(ou we.heap.size wc).heap.size=we.heap.size:=GP h2;have:=Gx (w:=ou we.heap.size wc) (w0':=ou we.heap.size wc') (Ia hp _) ho ⟨by rw[hs];exact hu.le,fun i hi h3=>by have h1:=hu.le;rw[lR,if_pos (by omega),hk i (by omega)];exact hu.st i hi h3⟩ (fun b hb=>by
  rw[hs]at hb;rw[lR,if_pos hb];exact hold b hb) (by rw[hs];exact hle) hF
 rwa [ys e]at this
end
end
section
open Go.RowKit Go.Conc
attribute [local instance] dP
noncomputable def duo(w:AS)(nb gb eb:Nat)(s:ByteArray)(fl:Nat)(all:List Tok)(cs:List PY)(k:Nat):Duo where
 Q:=Tryz.prog
 βA:=bA
 βB:=bB
 DA:=DX
 DB:=DX
 dtA:=tZ
 dtB:=[]
 RoA:=fun i=>i=w.heap.size+1
 RoB:=Jy w.heap.size
 os:=w.os
 restA:=cs
 restB:=[]
 k:=k
 rA:=w.heap.size
 rB:=w.heap.size
 capA:=0
 capB:=s.size+1
 tmA:=false
 tmB:=false
 rcB:=0
 c:=w.heap.size
 eA:=w.heap.size+4
 TA:=(all.map (Tok.val (w.heap.size+4))).toArray
 N0:=w.heap.size+4
 h0:=(fM w s fl (decide (fl%2=1))).heap
 out0:=w.output
 MA:=fun b=>b=nb∨b=gb∨b=eb
 MB:=fun b=>b=w.heap.size+2
 cls:=false
 lo:=w.heap.size+3
def zR(n nb gb eb:Nat):eJ:= {nb,gb,eb,r:=n,e:=n+4,cap:=0,tm:=false,B:=n+5}
def ui(n:Nat)(s:ByteArray)(fl:Nat)(m:Int):bt:= {x:=n+2,r:=n,cap:=s.size+1,rc:=0,tm:=false,m:=m,s:=s,fl:=fl,fold:=decide (fl%2=1)}
theorem pq.ab{E:eJ}{ops:Array Oper}{k:List Item}{D0:PY}{w0:AS}{x:cO Nd}{g:PK}{w w':AS}(h:pq E ops k D0 w0 x g w)(he:w'.heap=w.heap):pq E ops k D0 w0 x g w':=by
 obtain⟨a,PF,pb,h1,h2,h3,⟨s,rc,h4⟩,h5⟩:=h;exact⟨a,PF,pb,h1,h2,h3,⟨s,rc,by rw[he];exact h4⟩,h5.ab he⟩
theorem rv.ab{E:bt}{ob xb:Nat}{all:List Tok}{wr:Option (Int×Int)}{D0:PY}{w0:AS}{g:PK}{w w':AS}(h:rv E ob xb all wr D0 w0 g w)(he:w'.heap=w.heap):rv E ob xb all wr D0 w0 g w':=by
 obtain⟨a,h1,h2,⟨h3,p,F,e,h4,h5,h6⟩⟩:=h;exact⟨a,h1,h2,h3.ab he,p,F,e,h4.ab he,h5,fun q hq=>⟨(h6 q hq).1.ab he,(h6 q hq).2⟩⟩
theorem FV:dc DX:=⟨fun it hi=>by
 simp only[DX,By]at hi;subst hi;rfl,fun d hd=>by
 simp only[DX,By]at hd;subst hd;trivial⟩
section
variable{t0 t1 t2 t4 t5 p0 p1 p4 p5 p6 p7 p8:Code}{iT iP:Nat}{opsT opsP:Array Oper}
set_option maxRecDepth 100000 in
theorem tokF(hT:(Tryz.f91).body=some (.seq t0 (.seq t1 (.seq t2 (.seq (.region iT opsT false) (.seq t4 t5))))))(n:Nat)(s:ByteArray)(fl:Nat):
 ck Tryz.prog tZ false (oz.at (goT n s fl) (.inRegion opsT []::[.code (.seq t4 t5)]))∧dc (oz.at (goT n s fl) (.inRegion opsT []::[.code (.seq t4 t5)])):=by
 cases hT;refine⟨⟨rfl,fun i hi=> ?_,fun t ht=> ?_,(fun d hd=>nomatch hd),.inl rfl,by kernel_rfl⟩,fun it hi=> ?_,(fun d hd=>nomatch hd)⟩
 ·simp only[Frame.at,Qe,Qg,or_false]at hi;rcases hi with rfl|rfl
  ·exact fun i hi=>by cases hi
  ·show codeOk Tryz.prog tZ false 91 _=true;kernel_rfl
 ·simp[tZ,oz,Frame.at]at ht
 ·simp only[Frame.at,Qe,Qg,or_false]at hi;rcases hi with rfl|rfl
  ·exact fun i hi=>by cases hi
  ·show cW _=true;kernel_rfl
set_option maxRecDepth 100000 in
theorem NA(hP:(Tryz.f53).body=some (.seq p0 (.seq p1 (.seq (.region iP opsP false) (.seq p4 (.seq p5 (.seq p6 (.seq p7 p8))))))))(nb gb eb:Nat)(s:ByteArray)(fl:Nat):
 (ck Tryz.prog tZ false (gi.at (oY nb gb eb s fl) (.inRegion opsP [2,3,4,5,6]::[.code (.seq p4 (.seq p5 (.seq p6 (.seq p7 p8))))]))∧dc (gi.at (oY nb gb eb s fl) (.inRegion opsP [2,3,4,5,6]::[.code (.seq p4 (.seq p5 (.seq p6 (.seq p7 p8))))])))∧
 mh tZ (gi.at (oY nb gb eb s fl) (.inRegion opsP [2,3,4,5,6]::[.code (.seq p4 (.seq p5 (.seq p6 (.seq p7 p8))))])):=by
 cases hP;refine⟨⟨⟨rfl,fun i hi=> ?_,fun t ht=> ?_,(fun d hd=>nomatch hd),.inl rfl,by kernel_rfl⟩,fun it hi=> ?_,(fun d hd=>nomatch hd)⟩,fun o t ho hd=> ?_⟩
 ·simp only[Frame.at,Qe,Qg,or_false]at hi;rcases hi with rfl|rfl
  ·refine pK (f:=53) ?_ _;kernel_rfl
  ·show codeOk Tryz.prog tZ false 53 _=true;kernel_rfl
 ·obtain rfl:t=19:=by simpa[tZ,gi,Frame.at]using ht
  exact jT
 ·simp only[Frame.at,Qe,Qg,or_false]at hi;rcases hi with rfl|rfl
  ·refine vA (id:=0) (draw:=false) ?_ _;kernel_rfl
  ·show cW _=true;kernel_rfl
 ·cases ho;cases hd;show(53,16)∉[(53,19)];decide
end
set_option maxRecDepth 100000 in
theorem NT(n:Nat):ck Tryz.prog [] true {lj with defers:=[{target:=.fn (.func 115) #[vp (n+1),vp (n+3)],args:=#[]}]}∧dc {lj with defers:=[{target:=.fn (.func 115) #[vp (n+1),vp (n+3)],args:=#[]}]}:=by
 refine⟨⟨rfl,(fun i hi=>nomatch hi),(fun t ht=>nomatch ht),fun d hd=> ?_,.inl rfl,?_⟩,(fun it hi=>nomatch hi),fun d hd=> ?_⟩
 ·obtain rfl:=By.1 hd;rfl
 ·show Tryz.prog.inits.idxOf? Tryz.prog.funcs.size=none;kernel_rfl
 ·obtain rfl:=By.1 hd;trivial
set_option maxHeartbeats 2000000 in
theorem Gc{t0 t1 t2 t4 t5 p0 p1 p4 p5 p6 p7 p8 q0 q1 q2 q3 cQ:Code}{i iT iP iQ:Nat}{opsT opsP opsQ:Array Oper}
 (hT:(Tryz.f91).body=some (.seq t0 (.seq t1 (.seq t2 (.seq (.region iT opsT false) (.seq t4 t5))))))
 (hP:(Tryz.f53).body=some (.seq p0 (.seq p1 (.seq (.region iP opsP false) (.seq p4 (.seq p5 (.seq p6 (.seq p7 p8))))))))
 (hQ:(Tryz.f92).body=some (.seq (.seq q0 (.seq q1 q2)) (.seq q3 (.block i (.loop (.seq (.region iQ opsQ false) cQ))))))
 {w:AS} {nb gb eb:Nat} {s:ByteArray} {fl:Nat} {cs:List PY} {tC tM:Ql} {m:Int} {all:List Tok} {wr:Option (Int×Int)} {x:cO Nd} (hs:s.size≤1000) (hfl:fl<256) (hat:yP w nb gb eb) (hg:JR w im.toArray tC tM m)
 (hall:eE (decide (fl/2%2=1)) (decide (fl%2=1)) s.data.toList (s.data.toList.length+1) 0=some (all,wr)) (hx:oa pu all=some x)
 {gs:Array PK} {sl:Option (Nat×Nat)} {q:Nat→Nat} {t:Trace} {k:Nat} (k0:k≠0)
 (C:dj Tryz.prog k (G (oz.at (goT w.heap.size s fl) (.inRegion opsT []::[.code (.seq t4 t5)])) (gi.at (oY nb gb eb s fl) (.inRegion opsP [2,3,4,5,6]::[.code (.seq p4 (.seq p5 (.seq p6 (.seq p7 p8))))])::cs))
  (born Tryz.prog {target:=.fn (.func 115) #[vp (w.heap.size+1),vp (w.heap.size+3)],args:=#[]}) gs q t) (ht:PT k (fun _=>False) (fun _=>False) t):
 Runs Tryz.prog (crowd gs (fM w s fl (decide (fl%2=1))) sl) t (Done (duo w nb gb eb s fl all cs k)
  (pq (zR w.heap.size nb gb eb) opsQ [.code cQ,.inLoop (.seq (.region iQ opsQ false) cQ),.inBlock i] DX (ghost (fM w s fl (decide (fl%2=1))) (w.heap.size+5) (gJ w.heap.size nb gb eb 0 (all.map (Tok.val (w.heap.size+4))).toArray)) x)
  (rv (ui w.heap.size s fl m) (w.heap.size+1) (w.heap.size+3) all wr DX (ghost (fM w s fl (decide (fl%2=1))) (w.heap.size+4) (fw w.heap.size (s.size+1) s fl (decide (fl%2=1)) im.toArray tC tM m)))):=by
 have h1:=hat.n.lt';have h2:=hat.g.lt';have h3:=hat.e.lt';have h4:=hat.ln;have h5:=hat.lg;have h6:=hat.le;have hgl:=vO;have PA0:= @MU w nb gb eb 0 (all.map (Tok.val (w.heap.size+4))).toArray hat s fl (decide (fl%2=1));have PB0:=MT (cap:=s.size+1) hat.glob hg (by omega) s fl (decide (fl%2=1));generalize hfA:gJ w.heap.size nb gb eb 0 (all.map (Tok.val (w.heap.size+4))).toArray=fA at PA0 ⊢;generalize hfB:fw w.heap.size (s.size+1) s fl (decide (fl%2=1)) im.toArray tC tM m=fB at PB0 ⊢;have a1:fA nb=some (.cells #[.nilIface] 86):=by rw[← hfA];unfold gJ;rw[if_pos rfl]
 have a2:fA gb=some (.cells #[.int .i64 0] 3):=by rw[← hfA];unfold gJ;rw[if_neg (PV hat.n_g),if_pos rfl]
 have a3:fA eb=some (.cells #[.nilIface] 105):=by rw[← hfA];unfold gJ;rw[if_neg (PV hat.n_e),if_neg (PV hat.g_e),if_pos rfl]
 have a4:fA w.heap.size=some (.chan 0 (all.map (Tok.val (w.heap.size+4))).toArray false 0 0 false):=by rw[← hfA];unfold gJ;rw[if_neg (by omega),if_neg (by omega),if_neg (by omega),if_pos rfl]
 have a5:fA (w.heap.size+1)=some (.cells #[.chan (some w.heap.size)] 239 (0,1)):=by rw[← hfA];unfold gJ;rw[if_neg (by omega),if_neg (by omega),if_neg (by omega),if_neg (by omega),if_pos rfl]
 have ak:∀i o,fA i=some o→i=nb∨i=gb∨i=eb∨(i=w.heap.size∧o.isChan=true)∨i=w.heap.size+1:=fun i o hf=>by
  rw[← hfA]at hf;unfold gJ at hf;repeat' split at hf
  all_goals first
   |(cases hf;simp_all[Obj.isChan];done)
   |(cases hf)
 have b3:fB w.heap.size=some (.chan (s.size+1) #[] false 0 0 false):=by rw[← hfB];unfold fw;rw[if_neg (by omega),if_neg (by omega),if_pos rfl]
 have b1:fB 1=some (.cells im.toArray tC (0,im.toArray.size)):=by rw[← hfB];unfold fw;rw[if_pos rfl]
 have b2:fB 2=some (.cells #[.int .i64 m] tM (0,1)):=by rw[← hfB];unfold fw;rw[if_neg (by decide),if_pos rfl]
 have b4:fB (w.heap.size+1)=some (.cells #[.chan (some w.heap.size)] 239 (0,1)):=by rw[← hfB];unfold fw;rw[if_neg (by omega),if_neg (by omega),if_neg (by omega),if_pos rfl]
 have b5:fB (w.heap.size+2)=some (.cells (jb s 0 fl w.heap.size (decide (fl%2=1))) 243):=by rw[← hfB];unfold fw;rw[if_neg (by omega),if_neg (by omega),if_neg (by omega),if_neg (by omega),if_pos rfl]
 have b6:fB (w.heap.size+3)=some (.cells #[.pointer (some ⟨w.heap.size+2,0,none⟩)] 240 (0,1)):=by rw[← hfB];unfold fw;rw[if_neg (by omega),if_neg (by omega),if_neg (by omega),if_neg (by omega),if_neg (by omega),if_pos rfl]
 have bk:∀i o,fB i=some o→i=1∨i=2∨(i=w.heap.size∧o.isChan=true)∨i=w.heap.size+1∨i=w.heap.size+2∨i=w.heap.size+3:=fun i o hf=>by
  rw[← hfB]at hf;unfold fw at hf;repeat' split at hf
  all_goals first
   |(cases hf;simp_all[Obj.isChan];done)
   |(cases hf)
 have kA0:iY Tryz.prog (vy w.heap.size nb gb eb) (w.heap.size+5) (fM w s fl (decide (fl%2=1))).heap.size:=PA0.part;clear hfA hfB;obtain⟨ft1,ft2⟩:=tokF hT w.heap.size s fl;obtain⟨⟨fp1,fp2⟩,fp3⟩:=NA hP nb gb eb s fl;obtain⟨fb1,fb2⟩:=NT w.heap.size;let Z:=duo w nb gb eb s fl all cs k
 let gA:PK:=bY (oz.at (goT w.heap.size s fl) (.inRegion opsT []::[.code (.seq t4 t5)])) ([gi.at (oY nb gb eb s fl) (.inRegion opsP [2,3,4,5,6]::[.code (.seq p4 (.seq p5 (.seq p6 (.seq p7 p8))))])]++[DX])
 let gB:PK:=bY {lj with defers:=[{target:=.fn (.func 115) #[vp (w.heap.size+1),vp (w.heap.size+3)],args:=#[]}]} ([]++[DX])
 have I:Inv2 Z 0 (vy w.heap.size nb gb eb) gA (ghost (fM w s fl (decide (fl%2=1))) (w.heap.size+5) fA) (G (oz.at (goT w.heap.size s fl) (.inRegion opsT []::[.code (.seq t4 t5)])) (gi.at (oY nb gb eb s fl) (.inRegion opsP [2,3,4,5,6]::[.code (.seq p4 (.seq p5 (.seq p6 (.seq p7 p8))))])::cs))
  (DD w.heap.size) gB (ghost (fM w s fl (decide (fl%2=1))) (w.heap.size+4) fB) (born Tryz.prog {target:=.fn (.func 115) #[vp (w.heap.size+1),vp (w.heap.size+3)],args:=#[]}) (fM w s fl (decide (fl%2=1))) t:=by
  refine inv_start (Z:=Z) (tm:=false) (sA:=0) (rcA:=0) (sB:=0) PA0 PB0 (M6 ..) (il ft1 (fun c hc=>by obtain rfl:=By.1 hc;exact fp1) ⟨fun _=>fp3,rfl⟩) (il fb1 (fun c hc=>by cases hc) rfl)
   ⟨ft2,fun c hc=> ?_,nofun,nofun⟩ ⟨fb2,fun c hc=> ?_,nofun,nofun⟩ rfl rfl (fun σ hσ=> ?_) (fun σ hσ=> ?_) a4 (fun i o hf hc=> ?_) rfl b3 (fun i o hf hc=> ?_) rfl (E6 ..) (by show w.heap.size+4<_;omega) ?_ (fun i hi=> ?_) (fun i j hi hj he=> ?_) ht
   (fun i hi hr hlt=> ?_) (fun i hi hr hlt=> ?_) (fun b _ _ _ _=>rfl) (by rw[ux];exact IN _) (KX ..)
  ·have hc:c∈[_,DX]:=hc;simp only[Qe,Qg,or_false]at hc;rcases hc with rfl|rfl
   ·exact fp2
   ·exact FV
  ·have hc:c∈[DX]:=hc;obtain rfl:=By.1 hc;exact FV
  ·have e:= @fU σ cs (oz.at (goT w.heap.size s fl) (.inRegion opsT []::[.code (.seq t4 t5)])) [gi.at (oY nb gb eb s fl) (.inRegion opsP [2,3,4,5,6]::[.code (.seq p4 (.seq p5 (.seq p6 (.seq p7 p8))))])] DX;have k:∀i,(vy w.heap.size nb gb eb).K i→σ i=i:=fun i hi=>hσ.2 i hi
   rw[Kq (k _ (.inr (.inr (.inr (.inr (.inl rfl)))))) (k _ (.inr (.inr (.inr (.inr (.inr (.inl rfl))))))) (k _ (.inr (.inr (.inr (.inr (.inr (.inr (.inl rfl)))))))) (k _ (.inr (.inr (.inr (.inr (.inr (.inr (.inr rfl))))))))]at e;simp only[List.map_cons,List.map_nil]at e;rw[Kr (k _ (.inr (.inl rfl))) (k _ (.inr (.inr (.inl rfl)))) (k _ (.inr (.inr (.inr (.inl rfl)))))]at e;exact e
  ·have e:= @fU σ [] {lj with defers:=[{target:=.fn (.func 115) #[vp (w.heap.size+1),vp (w.heap.size+3)],args:=#[]}]} [] DX;have k:∀i,(DD w.heap.size).K i→σ i=i:=fun i hi=>hσ.2 i hi
   rw[Ks (k _ (.inr (.inr (.inl rfl)))) (k _ (.inr (.inr (.inr (.inr rfl)))))]at e;exact e
  ·rcases ak i o hf with rfl|rfl|rfl|⟨rfl,_⟩|rfl
   ·rw[a1]at hf;cases hf;cases hc
   ·rw[a2]at hf;cases hf;cases hc
   ·rw[a3]at hf;cases hf;cases hc
   ·rfl
   ·rw[a5]at hf;cases hf;cases hc
  ·rcases bk i o hf with rfl|rfl|⟨rfl,_⟩|rfl|rfl|rfl
   ·rw[b1]at hf;cases hf;cases hc
   ·rw[b2]at hf;cases hf;cases hc
   ·rfl
   ·rw[b4]at hf;cases hf;cases hc
   ·rw[b5]at hf;cases hf;cases hc
   ·rw[b6]at hf;cases hf;cases hc
  ·show¬ (vy w.heap.size nb gb eb).K (w.heap.size+4);rintro(h|h|h|h|h|h|h|h)<;>omega
  ·rcases hi with hi|rfl|rfl|rfl|rfl|rfl|rfl|rfl
   ·exact .inr (.inl ⟨i,by show i≤w.heap.size+3;omega,.inl hi,rfl⟩)
   ·exact .inl ⟨_,_,_,a1⟩
   ·exact .inl ⟨_,_,_,a2⟩
   ·exact .inl ⟨_,_,_,a3⟩
   ·exact .inr (.inr rfl)
   ·exact .inl ⟨_,_,_,a5⟩
   ·exact .inr (.inl ⟨_,by show w.heap.size+2≤w.heap.size+3;omega,.inr (.inr (.inr (.inl rfl))),rfl⟩)
   ·exact .inr (.inl ⟨_,IN _,.inr (.inr (.inr (.inr rfl))),rfl⟩)
  ·have he:i=j:=he;subst he;obtain⟨c1,e1,z1,hi⟩:=hi;obtain⟨c2,e2,z2,hj⟩:=hj;show i=w.heap.size+1∧Jy w.heap.size i;rcases ak i _ hi with rfl|rfl|rfl|⟨rfl,hc⟩|rfl
   ·rcases bk _ _ hj with h|h|⟨h,_⟩|h|h|h<;>omega
   ·rcases bk _ _ hj with h|h|⟨h,_⟩|h|h|h<;>omega
   ·rcases bk _ _ hj with h|h|⟨h,_⟩|h|h|h<;>omega
   ·cases hc
   ·exact⟨rfl,.inr (.inr (.inl rfl))⟩
  ·obtain⟨c1,e1,z1,hi⟩:=hi;rcases ak i _ hi with rfl|rfl|rfl|⟨rfl,hc⟩|rfl
   ·exact .inl rfl
   ·exact .inr (.inl rfl)
   ·exact .inr (.inr rfl)
   ·cases hc
   ·exact absurd rfl hr
  ·obtain⟨c1,e1,z1,hi⟩:=hi;rcases bk i _ hi with rfl|rfl|⟨rfl,hc⟩|rfl|rfl|rfl
   ·exact absurd (.inl rfl) hr
   ·exact absurd (.inr (.inl rfl)) hr
   ·cases hc
   ·exact absurd (.inr (.inr (.inl rfl))) hr
   ·rfl
   ·exact absurd (.inr (.inr (.inr rfl))) hr
 have hne:∀(b:Nat),b=nb∨b=gb∨b=eb→b<w.heap.size:=fun b hb=>by rcases hb with rfl|rfl|rfl<;>assumption
 have TA:=DE (T:=Jv) hT hP hQ (E:=zR w.heap.size nb gb eb) (D0:=DX) (ob:=w.heap.size+1) (w:=ghost (fM w s fl (decide (fl%2=1))) (w.heap.size+5) fA) (x:=x) (aT:=goT w.heap.size s fl) (aP:=oY nb gb eb s fl) (ts:=all)
  (v7:=undef) (n0:=.nilIface) (g0:=.int .i64 0) (e0:=.nilIface) (s:=0) (rc:=0) (by show w.heap.size<w.heap.size+5;omega) ⟨by show w.heap.size≠nb;omega,by show w.heap.size≠gb;omega,by show w.heap.size≠eb;omega⟩ ⟨hat.n_g,hat.n_e,hat.g_e⟩
  ⟨by show nb<w.heap.size+5;omega,by show gb<w.heap.size+5;omega,by show eb<w.heap.size+5;omega⟩ hx (by rw[iM];rfl) (by
   unfold PZ;rw[eI (by show w.heap.size+1<_;omega) a5];rfl) (eI (by show w.heap.size<_;omega) a4)
  ⟨eI (by show nb<_;omega) a1,eI (by show gb<_;omega) a2,eI (by show eb<_;omega) a3⟩ (M8 ..) ⟨rfl,rfl,rfl,rfl,rfl,rfl⟩ I.SA.iv
 have TB:=ES (T:=Ju) (E:=ui w.heap.size s fl m) (ob:=w.heap.size+1) (xb:=w.heap.size+3) (all:=all) (wr:=wr) (w:=ghost (fM w s fl (decide (fl%2=1))) (w.heap.size+4) fB) (D0:=DX) hs (IN _) hfl
  ⟨eI (by show w.heap.size+2<_;omega) b5,⟨0,eI (by show w.heap.size<_;omega) b3⟩,by
   unfold PZ;rw[eI (by show 2<_;omega) b2];rfl,⟨_,_,eI (by show 1<_;omega) b1⟩⟩
  ⟨by
   unfold PZ;rw[eI (by show w.heap.size+1<_;omega) b4];rfl,by
   unfold PZ;rw[eI (by show w.heap.size+3<_;omega) b6];rfl⟩ (by simp[ui]) (by simp[ui]) hall I.SB.iv
 have TA':=TA.Ey (K':=pq (zR w.heap.size nb gb eb) opsQ [.code cQ,.inLoop (.seq (.region iQ opsQ false) cQ),.inBlock i] DX (ghost (fM w s fl (decide (fl%2=1))) (w.heap.size+5) fA) x) fun g u ⟨τ,d,h⟩=>.stop (h.ab rfl)
 have TB':=TB.Ey (K':=rv (ui w.heap.size s fl m) (w.heap.size+1) (w.heap.size+3) all wr DX (ghost (fM w s fl (decide (fl%2=1))) (w.heap.size+4) fB)) fun g u ⟨τ,d,h⟩=>.stop (h.ab rfl)
 have HY:=M3 (Z:=Z) (A:=zR w.heap.size nb gb eb) (B:=ui w.heap.size s fl m) hQ (ob:=w.heap.size+1) (xb:=w.heap.size+3) (all:=all) (wr:=wr) (k:=[.code cQ,.inLoop (.seq (.region iQ opsQ false) cQ),.inBlock i])
  (wA:=ghost (fM w s fl (decide (fl%2=1))) (w.heap.size+5) fA) (wB:=ghost (fM w s fl (decide (fl%2=1))) (w.heap.size+4) fB) (x:=x) hall rfl rfl rfl rfl rfl rfl rfl k0 rfl rfl rfl rfl rfl rfl rfl rfl
  (by rw[iM];show w.heap.size+3<_;omega) (fun i hi=>by
   rw[iM];rcases hi with rfl|rfl|rfl|rfl<;>omega)
 exact pair (Z:=Z) rfl HY (KZ rfl rfl rfl) TA' TB' I C
end
section
open Go.RowKit
theorem BQ{σ:Nat→Nat}{w w':AS}{base base':Nat}{e:Ql}{size n:Nat}{v:AT}{xs:List AT}(h:w.ownsRow base e size v n xs)(hb:∀b,v.ownBlock=some b→base'≤σ b)
 (hk:∀b c,v.ownBlock=some b→w.heap[b]?=some (.cells c e (0,0))→w'.heap[σ b]?=some (.cells (c.map (a7 σ)) e (0,0))):w'.ownsRow base' e size (a7 σ v) n (xs.map (a7 σ)):=by
 obtain⟨h1,h2⟩:=h;refine⟨by simpa using h1,?_⟩;rcases h2 with⟨rfl,h2⟩|⟨g,cap,cur,rfl,h3,h4,h5,h6,h7,h8⟩
 ·exact .inl ⟨by simp,h2⟩
 ·refine .inr ⟨σ g,cap,cur.map (a7 σ),by simp[bh],hb g rfl,hk g cur rfl h4,h5,h6,by simpa using h7,?_⟩;rw[← h8];simp[List.map_take]
theorem zC{σ:Nat→Nat}{v:AT}{b:Nat}(h:(a7 σ v).ownBlock=some b):∃a,v.ownBlock=some a∧b=σ a:=by
 cases v;case slice a n c=>
  cases a with
  |none=>simp[QQ]at h
  |some a=>exact⟨a.block,rfl,by simpa[QQ,eq_comm]using h⟩
 all_goals simp[QQ]at h
theorem Repr.ren{σ:Nat→Nat}{w w':AS}{S S':Nat→Prop}{v:AT}{nd:Nd}(h:Repr w S v nd)(hk:∀b t c,S b→w.heap[b]?=some (.cells c t (0,0))→w'.heap[σ b]?=some (.cells (c.map (a7 σ)) t (0,0))∧S' (σ b)):Repr w' S' (a7 σ v) nd:=by
 have blk:∀{q t c},S q→ac w q t c→ac w' (σ q) t (c.map (a7 σ)):=fun hs hb=>(hk _ _ _ hs hb).1
 have ins:∀{q t c},S q→ac w q t c→S' (σ q):=fun hs hb=>(hk _ _ _ hs hb).2
 have row:∀{sl:AT}{vs:List AT},w.ownsRow 0 86 1 sl vs.length vs→(∀b,sl.ownBlock=some b→S b)→w'.ownsRow 0 86 1 (a7 σ sl) (vs.map (a7 σ)).length (vs.map (a7 σ)):=fun h1 h2=>by
  rw[List.length_map];exact BQ h1 (fun _ _=>Qr _) fun b c e hb=>(hk b _ c (h2 b e) hb).1
 have own:∀{sl:AT}{vs:List AT},w.ownsRow 0 86 1 sl vs.length vs→(∀b,sl.ownBlock=some b→S b)→∀b,(a7 σ sl).ownBlock=some b→S' b:=fun{sl vs} h1 h2 b hb=>by
  obtain⟨a,ha,rfl⟩:=zC hb;rcases h1.2 with⟨rfl,_⟩|⟨g,cap,cur,rfl,_,h4,_⟩
  ·cases ha
  ·cases ha;exact(hk g _ _ (h2 g rfl) h4).2
 have kid:∀{vs:List AT}{ks:List Nd}{S2:Nat→Prop},(∀(i:Nat) v k,vs[i]?=some v→ks[i]?=some k→Repr w' S2 (a7 σ v) k)→∀(i:Nat) v k,(vs.map (a7 σ))[i]?=some v→ks[i]?=some k→Repr w' S2 v k:=fun hh i v k h1 h2=>by
  rw[QZ,PD]at h1;obtain⟨u,hu,rfl⟩:=h1;exact hh i u k hu h2
 induction h with
 |set hs hb=>simpa[bh]using Repr.set (ins hs hb) (by simpa using blk hs hb)
 |edge hs hb=>simpa[bh]using Repr.edge (ins hs hb) (by simpa using blk hs hb)
 | @seq q id sl ks vs hs hb ho hS hl _ ih=>simpa[bh]using Repr.seq (ins hs hb) (by simpa using blk hs hb) (row ho hS) (own ho hS) (by simpa using hl) (kid fun i v k h1 h2=>ih i v k h1 h2)
 | @alt q id sl ks vs hs hb ho hS hl _ ih=>simpa[bh]using Repr.alt (ins hs hb) (by simpa using blk hs hb) (row ho hS) (own ho hS) (by simpa using hl) (kid fun i v k h1 h2=>ih i v k h1 h2)
 |grp hs hb _ ih=>simpa[bh]using Repr.grp (ins hs hb) (by simpa using blk hs hb) ih
 |rep hs hb _ ih=>simpa[bh]using Repr.rep (ins hs hb) (by simpa using blk hs hb) ih
end
section
open Go.RowKit Go.Conc
attribute [local instance] dP
theorem kF{P:IS}{t:Ql}{b:Nat}{v:AT}{w:AS}(h0:∀w,(isAgg t).run P w= .ok false w)(hc:w.cell? ⟨b,0,none⟩=some v):(loadVar t ⟨b,0,none⟩).run P w= .ok v w:=by
 simp[loadVar,Sem.run_bind,h0,R7,go_sem,hc]
theorem uD{w:AS}{b:Nat}{v:AT}{f:AT→AT}{t:Ql}{z:Nat×Nat}(h:w.heap[b]?=some (.cells (Array.map f #[v]) t z)):w.cell? ⟨b,0,none⟩=some (f v):=by
 unfold PZ;dsimp only;rw[h];simp
theorem cR.app{Q:IS}{R:Machine→Trace→Prop}{g:PK}{w:AS}{m:Machine}{t:Trace}(h:cR Q R g w)(hF:gj Q g w m t):Runs Q m t R:=h m t hF
theorem ri{P:IS}{fn:Func}{p q r:Tmp}{t u v:Ql}(h:fn.results=#[.cell p t,.cell q u,.cell r v]){tmps:Array AT}{a b c:Nat}{x y z:AT}{w:AS}
 (ha:tmps.getD p undef=vp a) (hb:tmps.getD q undef=vp b) (hc:tmps.getD r undef=vp c) (la:(loadVar t ⟨a,0,none⟩).run P w= .ok x w) (lb:(loadVar u ⟨b,0,none⟩).run P w= .ok y w) (lc:(loadVar v ⟨c,0,none⟩).run P w= .ok z w):
 (results fn tmps).run P w= .ok (.tuple #[x,y,z]) w:=by
 simp only[results,h];rw[Array.getD_eq_getD_getElem?]at ha hb hc;simp[Sem.run_bind,R7,ha,hb,hc,asAddr,la,lb,lc]
def lY(n0:Nat)(w':AS)(wr:Option (Int×Int))(x:cO Nd)(v:AT):Prop:=match x with
 | .ok nd s=>∃nv,v= .tuple #[nv,.int .i64 s.g,.nilIface]∧Repr w' (fun b=>n0≤b) nv nd
 | .err y s=>∃q,v= .tuple #[.nilIface,.int .i64 0,.iface 133 (.pointer q)]∧(match y with
  | .own k a=>∃b,q=some ⟨b,0,none⟩∧n0≤b∧ac w' b 137 #[.int .i64 a,.int .i64 k]
  | .tok=>s.t.bad=true→∀p,wr=some p→∃b,q=some ⟨b,0,none⟩∧n0≤b∧ac w' b 137 #[.int .i64 p.2,.int .i64 p.1])
theorem lY.keep{n0:Nat}{w w':AS}{wr:Option (Int×Int)}{x:cO Nd}{v:AT}(h:lY n0 w wr x v)(hk:∀b t c,n0≤b→w.heap[b]?=some (.cells c t (0,0))→w'.heap[b]?=some (.cells c t (0,0)))(hs:∀b,n0≤b→b<w.heap.size→w'.heap[b]?=w.heap[b]?):lY n0 w' wr x v:=by
 cases x with
 |ok nd s=>obtain⟨nv,h1,h2⟩:=h;exact⟨nv,h1,h2.keep hs⟩
 |err y s=>
  obtain⟨q,h1,h2⟩:=h;refine⟨q,h1,?_⟩;cases y with
  |own k a=>obtain⟨b,h3,h4,h5⟩:=h2;exact⟨b,h3,h4,hk _ _ _ h4 h5⟩
  |tok=>exact fun hb p hp=>by obtain⟨b,h3,h4,h5⟩:=h2 hb p hp;exact⟨b,h3,h4,hk _ _ _ h4 h5⟩
theorem HK{ln fold:Bool}{l:List UInt8}:∀(n p:Nat){all:List Tok}{wr:Option (Int×Int)},p≤l.length→eE ln fold l n p=some (all,wr)→∀q,wr=some q→∃(i:Nat)(t:Tok),all[i]?=some t∧t.bad=true:=by
 intro n;induction n with
 |zero=>intro p all wr hp h;cases h
 |succ n ih=>
  intro p all wr hp h q hq;unfold eE at h;obtain⟨x,hx,_,_,hle,hok⟩:=eX ln fold l p hp;rw[hx]at h;dsimp only at h;cases hm:x.more with
  |true=>
   rw[if_pos hm,PD]at h;obtain⟨⟨ts,wr'⟩,h3,heq⟩:=h;simp only[Prod.mk.injEq]at heq;obtain⟨rfl,rfl⟩:=heq;obtain⟨i,t,h4,h5⟩:=ih x.p hle h3 q hq;exact⟨i+1,t,by simpa using h4,h5⟩
  |false=>
   rw[if_neg (by rw[hm];simp)]at h;cases h;exact⟨0,x.t,rfl,by rw[hok.bad,hq];rfl⟩
theorem Kv(σ:Nat→Nat)(b:PY)(a:Act)(todo:List Item):aH σ (b.at a todo)=b.at {tmps:=a.tmps.map (a7 σ),defers:=a.defers.map (km σ)} todo:=by
 rfl
section
variable{Z:Duo}{n:Nat}{pA pB:Part}{gA gA' gB gB':PK}{wA wB w':AS}{t:Trace}
theorem Inv2.AL(I:Inv2 Z n pA gA wA gA' pB gB wB gB' w' t){σ:Nat→Nat}(hσ:Ag pA σ){b:Nat}{ty:Ql}{c:Array AT}{z:Nat×Nat}(h:wA.heap[b]?=some (.cells c ty z))(hr:¬ Z.RoA b):w'.heap[σ b]?=some (.cells (c.map (a7 σ)) ty z):=
 ((I.SA.relW σ hσ).blk b _ h).2 hr
theorem Inv2.NS(I:Inv2 Z n pA gA wA gA' pB gB wB gB' w' t){σ:Nat→Nat}(hσ:Ag pB σ){b:Nat}{ty:Ql}{c:Array AT}{z:Nat×Nat}(h:wB.heap[b]?=some (.cells c ty z))(hr:¬ Z.RoB b):w'.heap[σ b]?=some (.cells (c.map (a7 σ)) ty z):=
 ((I.SB.relW σ hσ).blk b _ h).2 hr
end
set_option maxRecDepth 100000 in
set_option maxHeartbeats 2000000 in
theorem GN{q0 q1 q2 q3 cQ:Code}{i iQ:Nat}{opsQ:Array Oper}(hQ:(Tryz.f92).body=some (.seq (.seq q0 (.seq q1 q2)) (.seq q3 (.block i (.loop (.seq (.region iQ opsQ false) cQ))))))
 {R:Machine→Trace→Prop} {w:AS} {nb gb eb:Nat} {s:ByteArray} {fl:Nat} {c:PY} {cs:List PY} {m:Int} {all:List Tok} {wr:Option (Int×Int)} {x:cO Nd} {k n0:Nat} {wA0 wB0:AS} (hB0:w.heap.size+4≤wB0.heap.size)
 (hn:n0≤nb∧n0≤gb∧n0≤eb∧n0≤w.heap.size) (hlt:nb<w.heap.size∧gb<w.heap.size∧eb<w.heap.size) (hgl:Tryz.prog.globals.size<n0) (hall:eE (decide (fl/2%2=1)) (decide (fl%2=1)) s.data.toList (s.data.toList.length+1) 0=some (all,wr))
 (k1:∀w' v,lY n0 w' wr x v→(∀b,b<n0→w'.heap[b]?=w.heap[b]?)→n0≤w'.heap.size→w'.os=w.os→w'.output=w.output→cR Tryz.prog R (bY (c.finish v) cs) w')
 {mc:Machine} {t:Trace} (h:Done (duo w nb gb eb s fl all (c::cs) k) (pq (zR w.heap.size nb gb eb) opsQ [.code cQ,.inLoop (.seq (.region iQ opsQ false) cQ),.inBlock i] DX wA0 x) (rv (ui w.heap.size s fl m) (w.heap.size+1) (w.heap.size+3) all wr DX wB0) mc t):Runs Tryz.prog mc t R:=by
 obtain⟨pA,gA,wA,gA',pB,gB,wB,gB',w',c0,z,ok,t0,I,h1,hKB,hst,_,hF⟩:=h.Pd;obtain⟨z',hst2⟩:=Jx hQ h1;have hok:ok=true:=by
  have:=(hst true w).symm.trans (hst2 true w);simpa using(by simpa using this:_∧ok=true).2
 subst hok;obtain⟨a,PF,pb,rfl,hq,hPF,⟨s0,rc0,hch⟩,h3,nv,gv,ev,hRs,h0⟩:=h1;have hσ:Ag pA (pA.far w'.heap.size 0):=bI I.SA.part 0;have hτ:Ag pB (pB.far w'.heap.size 0):=bI I.SB.part 0;generalize pA.far w'.heap.size 0=σ at hσ;generalize pB.far w'.heap.size 0=τ at hτ;have hrel:=I.SA.relG σ hσ;have hroA:∀b,b≠w.heap.size+1→¬ (duo w nb gb eb s fl all (c::cs) k).shut.RoA b:=fun b hb h=>hb h
 have hin:∀b ty cc z,wA.heap[b]?=some (.cells cc ty z)→b≠w.heap.size+1→n0≤σ b:=fun b ty cc z hb hne=>by
  have hK:=I.SA.cells ⟨_,_,_,hb⟩;have e:σ b=pA.κ b:=hσ.2 b hK;rcases Qa (pA.κ b) (w.heap.size+4)with hl|hl
  ·rcases I.mA b ⟨_,_,_,hb⟩ (hroA b hne) hl with h|h|h<;>omega
  ·omega
 have hinB:∀b ty cc z,wB.heap[b]?=some (.cells cc ty z)→w.heap.size+4≤b→n0≤τ b∧¬ (duo w nb gb eb s fl all (c::cs) k).shut.RoB b:=fun b ty cc z hb hne=>by
  have hK:=I.SB.cells ⟨_,_,_,hb⟩;have e:τ b=pB.κ b:=hτ.2 b hK;have hg3:=vO;have hro:¬ (duo w nb gb eb s fl all (c::cs) k).shut.RoB b:=fun h=>by
   rcases h with h|h|h|h<;>omega
  refine⟨?_,hro⟩;rcases Qa (pB.κ b) (w.heap.size+4)with hl|hl
  ·have:pB.κ b=w.heap.size+2:=I.mB b ⟨_,_,_,hb⟩ hro hl;omega
  ·omega
 have hOut:lY n0 w' wr x (.tuple #[a7 σ nv,a7 σ gv,a7 σ ev]):=by
  cases x with
  |ok nd s2=>
   obtain⟨rfl,rfl,h4⟩:=h0;refine⟨a7 σ nv,by simp,?_⟩;refine h4.ren fun b ty cc hb hc=> ?_
   have hne:b≠w.heap.size+1:=by
    have:w.heap.size+5≤b:=hb;omega
   exact⟨I.AL hσ hc (hroA b hne),hin b _ _ _ hc hne⟩
  |err y s2=>
   obtain⟨rfl,rfl,q,rfl,hE⟩:=h0;refine⟨q.map (bh σ),by simp,?_⟩;cases y with
   |own kk aa=>
    obtain⟨b,rfl,hb,hc⟩:=hE;have hne:b≠w.heap.size+1:=by
     have:w.heap.size+5≤b:=hb;omega
    refine⟨σ b,rfl,hin b _ _ _ hc hne,?_⟩;have:=I.AL hσ hc (hroA b hne);show w'.heap[σ b]?=_;simpa using this
   |tok=>
    intro hbad p hp;obtain⟨a2,_,_,⟨_,p2,F,e,h7,h8,h9⟩⟩:=hKB;obtain⟨hce,hle⟩:=h9 p hp;obtain⟨h5,h6⟩:=hinB e _ _ _ hce (by omega);obtain⟨j,tk,hj,ha⟩:=HK _ _ (Qr _) hall p hp;obtain⟨bf,sd,hO,h2⟩:=I.val;obtain⟨sd2,hch2⟩:=h7.chan;have hd:bf=F:=by
     have:=hO.1.symm.trans hch2;simpa using And.left (And.right (by simpa using this))
    subst hd;have hje:σ (w.heap.size+4)=τ e:=by
     refine Cn σ τ ha (h2 j (Tok.val (w.heap.size+4) tk) (Tok.val e tk) ?_ ?_ σ τ hσ hτ)
     ·show((all.map (Tok.val (w.heap.size+4))).toArray)[j]?=_;simp[hj]
     ·rw[← Array.getElem?_toList,h8];simp[hj]
    have hq:q=gN (w.heap.size+4) s2.t.bad:=hE;rw[hbad]at hq;subst hq;refine⟨τ e,by simp[gN,bh,hje],h5,?_⟩;have:=I.NS hτ hce h6;show w'.heap[τ e]?=_;simpa using this
 have hold:∀b,b<n0→w'.heap[b]?=w.heap[b]?:=fun b hb=>by
  have:=I.fr b (by show b<w.heap.size+4;omega) (by show b≠w.heap.size;omega) (by rintro(h|h|h)<;>omega) (by intro h;have h:b=w.heap.size+2:=h;omega);exact this.trans (kG w s fl _ (by omega))
 have hsz:w.heap.size+4≤w'.heap.size:=I.nz;have hNxt:=k1 w' _ hOut hold (by omega) (I.SA.relW σ hσ).os.2 I.out;have hnbs:∀b,b<w.heap.size→b≠w.heap.size+1:=fun b h=>by omega
 have c1:w'.cell? ⟨σ nb,0,none⟩=some (a7 σ nv):=uD (I.AL hσ hRs.n (hroA _ (hnbs nb hlt.1)));have c2:w'.cell? ⟨σ gb,0,none⟩=some (a7 σ gv):=uD (I.AL hσ hRs.g (hroA _ (hnbs gb hlt.2.1)));have c3:w'.cell? ⟨σ eb,0,none⟩=some (a7 σ ev):=uD (I.AL hσ hRs.e (hroA _ (hnbs eb hlt.2.2)));have e1:gA'.frame=aH σ (pf.at a (.inRegion opsQ [0,1]::[.code cQ,.inLoop (.seq (.region iQ opsQ false) cQ),.inBlock i])):=hrel.frame;have e2:gA'.callers=aH σ PF::c::cs:=hrel.callers;have hF2:gj Tryz.prog (bY ((aH σ (pf.at a (.inRegion opsQ [0,1]::[.code cQ,.inLoop (.seq (.region iQ opsQ false) cQ),.inBlock i]))).finish (recvd true z false)) (aH σ PF::c::cs)) w' mc t:=by
  rw[← e1,← e2];exact hF
 have hPFf:(aH σ PF).fn=53:=hPF.fn;have k2:cR Tryz.prog R (bY {aH σ PF with mode:=.returning} (c::cs)) w':=by
  refine cR.N5 (fn:=Tryz.f53) (v:=.tuple #[a7 σ nv,a7 σ gv,a7 σ ev]) rfl hPF.kind ?_ ?_ (fun τ d=> ?_) hNxt
  ·show PF.defers.map (km σ)=[];rw[hPF.defers];rfl
  ·show Tryz.prog.funcs[PF.fn]?=_;rw[hPF.fn];exact Tryz.func53
  ·have hr:(Tryz.f53).results=#[.cell 4 86,.cell 5 3,.cell 6 105]:=by rfl
   have get:∀j v,PF.tmps.getD j undef=v→j<29→((aH σ PF).tmps).getD j undef=a7 σ v:=fun j v h hj=>by
    have hs:=hPF.size;subst h;simp[Array.getD,hs,hj]
   exact ri hr ((get 4 _ hPF.s4 (by decide)).trans (by simp[vp,bh];rfl)) ((get 5 _ hPF.s5 (by decide)).trans (by simp[vp,bh];rfl)) ((get 6 _ hPF.s6 (by decide)).trans (by simp[vp,bh];rfl))
    (kF (fun u=>by simp[go_sem]) c1) (kF (fun u=>by simp[go_sem]) c2) (kF (fun u=>by simp[go_sem]) c3)
 have hPm:(aH σ PF).mode= .returning∨∃v,(aH σ PF).mode= .panicking [{v:=v,recovered:=true}]:=by
  rcases hPF.mode with h|⟨v,h⟩
  ·exact .inl (by rw[fv,h];rfl)
  ·exact .inr ⟨a7 σ v,by rw[fv,h];rfl⟩
 clear hF hst hst2 hrel hOut hold hNxt I hKB e1 e2 c1 c2 c3 hRs h0 h3 hin hinB hroA;cases hQ;rw[Kv σ pf]at hF2;obtain⟨u,rfl⟩:=hq.out;refine cR.app ?_ hF2;rw[R4];simp only[List.map_toArray,List.map_cons,List.map_nil];simp only[Q3,recvd,QT,Qx,Option.bind_some,List.setIfInBounds_toArray,List.set_cons_succ,List.set_cons_zero,if_true];refine cR.value (v:=.bool false) w' rfl rfl (by simp[pf]) (fun c h=>by cases h) (fun τ d=> ?_) ?_
 ·simp[Qf,go_sem,No]
 simp only[Q3,zq0];refine cR.ctl (fun w=>stepG_region_end) rfl ?_;refine cR.ctl (fun w=>stepG_seq) rfl ?_;refine cR.ctl (fun w=>stepG_cond (t:=false) (by rfl)) rfl ?_;refine cR.ctl (fun w=>stepG_exit (by rfl)) rfl ?_;refine cR.ctl (fun w=>stepG_end) rfl ?_;exact cR.N6 (fn:=Tryz.f92) rfl rfl rfl Tryz.func92 (by rfl) hPm k2
end
section
open Go.RowKit
theorem PH.func{f:Nat}{fn:Func}(hf:Tryz.prog.funcs[f]?=some fn)(h:lH.contains f=true):PH.funcs[f]?=some fn:=uJ hf (ie h)
section
attribute [local instance] mb
end
@[go_sem] theorem PH.Po(args:Array AT)(w:AS):(BY 52 args).run PH w= .ok (.enter 52 args) w:=ao (PH.func Tryz.func52 (by decide)) (by kernel_rfl) rfl args w
@[go_sem] theorem PH.Pj(args:Array AT)(w:AS):(BY 90 args).run PH w= .ok (.enter 90 args) w:=ao (PH.func Tryz.func90 (by decide)) (by kernel_rfl) rfl args w
@[go_sem] theorem PH.PC(args:Array AT)(w:AS):(BY 3 args).run PH w= .ok (.enter 3 args) w:=ao (PH.func Tryz.func3 (by decide)) (by kernel_rfl) rfl args w
@[go_sem] theorem PH.Pv(args:Array AT)(w:AS):(BY 13 args).run PH w= .ok (.enter 13 args) w:=ao (PH.func Tryz.func13 (by decide)) (by kernel_rfl) rfl args w
@[go_sem] theorem PH.call14(args:Array AT)(w:AS):(BY 14 args).run PH w= .ok (.enter 14 args) w:=ao (PH.func Tryz.func14 (by decide)) (by kernel_rfl) rfl args w
@[go_sem] theorem PH.call16(args:Array AT)(w:AS):(BY 16 args).run PH w= .ok (.enter 16 args) w:=ao (PH.func Tryz.func16 (by decide)) (by kernel_rfl) rfl args w
@[go_sem] theorem PH.Pu(args:Array AT)(w:AS):(BY 20 args).run PH w= .ok (.enter 20 args) w:=ao (PH.func Tryz.func20 (by decide)) (by kernel_rfl) rfl args w
@[go_sem] theorem PH.Pt(args:Array AT)(w:AS):(BY 26 args).run PH w= .ok (.enter 26 args) w:=ao (PH.func Tryz.func26 (by decide)) (by kernel_rfl) rfl args w
@[go_sem] theorem PH.Pq(args:Array AT)(w:AS):(BY 36 args).run PH w= .ok (.enter 36 args) w:=ao (PH.func Tryz.func36 (by decide)) (by kernel_rfl) rfl args w
@[go_sem] theorem PH.Pr(args:Array AT)(w:AS):(BY 33 args).run PH w= .ok (.enter 33 args) w:=ao (PH.func Tryz.func33 (by decide)) (by kernel_rfl) rfl args w
@[go_sem] theorem PH.Pn(args:Array AT)(w:AS):(BY 53 args).run PH w= .ok (.enter 53 args) w:=ao (PH.func Tryz.func53 (by decide)) (by kernel_rfl) rfl args w
@[go_sem] theorem PH.Ps(args:Array AT)(w:AS):(BY 30 args).run PH w= .ok (.enter 30 args) w:=ao (PH.func Tryz.func30 (by decide)) (by kernel_rfl) rfl args w
@[go_sem] theorem PH.Pp(args:Array AT)(w:AS):(BY 43 args).run PH w= .ok (.enter 43 args) w:=ao (PH.func Tryz.func43 (by decide)) (by kernel_rfl) rfl args w
@[go_sem] theorem PH.Pm(args:Array AT)(w:AS):(BY 57 args).run PH w= .ok (.enter 57 args) w:=ao (PH.func Tryz.func57 (by decide)) (by kernel_rfl) rfl args w
@[go_sem] theorem PH.Pl(args:Array AT)(w:AS):(BY 58 args).run PH w= .ok (.enter 58 args) w:=ao (PH.func Tryz.func58 (by decide)) (by kernel_rfl) rfl args w
@[go_sem] theorem PH.Pk(args:Array AT)(w:AS):(BY 59 args).run PH w= .ok (.enter 59 args) w:=ao (PH.func Tryz.func59 (by decide)) (by kernel_rfl) rfl args w
@[go_sem] theorem PH.Pf(args:Array AT)(w:AS):(BY 97 args).run PH w= .ok (.enter 97 args) w:=ao (PH.func Tryz.func97 (by decide)) (by kernel_rfl) rfl args w
@[go_sem] theorem PH.Pe(args:Array AT)(w:AS):(BY 98 args).run PH w= .ok (.enter 98 args) w:=ao (PH.func Tryz.func98 (by decide)) (by kernel_rfl) rfl args w
@[go_sem] theorem PH.OZ(args:Array AT)(w:AS):(BY 122 args).run PH w= .ok (.enter 122 args) w:=ao (PH.func Tryz.func122 (by decide)) (by kernel_rfl) rfl args w
@[go_sem] theorem PH.OY(args:Array AT)(w:AS):(BY 123 args).run PH w= .ok (.enter 123 args) w:=ao (PH.func Tryz.func123 (by decide)) (by kernel_rfl) rfl args w
@[go_sem] theorem PH.OX(args:Array AT)(w:AS):(BY 124 args).run PH w= .ok (.enter 124 args) w:=ao (PH.func Tryz.func124 (by decide)) (by kernel_rfl) rfl args w
@[go_sem] theorem PH.OL(args:Array AT)(w:AS):(BY 148 args).run PH w= .ok (.enter 148 args) w:=ao (PH.func Tryz.func148 (by decide)) (by kernel_rfl) rfl args w
@[go_sem] theorem PH.OK(args:Array AT)(w:AS):(BY 149 args).run PH w= .ok (.enter 149 args) w:=ao (PH.func Tryz.func149 (by decide)) (by kernel_rfl) rfl args w
@[go_sem] theorem PH.OJ(args:Array AT)(w:AS):(BY 150 args).run PH w= .ok (.enter 150 args) w:=ao (PH.func Tryz.func150 (by decide)) (by kernel_rfl) rfl args w
@[go_sem] theorem PH.OI(args:Array AT)(w:AS):(BY 151 args).run PH w= .ok (.enter 151 args) w:=ao (PH.func Tryz.func151 (by decide)) (by kernel_rfl) rfl args w
@[go_sem] theorem PH.OH(args:Array AT)(w:AS):(BY 152 args).run PH w= .ok (.enter 152 args) w:=ao (PH.func Tryz.func152 (by decide)) (by kernel_rfl) rfl args w
@[go_sem] theorem PH.OG(args:Array AT)(w:AS):(BY 153 args).run PH w= .ok (.enter 153 args) w:=ao (PH.func Tryz.func153 (by decide)) (by kernel_rfl) rfl args w
@[go_sem] theorem PH.Oz(args:Array AT)(w:AS):(BY 164 args).run PH w= .ok (.enter 164 args) w:=ao (PH.func Tryz.func164 (by decide)) (by kernel_rfl) rfl args w
@[go_sem] theorem PH.Oy(args:Array AT)(w:AS):(BY 165 args).run PH w= .ok (.enter 165 args) w:=ao (PH.func Tryz.func165 (by decide)) (by kernel_rfl) rfl args w
@[go_sem] theorem PH.Ot(args:Array AT)(w:AS):(BY 176 args).run PH w= .ok (.enter 176 args) w:=ao (PH.func Tryz.func176 (by decide)) (by kernel_rfl) rfl args w
@[go_sem] theorem PH.Oq(args:Array AT)(w:AS):(BY 177 args).run PH w= .ok (.enter 177 args) w:=ao (PH.func Tryz.func177 (by decide)) (by kernel_rfl) rfl args w
@[go_sem] theorem PH.On(args:Array AT)(w:AS):(BY 186 args).run PH w= .ok (.enter 186 args) w:=ao (PH.func Tryz.func186 (by decide)) (by kernel_rfl) rfl args w
end
def kj(s:cZ):Prop:=∀t∈s.ts,t.kind=8→t.bad=true
def ll{α:Type}:Option (cO α)→Prop
 |some (.ok _ s)=>kj s
 |some (.err .tok s)=>s.t.bad=true
 |_=>True
theorem dI{α β:Type}{x:Option (cO α)}{f:α→cZ→Option (cO β)}(hx:ll x)(hf:∀a s,kj s→ll (f a s)):ll (bL x f):=by
 cases x with
 |none=>trivial
 |some r=>
  cases r with
  |ok a s=>exact hf a s hx
  |err e s=>cases e<;>exact hx
theorem kx{s:cZ}(h:kj s):ll (cy s):=by
 unfold cy;split
 ·trivial
 ·rename_i t ts he;have h1:t∈s.ts:=by rw[he];exact .head _
  split
  ·rename_i hk;exact h t h1 hk
  ·exact fun u hu=>h u (by rw[he];exact .tail _ hu)
theorem mn{s:cZ}(h:kj s):ll (gE s):=by
 unfold gE;split
 ·exact h
 ·trivial
theorem Ht(f:Nat):(∀d s,kj s→ll (ic f d s))∧(∀d id ks s,kj s→ll (iJ f d id ks s))∧(∀d s,kj s→ll (kq f d s))∧(∀d id ks s,kj s→ll (k9 f d id ks s))∧
 (∀d s,kj s→ll (g5 f d s))∧(∀k s,kj s→ll (fV f k s))∧(∀d s,kj s→ll (iI f d s))∧(∀d s,kj s→ll (iV f d s)):=by
 induction f with
 |zero=>exact⟨fun _ _ _=>trivial,fun _ _ _ _ _=>trivial,fun _ _ _=>trivial,fun _ _ _ _ _=>trivial,fun _ _ _=>trivial,fun _ _ _=>trivial,fun _ _ _=>trivial,fun _ _ _=>trivial⟩
 |succ f ih=>
  obtain⟨i1,i2,i3,i4,i5,i6,i7,i8⟩:=ih;refine⟨fun d s h=> ?_,fun d id ks s h=> ?_,fun d s h=> ?_,fun d id ks s h=> ?_,fun d s h=> ?_,fun k s h=> ?_,fun d s h=> ?_,fun d s h=> ?_⟩
  ·unfold ic;exact dI (mn h) fun _ _ h=>i2 _ _ _ _ h
  ·unfold iJ;split
   ·refine dI (i3 _ _ h) fun k s h=> ?_
    split
    ·exact dI (kx h) fun _ _ h=>i2 _ _ _ _ h
    ·exact h
   ·trivial
  ·unfold kq;exact dI (mn h) fun _ _ h=>i4 _ _ _ _ h
  ·unfold k9;repeat' split
   all_goals first
    |trivial
    |exact h
    |exact dI (i5 _ _ h) fun _ _ h=>i4 _ _ _ _ h
  ·unfold g5;exact dI (i7 _ _ h) fun _ _ h=>i6 _ _ h
  ·unfold fV;split
   ·split
    ·rename_i hb;exact hb
    ·exact dI (mn h) fun _ _ h=>dI (kx h) fun _ _ h=>i6 _ _ h
   ·exact h
  ·unfold iI;split
   ·exact i8 _ _ h
   ·refine dI (kx h) fun _ _ h=>dI (mn h) fun _ _ h=> ?_
    repeat' split
    all_goals exact h
  ·unfold iV;split
   ·trivial
   ·split
    ·refine dI (mn (s:=⟨s.ts,s.t,s.n,s.g+1⟩) h) fun _ _ h=>dI (kx h) fun _ _ h=>dI (i1 _ _ h) fun _ _ h=> ?_
     split
     ·exact dI (kx h) fun _ _ h=>h
     ·trivial
    ·trivial
theorem Ih{t0:Tok}{ts:List Tok}(h:∀t∈ts,t.kind=8→t.bad=true){s:cZ}(hx:oa t0 ts=some (.err .tok s)):s.t.bad=true:=by
 have:ll (oa t0 ts):=by
  unfold oa;exact dI (kx (s:=⟨ts,t0,0,0⟩) h) fun _ _ h=>(Ht _).1 _ _ h
 rw[hx]at this;exact this
theorem HL{ln fold:Bool}{l:List UInt8}:∀(n p:Nat){all:List Tok}{wr:Option (Int×Int)},p≤l.length→eE ln fold l n p=some (all,wr)→∀t∈all,t.kind=8→t.bad=true:=by
 intro n;induction n with
 |zero=>intro p all wr hp h;cases h
 |succ n ih=>
  intro p all wr hp h t ht hk;unfold eE at h;obtain⟨x,hx,_,_,hle,hok⟩:=eX ln fold l p hp;rw[hx]at h;dsimp only at h;cases hm:x.more with
  |true=>
   rw[if_pos hm,PD]at h;obtain⟨⟨ts,wr'⟩,h3,heq⟩:=h;simp only[Prod.mk.injEq]at heq;obtain⟨rfl,rfl⟩:=heq;rcases Qe.1 ht with rfl|ht
   ·exact hok.k8 hk
   ·exact ih x.p hle h3 t ht hk
  |false=>
   rw[if_neg (by rw[hm];simp)]at h;cases h;obtain rfl:=By.1 ht;exact hok.k8 hk
section
open Go.RowKit Go.Conc
theorem Repr.MY{w w':AS}{S:Nat→Prop}{v:AT}{nd:Nd}(h:Repr w S v nd)(hk:∀b t c,S b→w.heap[b]?=some (.cells c t (0,0))→w'.heap[b]?=some (.cells c t (0,0))):Repr w' S v nd:=by
 have row:∀{sl:AT}{vs:List AT},w.ownsRow 0 86 1 sl vs.length vs→(∀b,sl.ownBlock=some b→S b)→w'.ownsRow 0 86 1 sl vs.length vs:=fun h1 h2=>by
  refine⟨h1.1,?_⟩;rcases h1.2 with h3|⟨g,cap,cur,rfl,hb,hh,h3⟩
  ·exact .inl h3
  ·exact .inr ⟨g,cap,cur,rfl,hb,hk g _ _ (h2 g rfl) hh,h3⟩
 induction h with
 |set hs hb=>exact .set hs (hk _ _ _ hs hb)
 |edge hs hb=>exact .edge hs (hk _ _ _ hs hb)
 |seq hs hb ho hS hl _ ih=>exact .seq hs (hk _ _ _ hs hb) (row ho hS) hS hl fun i v k h1 h2=>ih i v k h1 h2
 |alt hs hb ho hS hl _ ih=>exact .alt hs (hk _ _ _ hs hb) (row ho hS) hS hl fun i v k h1 h2=>ih i v k h1 h2
 |grp hs hb _ ih=>exact .grp hs (hk _ _ _ hs hb) ih
 |rep hs hb _ ih=>exact .rep hs (hk _ _ _ hs hb) ih
def wt(n0:Nat)(w':AS)(r:Option (df Nd))(v:AT):Prop:=match r with
 |some (.ok nd s)=>∃nv,v= .tuple #[nv,.int .i64 s.g,.nilIface]∧Repr w' (fun b=>n0≤b) nv nd
 |some (.err k a)=>∃b,v= .tuple #[.nilIface,.int .i64 0,.iface 133 (.pointer (some ⟨b,0,none⟩))]∧n0≤b∧ac w' b 137 #[.int .i64 a,.int .i64 k]
 |none=>False
theorem wt.keep{n0:Nat}{w w':AS}{r:Option (df Nd)}{v:AT}(h:wt n0 w r v)(hk:∀b t c,n0≤b→w.heap[b]?=some (.cells c t (0,0))→w'.heap[b]?=some (.cells c t (0,0))):wt n0 w' r v:=by
 match r,h with
 |some (.ok nd s),⟨nv,h1,h2⟩=>exact⟨nv,h1,h2.MY hk⟩
 |some (.err k a),⟨b,h1,h2,h3⟩=>exact⟨b,h1,h2,hk _ _ _ h2 h3⟩
theorem Kn{n0:Nat}{w':AS}{wr:Option (Int×Int)}{x:cO Nd}{r:df Nd}{v:AT}(h:lY n0 w' wr x v)(ha:Alike wr x r)(hb:∀s,x= .err .tok s→s.t.bad=true):wt n0 w' (some r) v:=by
 cases ha with
 |ok a s σ hg=>obtain⟨nv,h1,h2⟩:=h;exact⟨nv,by rw[← hg];exact h1,h2⟩
 |err e s k at_ he=>
  obtain⟨q,h1,h2⟩:=h;cases e with
  |own k' a'=>
   obtain⟨rfl,rfl⟩:=he;obtain⟨b,rfl,h3,h4⟩:=h2;exact⟨b,h1,h3,h4⟩
  |tok=>
   obtain⟨b,rfl,h3,h4⟩:=h2 (hb s rfl) (k,at_) he;exact⟨b,h1,h3,h4⟩
def gR(s:ByteArray)(fl:Nat):Option (df Nd):=if 120<s.size then some (.err 1 0)else LL (decide (fl/2%2=1)) (decide (fl%2=1)) s.data.toList
structure fO(w:AS):Prop where
 glob:EK w
 sc:∃tC tM m,JR w im.toArray tC tM m
theorem fO.keep{w w':AS}(h:fO w)(hk:∀b,b<w.heap.size→w'.heap[b]?=w.heap[b]?):fO w':=by
 have hlt:∀g,g≤Tryz.prog.globals.size→g<w.heap.size:=fun g hg=>by
  obtain⟨o,h1,_⟩:=h.glob g hg;exact(IT.1 h1).1
 have h3:=vO;refine⟨fun g hg=> ?_,?_⟩
 ·rw[hk g (hlt g hg)];exact h.glob g hg
 ·obtain⟨tC,tM,m,⟨h1,h2,h4⟩⟩:=h.sc;refine⟨tC,tM,m,⟨?_,h2,?_⟩⟩
  ·rw[hk _ (hlt 1 (by omega))];exact h1
  ·rw[hk _ (hlt 2 (by omega))];exact h4
theorem fO.pat{h0:Array Obj}{w w':AS}(h:fO w)(hp:bj h0 w w'):fO w':=by
 have hc:∀(b:Nat) c t z,w.heap[b]?=some (.cells c t z)→w'.heap[b]?=some (.cells c t z):=fun b c t z hb=>by
  rcases hp.blk b with e|⟨e,_⟩
  ·rw[← e];exact hb
  ·rw[hb]at e;cases e
 refine⟨fun g hg=> ?_,?_⟩
 ·obtain⟨o,h1,h2,h3⟩:=h.glob g hg;rcases hp.blk g with e|⟨e,⟨l,e'⟩|⟨l,e'⟩⟩
  ·rw[← e];exact⟨o,h1,h2,h3⟩
  ·exact⟨_,e',trivial,.inr rfl⟩
  ·exact⟨_,e',trivial,.inr rfl⟩
 ·obtain⟨tC,tM,m,⟨⟨z,h1,h1'⟩,h2,⟨z2,h4,h5⟩⟩⟩:=h.sc;exact⟨tC,tM,m,⟨⟨z,hc _ _ _ _ h1,h1'⟩,h2,⟨z2,hc _ _ _ _ h4,h5⟩⟩⟩
structure Parsed(w:AS)(s:ByteArray)(fl:Nat)(v:AT)(w':AS):Prop where
 old:∀b,b<w.heap.size→w'.heap[b]?=w.heap[b]?
 size:w.heap.size≤w'.heap.size
 os:w'.os=w.os
 out:w'.output=w.output
 says:wt w.heap.size w' (gR s fl) v
theorem Na{P:IS}{D:eQ P}{K:PK→AS→Prop}{b:PY}{k:List Item}{cs:List PY}{a:Act}{w:AS}{l:List Oper}{Q1:Exit→Act→AS→Prop}(s n m:Nat)(hok:D.okF b.fn)(hk:b.kind≠.early)(hl:s+n≤l.length)
 (h:∀w1:AS,w1.heap=w.heap→w1.os=w.os→w1.output=w.output→wpList P l.toArray Q1 ((l.drop s).take n) a w1) (hq:∀e a w,Q1 e a w→e= .normal)
 (hn:∀a' w',Q1 .normal a' w'→D.H K (bY (b.at a' (.inRegion l.toArray (If (s+n) m)::k)) cs) w'):D.H K (bY (b.at a (.inRegion l.toArray (If s (n+m))::k)) cs) w:=by
 have e:If s (n+m)=If s n++If (s+n) m:=by rw[← QU]
 rw[e];have hlen:((l.drop s).take n).length=n:=by rw[Qo,Q8];omega
 refine D.go fun τ d=> ?_
 have hw:=h (af w τ d) rfl rfl rfl;rw[← qs ((l.drop s).take n) s (fun j hj=>by
  rw[hlen]at hj;rw[QO hj,QX];simp),hlen]at hw
 rcases Ct (If (s+n) m) _ a _ hw b k cs hk with⟨a',w',h1,h2⟩|⟨ch,a',w',h1,_⟩|⟨a',w',h1⟩
 ·exact dL h2 ⟨⟨rfl,hok⟩,hn _ _ h1⟩
 ·exact absurd (hq _ _ _ h1) (by simp)
 ·exact absurd (hq _ _ _ h1) (by simp)
section
attribute [local instance] mb
set_option maxRecDepth 100000 in
set_option maxHeartbeats 4000000 in
theorem DF{p0 p1 p4 p5 p6 p7 p8:Code}{iP:Nat}{opsP:Array Oper}
 (hP:(Tryz.f53).body=some (.seq p0 (.seq p1 (.seq (.region iP opsP false) (.seq p4 (.seq p5 (.seq p6 (.seq p7 p8))))))))
 {h0:Array Obj} {K:PK→AS→Prop} {w w2:AS} {s:ByteArray} {fl:Nat} {c:PY} {cs:List PY} (hs:s.size≤120) (hfl:fl<256) (h6:Under h0 w) (hG:fO w) (hO:am w)
 (h2:w2.heap=((w.heap.push (.cells #[.nilIface] 86)).push (.cells #[.int .i64 0] 3)).push (.cells #[.nilIface] 105)) (h3:w2.os=w.os) (h4:w2.output=w.output)
 (hr:∀v W,Parsed w s fl v W→am W→∀m t,qp h0 Tryz.prog (bY (c.finish v) cs) W m t→Hj h0 Tryz.prog K m t):
 (dv kv h0).H K (bY (gi.at (oY w.heap.size (w.heap.size+1) (w.heap.size+2) s fl) (.inRegion opsP [2,3,4,5,6]::[.code (.seq p4 (.seq p5 (.seq p6 (.seq p7 p8))))])) (c::cs)) w2:=by
 obtain⟨t0,t1,t2,t4,t5,iT,opsT,hT⟩:∃t0 t1 t2 t4 t5 iT opsT,(Tryz.f91).body=some (.seq t0 (.seq t1 (.seq t2 (.seq (.region iT opsT false) (.seq t4 t5))))):=⟨_,_,_,_,_,_,_,rfl⟩;obtain⟨q0,q1,q2,q3,cQ,i,iQ,opsQ,hQ⟩:∃q0 q1 q2 q3 cQ i iQ opsQ,(Tryz.f92).body=some (.seq (.seq q0 (.seq q1 q2)) (.seq q3 (.block i (.loop (.seq (.region iQ opsQ false) cQ))))):=⟨_,_,_,_,_,_,_,_,rfl⟩;intro hI m t hF;have hsz2:w2.heap.size=w.heap.size+3:=by rw[h2];simp
 have hold2:∀b,b<w.heap.size→w2.heap[b]?=w.heap[b]?:=fun b hb=>by
  rw[h2,Qh (by simp;omega),PE (by simp;omega),PE hb,Q9 hb]
 have b1:w2.heap[w.heap.size]?=some (.cells #[.nilIface] 86):=by
  rw[h2,Qh (by simp;omega),PE (by simp),Array.getElem_push_eq]
 have b2:w2.heap[w.heap.size+1]?=some (.cells #[.int .i64 0] 3):=by
  rw[h2];simp only[PR,Qb];simp
 have b3:w2.heap[w.heap.size+2]?=some (.cells #[.nilIface] 105):=by
  rw[h2];simp only[PR,Qb];simp
 obtain⟨h1,w2',hp,ho,hD⟩:=hF.real;have hc:∀(b:Nat) c t z,w2.heap[b]?=some (.cells c t z)→w2'.heap[b]?=some (.cells c t z):=fun b c t z hb=>by
  rcases hp.blk b with e|⟨e,_⟩
  ·rw[← e];exact hb
  ·rw[hb]at e;cases e
 have hG2:fO w2':=(hG.keep hold2).pat hp;have hgl:Tryz.prog.globals.size<w.heap.size:=by
  obtain⟨o,g1,_⟩:=hG.glob _ (IN _);exact(IT.1 g1).1
 have hsz':w2'.heap.size=w.heap.size+3:=hp.size.trans hsz2;obtain⟨ts,wr,hall,_,x,r,hx,hrT,hal⟩:=xw (decide (fl/2%2=1)) (decide (fl%2=1)) s.data.toList (by rw[← PG];exact hs) pu;have hbad:∀s',x= .err .tok s'→s'.t.bad=true:=fun s' e=>by
  subst e;exact Ih (HL _ _ (Qr _) hall) hx
 have hfull:gR s fl=some r:=by unfold gR;rw[if_neg (by omega)];exact hrT
 have hat:yP w2' w.heap.size (w.heap.size+1) (w.heap.size+2):=⟨hc _ _ _ _ b1,hc _ _ _ _ b2,hc _ _ _ _ b3,hgl,by omega,by omega,by omega,by omega,by omega,hG2.glob⟩;obtain⟨tC,tM,mm,hsc⟩:=hG2.sc;refine EU (R:=fun m' t'=>∃g' w',K g' w'∧Iv g' w'∧qp h0 Tryz.prog g' w' m' t') hP (M9 ..) hfl hT (fun gs sl q τ d t2 k k0 C ht=> ?_) m t hD;have hat2:yP (af w2' τ d) w.heap.size (w.heap.size+1) (w.heap.size+2):=⟨hat.n,hat.g,hat.e,hat.ln,hat.lg,hat.le,hat.n_g,hat.n_e,hat.g_e,hat.glob⟩;have hsc2:JR (af w2' τ d) im.toArray tC tM mm:=⟨hsc.cls,hsc.ren,hsc.max⟩;have hjoin:=Gc hT hP hQ (w:=af w2' τ d) (by omega) hfl hat2 hsc2 hall hx (gs:=gs) (sl:=sl) (q:=q) (t:=t2) k0 C ht;refine Runs.bind hjoin fun m3 t3 hdone=> ?_
 refine GN hQ (n0:=w.heap.size) (w:=af w2' τ d) (by rw[iM];exact IN _) ⟨IN _,by omega,by omega,by show w.heap.size≤w2'.heap.size;omega⟩ ⟨by show w.heap.size<w2'.heap.size;omega,by show w.heap.size+1<w2'.heap.size;omega,by show w.heap.size+2<w2'.heap.size;omega⟩ hgl hall
  (fun w3 v hOut hkeep hle hos hout=> ?_) hdone
 intro m4 t4 h7;have h8:=IU (we:=w) hp ho h6 (by omega) hold2 hkeep hle h7;have h5:=Kn hOut hal hbad;refine hr v (cP w w3) ⟨fun b hb=>jj hb hle,by rw[iU];exact hle,?_,?_,?_⟩ (BL hO (QW hgl) hle) m4 t4 h8
 ·show w3.os=w.os;rw[hos,← h3];exact hp.os
 ·show w3.output=w.output;rw[hout,← h4];exact hp.output
 ·rw[hfull];exact h5.keep fun b t c hb hc=>wW hb hc
end
end
section
open Go.RowKit Go.Conc
attribute [local instance] mb
def IP(n:Nat)(s:ByteArray)(fl:Nat):Act:= {tmps:=#[.string s,.int .u8 fl,undef,undef,vp n,vp (n+1),vp (n+2),undef,undef,undef,undef,undef,undef,undef,undef,undef,undef,undef,undef,undef,undef,undef,undef,undef,undef,undef,undef,undef,undef],defers:=[]}
def Ma(n:Nat)(s:ByteArray)(fl:Nat):Act:= {tmps:=#[.string s,.int .u8 fl,undef,undef,vp n,vp (n+1),vp (n+2),undef,.string s,.int .i64 s.size,.bool false,undef,undef,undef,undef,undef,undef,undef,undef,undef,undef,undef,undef,undef,undef,undef,undef,undef,undef],defers:=[]}
structure Three(w w':AS):Prop where
 heap:w'.heap=((w.heap.push (.cells #[.nilIface] 86)).push (.cells #[.int .i64 0] 3)).push (.cells #[.nilIface] 105)
 os:w'.os=w.os
 out:w'.output=w.output
structure Ln(w:AS)(a:Act)(w':AS):Prop where
 defers:a.defers=[]
 s4:a.tmps.getD 4 undef=vp w.heap.size
 s5:a.tmps.getD 5 undef=vp (w.heap.size+1)
 s6:a.tmps.getD 6 undef=vp (w.heap.size+2)
 n:w'.cell? ⟨w.heap.size,0,none⟩=some .nilIface
 g:w'.cell? ⟨w.heap.size+1,0,none⟩=some (.int .i64 0)
 e:w'.cell? ⟨w.heap.size+2,0,none⟩=some (.iface 133 (vp (w.heap.size+3)))
 b:ac w' (w.heap.size+3) 137 #[.int .i64 0,.int .i64 1]
 old:∀b,b<w.heap.size→w'.heap[b]?=w.heap[b]?
 size:w.heap.size≤w'.heap.size
 os:w'.os=w.os
 out:w'.output=w.output
set_option maxRecDepth 100000 in
theorem Ig{D:eQ PH}{p0 p1 p2:Code}(hP:(Tryz.f53).body=some (.seq p0 (.seq p1 p2)))(w:AS)(s:ByteArray)(fl:Nat):
 cV D p0 (fun e a w'=>e= .normal∧a=IP w.heap.size s fl∧Three w w') {tmps:=#[.string s,.int .u8 fl]++Qt (29-2) undef,defers:=[]} w:=by
 cases hP;refine qt fun τ d=> ?_
 have e1:(af w τ d).heap=w.heap:=rfl;have e2:(af w τ d).os=w.os:=rfl;have e3:(af w τ d).output=w.output:=rfl;generalize af w τ d=u at e1 e2 e3 ⊢;have hz:w.heap.size=u.heap.size:=by rw[e1]
 rw[hz];have hT:∀u',u'.heap=((u.heap.push (.cells #[.nilIface] 86)).push (.cells #[.int .i64 0] 3)).push (.cells #[.nilIface] 105)→u'.os=u.os→u'.output=u.output→Three w u':=fun u' h1 h2 h3=>⟨by rw[← e1];exact h1,h2.trans e2,h3.trans e3⟩
 replace hT:=AI hT;clear e1 e2 e3 hz;simp only[PU,PN,PW,Qd,Qc,PM,PL,Q4,PP,Q7,Q6];go_wp2;exact⟨rfl,hT.out _ rfl rfl rfl⟩
theorem Three.NR{w u:AS}(h:Three w u):ac u w.heap.size 86 #[.nilIface]∧ac u (w.heap.size+1) 3 #[.int .i64 0]∧ac u (w.heap.size+2) 105 #[.nilIface]∧u.heap.size=w.heap.size+3:=by
 refine⟨?_,?_,?_,by rw[h.heap];simp⟩
 ·show u.heap[w.heap.size]?=_;rw[h.heap,Qh (by simp;omega),PE (by simp),Array.getElem_push_eq]
 ·show u.heap[w.heap.size+1]?=_;rw[h.heap];simp only[PR,Qb];simp
 ·show u.heap[w.heap.size+2]?=_;rw[h.heap];simp only[PR,Qb];simp
theorem Three.old{w u:AS}(h:Three w u):∀b,b<w.heap.size→u.heap[b]?=w.heap[b]?:=fun b hb=>by
 rw[h.heap,Qh (by simp;omega),PE (by simp;omega),PE hb,Q9 hb]
set_option maxRecDepth 100000 in
theorem Ie{D:eQ PH}{p0 p1 p2:Code}(hP:(Tryz.f53).body=some (.seq p0 (.seq p1 p2))){w w1:AS}(h3:Three w w1)(s:ByteArray)(fl:Nat):
 cV D p1 (fun e a w'=>(e= .normal∧s.size≤120∧a=Ma w.heap.size s fl∧Three w w')∨(e= .ret∧120<s.size∧Ln w a w')) (IP w.heap.size s fl) w1:=by
 cases hP;unfold IP;refine qt fun τ d=> ?_
 have k3:Three w (af w1 τ d):=⟨h3.heap,h3.os,h3.out⟩;generalize af w1 τ d=u at k3 ⊢;obtain⟨b1,b2,b3,hz⟩:=k3.NR;have hold:=k3.old;have hos:=k3.os;have hout:=k3.out;have c1:=b1.cell 0;have c2:=b2.cell 0;have c3:=b3.cell 0;have f1:=b1.frozen;have f2:=b2.frozen;have f3:=b3.frozen;have hid:=AI (⟨b1,b2,b3,hz,hold,hos,hout,k3⟩:ac u w.heap.size 86 #[.nilIface]∧ac u (w.heap.size+1) 3 #[.int .i64 0]∧ac u (w.heap.size+2) 105 #[.nilIface]∧u.heap.size=w.heap.size+3∧(∀b,b<w.heap.size→u.heap[b]?=w.heap[b]?)∧u.os=w.os∧u.output=w.output∧Three w u);clear b1 b2 b3 hold hos hout k3;by_cases hl:120<s.size
 ·have hl2:(120:Int)<s.size:=by omega
  have hd:decide ((120:Int)<s.size)=true:=by simpa using hl2
  replace hl:=AI hl;clear hl2;go_wp2;obtain⟨b1,b2,b3,hz,hold,hos,hout,_⟩:=hid.out;refine⟨hl.out,rfl,rfl,rfl,rfl,?_,?_,?_,?_,fun b hb=> ?_,?_,hos,hout⟩
  ·exact ac.cell (((((b1.ci 0 _).far (by dsimp only;omega) _).far (by dsimp only;omega) _).alloc _)) 0
  ·exact ac.cell (((((b2.far (by dsimp only;omega) _).ci 0 _).far (by dsimp only;omega) _).alloc _)) 0
  ·exact ac.cell (((((b3.far (by dsimp only;omega) _).far (by dsimp only;omega) _).ci 0 _).alloc _)) 0
  ·have:=ac.new (((u.setCell ⟨w.heap.size,0,none⟩ .nilIface).setCell ⟨w.heap.size+1,0,none⟩ (.int .i64 0)).setCell ⟨w.heap.size+2,0,none⟩ (.iface 133 (vp (w.heap.size+3)))) 137 #[.int .i64 0,.int .i64 1];rw[Q5,Q5,Q5,hz]at this;exact this
  ·rw[Below.heap_alloc _ _ b (by simp;omega),Below.heap_setCell _ _ _ b (by dsimp only;omega),Below.heap_setCell _ _ _ b (by dsimp only;omega),Below.heap_setCell _ _ _ b (by dsimp only;omega)];exact hold b hb
  ·simp;omega
 ·have hd:decide ((120:Int)<s.size)=false:=by simp;omega
  replace hl:=AI hl;go_wp2;have hl:=hl.out;exact⟨by omega,rfl,hid.out.2.2.2.2.2.2.2⟩
theorem DJ{h0:Array Obj}{ops:Array Oper}{i:Nat}{rest:List Nat}{o:Oper}{Q:Exit→Act→AS→Prop}{a:Act}{w:AS}{s:ByteArray}{fl:Nat}(ho:ops[i]?=some o)(hw:Region.wanted o (yielded ops a.tmps)=true)
 (hx:∀u:AS,(Qf a.eval o).run PH u= .ok (.enter 53 #[.string s,.int .u8 fl]) u) (hfl:fl<256) (h8:Under h0 w) (hG:fO w)
 (hr:∀v w',Parsed w s fl v w'→bo (dv kv h0) ops Q rest (a.put o.dst v) w'):bo (dv kv h0) ops Q (i::rest) a w:=fun b k cs K hok hk hcc=>by
 intro h2;obtain⟨p0,p1,iP,opsL,p4,p5,p6,p7,p8,hP⟩:∃p0 p1 iP,∃opsL:List Oper,∃p4 p5 p6 p7 p8,(Tryz.f53).body=some (.seq p0 (.seq p1 (.seq (.region iP opsL.toArray false) (.seq p4 (.seq p5 (.seq p6 (.seq p7 p8))))))):=⟨_,_,_,_,_,_,_,_,_,rfl⟩;have h1:(dv kv h0).okF 53:=ie (by decide);have h7:PH.funcs[53]?=some Tryz.f53:=PH.func Tryz.func53 (by decide);have hg:=fun u:AS=>stepG_op (P:=PH) (b:=b) (k:=k) (cs:=cs) (w:=u) (rest:=rest) ho hw
 have hent:Qs PH 53 #[.string s,.int .u8 fl] .normal=gi.at {tmps:=#[.string s,.int .u8 fl]++Qt (29-2) undef,defers:=[]} [.code (.seq p0 (.seq p1 (.seq (.region iP opsL.toArray false) (.seq p4 (.seq p5 (.seq p6 (.seq p7 p8)))))))]:=by
  simp[Qs,Frame.at,h7,hP,gi,Tryz.ntmps53]
 have hfin:∀v,(b.at a (.inRegion ops (i::rest)::k)).finish v=b.at (a.put o.dst v) (.inRegion ops rest::k):=fun v=>by
  rw[R4,ho];rfl
 have hjg:JG (bY (b.at a (.inRegion ops (i::rest)::k)) cs):=by
  rcases h2.2 with⟨⟨d,hd,_⟩,_⟩|⟨h,_⟩
  ·cases hd
  ·exact h
 refine(dv kv h0).one (fr':=Qs PH 53 #[.string s,.int .u8 fl] .normal) (cs':=b.at a (.inRegion ops (i::rest)::k)::cs) (fun u=>step_lone_go (by rw[hg];simp[stepG.apply,hx u,Frame.at])) h1 ?_ h2;rw[hent];refine(dv kv h0).one (fun u=>step_seq) h1 ?_;refine rD (Ig hP w s fl) h1 (by simp[gi]) fun a1 w1 ⟨e1,h3⟩=> ?_
 subst e1;refine(dv kv h0).one (fun u=>step_seq) h1 ?_;refine Ie (D:=dv kv h0) hP h3 s fl gi _ _ K h1 (by simp[gi]) fun e a2 w2 hq=> ?_
 rcases hq with⟨rfl,hs,rfl,h4⟩|⟨rfl,hs,hT⟩
 ·refine(dv kv h0).one (fun u=>step_seq) h1 ((dv kv h0).one (fun u=>step_region) h1 ?_);have hlen:opsL.length=7:=by cases hP;rfl
  have e7:QM opsL.toArray.size=If 0 (2+5):=by rw[PU,hlen,List.range_eq_range']
  rw[e7];refine Na (Q1:=fun e a' w'=>e= .normal∧a'=oY w.heap.size (w.heap.size+1) (w.heap.size+2) s fl∧Three w w') 0 2 5 h1 (by simp[gi]) (by omega) (fun u k1 k2 k3=> ?_) (fun e a w h=>h.1) fun a3 w3 ⟨_,e3,h5⟩=> ?_
  ·have h6:Three w u:=⟨k1.trans h4.heap,k2.trans h4.os,k3.trans h4.out⟩;replace h6:=AI h6;clear k1 k2 k3 h4 h3;cases hP;unfold Ma;simp only[zq1];go_wp2;exact⟨rfl,h6.out⟩
  ·subst e3;exact DF hP (w:=w) hs hfl h8 hG h2.1 h5.heap h5.os h5.out fun v W hW h9 m t hF=>by
    rw[hfin]at hF;have ha:(a.put o.dst v).defers=a.defers:=by unfold Q3;split <;>rfl
    refine hr v W hW b k cs K hok hk hcc ⟨h9,.inr ⟨⟨⟨fun it hit=> ?_,fun d hd=>hjg.1.2 d (by have hd:d∈(a.put o.dst v).defers:=hd;rw[ha]at hd;exact hd)⟩,hjg.2.1,nofun,nofun⟩,nofun⟩⟩ m t hF;rcases Qe.1 hit with rfl|hit
    ·exact fun j hj o ho=>hjg.1.1 (.inRegion ops (i::rest)) (PJ ..) j (QD _ hj) o ho
    ·exact hjg.1.1 it (QD _ hit)
 ·intro todo;have hres:(results Tryz.f53 a2.tmps).run PH w2= .ok (.tuple #[.nilIface,.int .i64 0,.iface 133 (vp (w.heap.size+3))]) w2:=
   ri (t:=86) (u:=3) (v:=105) (by rfl) hT.s4 hT.s5 hT.s6 (kF (fun u=>by simp[go_sem]) hT.n) (kF (fun u=>by simp[go_sem]) hT.g) (kF (fun u=>by simp[go_sem]) hT.e)
  refine Gb (v:=.tuple #[.nilIface,.int .i64 0,.iface 133 (vp (w.heap.size+3))]) (o:=o) ⟨rfl,hT.defers,rfl,_,h7,hres⟩ ho hok (hr _ _ ⟨hT.old,hT.size,hT.os,hT.out,?_⟩ b k cs K hok hk hcc);unfold gR;rw[if_pos hs];exact⟨_,rfl,by omega,hT.b⟩
end
section
open Go.RowKit Go.Conc
structure Hh(w' w:AS):Prop where
 heap:w'.heap=w.heap
 os:w'.os=w.os
 out:w'.output=w.output
structure Old(w w':AS):Prop where
 old:∀b,b<w.heap.size→w'.heap[b]?=w.heap[b]?
 size:w.heap.size≤w'.heap.size
 os:w'.os=w.os
 out:w'.output=w.output
theorem Old.refl(w:AS):Old w w:=⟨fun _ _=>rfl,IN _,rfl,rfl⟩
theorem Old.trans{a b c:AS}(h:Old a b)(k:Old b c):Old a c:=⟨fun i hi=>(k.old i (QI hi h.size)).trans (h.old i hi),Qk h.size k.size,k.os.trans h.os,k.out.trans h.out⟩
theorem Old.eqv{a b c:AS}(h:Old a b)(k:Hh c b):Old a c:=⟨fun i hi=>by rw[k.heap];exact h.old i hi,by rw[k.heap];exact h.size,k.os.trans h.os,k.out.trans h.out⟩
theorem Hh.old{a b:AS}(k:Hh b a):Old a b:=(Old.refl a).eqv k
theorem Old.alloc{a b:AS}(h:Old a b)(o:Obj):Old a (b.alloc o):=⟨fun i hi=>(Below.heap_alloc _ _ i (QI hi h.size)).trans (h.old i hi),by have:=h.size;simp;omega,h.os,h.out⟩
theorem Old.setCell{a b:AS}(h:Old a b){p:Addr}(hp:a.heap.size≤p.block)(v:AT):Old a (b.setCell p v):=⟨fun i hi=>(Below.heap_setCell _ _ _ i (by omega)).trans (h.old i hi),by rw[Q5];exact h.size,h.os,h.out⟩
theorem Below.gk{w w':AS}(h:Below w.heap.size w w'):Old w w':=⟨fun b hb=>h.block b hb,h.size,h.os,h.output⟩
theorem Parsed.gk{w w':AS}{s:ByteArray}{fl:Nat}{v:AT}(h:Parsed w s fl v w'):Old w w':=⟨h.old,h.size,h.os,h.out⟩
theorem fO.gk{w w':AS}(h:fO w)(k:Old w w'):fO w':=h.keep k.old
section
variable{P:IS}{D:eQ P}{c:Code}{Q:Exit→Act→AS→Prop}{a:Act}{w:AS}
theorem ej(h:∀w1:AS,Hh w1 w→c.wp P Q a w1):cV D c Q a w:=qt fun τ d=>h _ ⟨rfl,rfl,rfl⟩
theorem fy{l:List Oper}(s n m:Nat)(h:∀N:Act→AS→Prop,RowKit.Hid (∀a' w',bo D l.toArray Q (If (s+n) m) a' w'→N a' w')→∀w1:AS,Hh w1 w→wpList P l.toArray (Exit.then N Q) ((l.drop s).take n) a w1)(hl:s+n≤l.length):
 bo D l.toArray Q (If s (n+m)) a w:=by
 have e:If s (n+m)=If s n++If (s+n) m:=by rw[← QU]
 rw[e];have hlen:((l.drop s).take n).length=n:=by rw[Qo,Q8];omega
 refine qK (Q1:=Exit.then (fun a' w'=>bo D l.toArray Q (If (s+n) m) a' w') Q) (fun τ d=> ?_) (fun a' w' h=>h) (fun ch a' w' h=>h) (fun a' w' h=>h);have:=h (fun a' w'=>bo D l.toArray Q (If (s+n) m) a' w') (AI fun _ _ h=>h) (af w τ d) ⟨rfl,rfl,rfl⟩;rw[← qs ((l.drop s).take n) s (fun j hj=>by
  rw[hlen]at hj;rw[QO hj,QX];simp),hlen]at this
 exact this
end
attribute [local instance] mb
theorem Under.gk{h0:Array Obj}{w w':AS}(h:Under h0 w)(k:Old w w'):Under h0 w':=h.keep k.old k.size
def Js(n0:Nat)(w':AS)(fl:Nat)(r:Option (df Nd))(v:AT):Prop:=match r with
 |some (.ok nd σ)=>∃x nv tl,v= .tuple #[vp x,.nilIface]∧n0≤x∧w'.heap[x]?=some (.cells (#[nv,.int .i64 σ.g,.int .u8 fl]++tl) 103 (0,0))∧Repr w' (fun b=>n0≤b∧b≠x) nv nd
 |some (.err k a)=>∃b,v= .tuple #[.pointer none,.iface 133 (vp b)]∧n0≤b∧ac w' b 137 #[.int .i64 a,.int .i64 k]
 |none=>False
set_option maxRecDepth 100000 in
theorem GR{h0:Array Obj}{w:AS}{s:ByteArray}{fl:Nat}(hfl:fl<256)(h1:Under h0 w)(hG:fO w):
 dh (dv kv h0) 36 #[.string s,.int .u8 fl] w fun e w'=>∃v,e= .returned v∧Old w w'∧Js w.heap.size w' fl (gR s fl) v:=by
 refine cF (ie (by decide)) (fun w' ⟨v,h,_⟩=>nomatch h) (PH.func Tryz.func36 (by decide)) rfl ?_;simp only[Tryz.ntmps36,PU,PN,PW,Qd,Qc,PM,PL,Q4,PP,Q7,Q6];refine ag (fun K hK=> ?_);refine ej fun w1 e1=> ?_
 have O1:=AI e1.old;clear e1;go_wp2;refine hK.out _ _ ?_;clear hK K;have hG1:=AI (hG.gk O1.out);have h1s:Under h0 w1:=h1.gk O1.out;refine ag (fun K hK=> ?_);refine aC ?_;show bo _ _ _ (If 0 (2+8)) _ _;refine fy 0 2 8 (fun N hN w2 e2=> ?_) (by decide);simp only[zq1];have O2:=AI (O1.out.eqv e2);clear e2;go_wp2;refine hN.out _ _ ?_;clear hN N;have hG2:=AI (hG.gk O2.out);have h2:Under h0 w2:=h1.gk O2.out;refine DJ (s:=s) (fl:=fl) (i:=2) (rest:=If 3 (7+0)) rfl rfl (fun u=>by simp[go_sem]) hfl h2 hG2.out fun v w3 hp=> ?_
 have O3:=AI (O2.out.trans hp.gk);have hsz:=O2.out.size;have hs:=hp.says;cases hr:gR s fl with
 |none=>rw[hr]at hs;exact hs.elim
 |some r=>
 rw[hr]at hs;clear hp;cases r with
 |ok nd σ=>
  obtain⟨nv,rfl,hrep⟩:=hs;obtain⟨vt,vq,rfl⟩:=hrep.form;replace hrep:=AI hrep;replace hsz:=AI hsz;clear hG hG1 hG2 O1 O2;simp only[Q3,zq0];refine fy 3 7 0 (fun N hN w4 e4=> ?_) (by decide);simp only[zq1];have O4:=AI (O3.out.eqv e4);replace e4:=AI e4;clear O3;go_wp2;refine hN.out _ _ (aZ (hK.out _ _ ?_));clear hN N hK K;refine ej fun w5 e5=> ?_
  have O5:=AI (O4.out.eqv e5);replace e5:=AI e5;clear O4;go_wp2;go_ret2
  have h53:w5.heap=w3.heap:=e5.out.heap.trans e4.out.heap;have hz:=congrArg Qp h53;refine⟨_,rfl,O5.out.alloc _,?_⟩;rw[hr];refine⟨w5.heap.size,.iface vt (.pointer (some ⟨vq,0,none⟩)),#[.int .u32 0,.int .i32 0,.int .u32 0,.int .u64 0,.int .u64 0,.int .u64 0,.int .u64 0,.bool false],rfl,O5.out.size,ac.new w5 103 _,?_⟩;refine(hrep.out.mono (S':=fun b=>w.heap.size≤b∧b≠w5.heap.size) fun b hb hlt=>⟨Qk hsz.out hb,by omega⟩).keep fun b hb hlt=> ?_
  rw[Below.heap_alloc _ _ b (by omega),h53]
 |err k at_=>
  obtain⟨b,rfl,hb,hB⟩:=hs;replace hB:=AI hB;replace hb:=AI hb;replace hsz:=AI hsz;clear hG hG1 hG2 O1 O2;simp only[Q3,zq0];refine fy 3 7 0 (fun N hN w4 e4=> ?_) (by decide);simp only[zq1];have O4:=AI (O3.out.eqv e4);replace hB:=AI (hB.out.ab e4.heap);clear O3 e4;go_wp2;refine hN.out _ _ (aZ (hK.out _ _ ?_));clear hN N hK K;refine ej fun w5 e5=> ?_
  have O5:=AI (O4.out.eqv e5);replace hB:=AI (hB.out.ab e5.heap);clear O4 e5;go_wp2;go_ret2
  refine⟨_,rfl,O5.out,?_⟩;rw[hr];exact⟨b,rfl,Qk hsz.out hb.out,hB.out⟩
end
end Go.Proofs.YtkgohmcmmcpigaaGreatDoor
