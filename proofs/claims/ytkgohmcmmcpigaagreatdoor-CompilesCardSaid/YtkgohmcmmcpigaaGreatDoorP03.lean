/- A part of the proof that Compiles holds; no condition. -/
import Derived.Calls
import Derived.Conc.Listed
import Derived.Test.YtkgohmcmmcpigaaGreatDoorProg
import Derived.WalkKit
import Derived.Lib.Hide
import Derived.Orders
import Derived.Tactics
import Derived.Test.YtkgohmcmmcpigaaGreatDoorP02
set_option linter.unusedSectionVars false
set_option linter.unusedSimpArgs false
set_option linter.unusedVariables false
namespace Go.Proofs.YtkgohmcmmcpigaaGreatDoor
open Go
open Go renaming Value->AI,Program->AS,World->AT,Frame->By,TypeId->BY,Event->No,callDeferred->PG,execOp->PJ,callFunc->PL,Operand->PM,Goroutine->Q4,FuncId->Q9,Question->Ql,behindNumber->Qv,runtimePanic->QI
open _root_.Option renaming map_some->If,bind_some->R1
open _root_.Bool renaming false_ne_true->IN,false_eq_true->IT,and_eq_true->PD,false_and->Qd,or_eq_true->Ra,eq_iff_iff->RU
open _root_.Nat renaming le_refl->IS,le_trans->R2
open Go.Sem renaming runT->OF,store->Qf,bind->Qi,halt->R0
open _root_.Array renaming getElem?_eq_some_iff->PE,mem_push->PN,getElem?_map->PO,getElem?_push->PP,getElem?_modify->PW,append_empty->PZ,getD_eq_getD_getElem?->Q8,toList_map->Qj,mem_append->Qr,map_append->Qs,map_setIfInBounds->Qx,map_map->QA,getElem?_setIfInBounds_ne->QD,size_map->QP,getElem?_setIfInBounds->QQ,range->QT,foldl_toList->QV,all_eq_true->QX,mapM_eq_mapM_toList->QY,mem_iff_getElem->Re,mem_map->Ru,replicate->RV
open Go.GStep renaming after->PK
open _root_.Iff renaming rfl->PR
open Go.Frame renaming enter->PU,finish->Q3,eval->Qk,raise->Qt,finish_at->R9,raise_at->Rd,catches->Rr
open _root_.List renaming map_cons->PV,mem_cons->Qg,range'->Qh,cons_append->Qo,map_toArray->QB,foldlM_cons->QC,map_nil->QH,mem_map->Rw,nil_append->RP,foldl_cons->RQ,find?_cons->RR
open _root_.MonadExceptOf renaming throw->PX
open Go.Builtin renaming unsafeAdd_->PY,zeroCells->Q7,firstCells->Qa,min2->Qw,append_->QK,close_->QO,holdsCells->QU,min_->R6,len_->R7,lenOf->Rt,mayShare->RI
open Go.World renaming setCell->Q2,shape?->Qe,farStore->Qm,viewStore->QE,noCell->QZ,sys->R8,frozen?->Ri,farLoad->Rj,seen->RJ
open Go.Kernel renaming perform->Q5
open Go.Op renaming equal->Q6,maxDepth->QS,intArith->Rb,unary->Rf,intBits->Rg,twoPlaces->Rv,stringOp->RA,equalIn->RL,addrSub->RM,addrMod->RN,addrCmp->RO
open _root_.Except renaming pure->Qb,bind->Qc
open Go.MemAct renaming ofEvent->Qn
open Go.Instr renaming sliceBound->Qp,fill->Qq,makeInterface->QM,makeFunc->QN,sliceBounds->QW,typeAssert->R3,buildSlice->R4,panicnil->Rc,storeAt->Rl,sliceAt->Rm,indexAt->Rn,fieldAt->Rp,extract->Rq,loadAt->Rx,panic->RB,index->RF,build->RG,alloc->RH,sureAddr->S0,box->S7
open _root_.Classical renaming byContradiction->Qu
open Go.Extern renaming find->Qy,findNext->QJ
open Go.Region renaming wanted->Qz
open Go.Program renaming eqGuardType->QL,depth->Rk
open Go.Deferred renaming ofValue->R5
open Go.Next renaming value->Rh
open Go.Exit renaming inBlock->Ry
open Go.Conv renaming floatToFloat->Rz,floatToInt->RS
open Go.Addr renaming block->RX
open Go.Value renaming oneCell'->RY
open Go.CallKind renaming early->S4
section
open Go.Conc
variable[aJ]
def aw(β:Nat→Option Code)(i:Nat)(fn:Func):Func:=
 match β i with
 |some c=> {fn with body:=some c}
 |none=>fn
abbrev alt(Q:AS)(β:Nat→Option Code):AS:=swap Q (aw β)
structure Twin(Q:AS)(β:Nat→Option Code):Prop where
 wait:∀g,aJ.lim≤g→Q.stepOf g=none
 data:Q.follows .staticDataAhead=true
 begin:∀f∈Q.inits,∀(fn:Func),Q.funcs[f]?=some fn→(β f).isSome=true→fn.body.isSome=true
 next:∀(f:Nat)(fn:Func),Q.funcs[f]?=some fn→β f=none→fn.body.isNone=true→QJ fn=none
 ext:∀(f:Nat)(fn:Func),Q.funcs[f]?=some fn→β f=none→fn.body.isNone=true→∀e,Qy fn=some e→∀args,Sm Q (aw β) (e args)
theorem lF(P:AS)(f:Q9)(es:Array No):∀e∈seen P f es,e∈es:=by
 have key:∀(l:List No)(x:Bool×Array No)(st:Bool×Array No→No→Bool×Array No)(hst:∀x e,∀y∈(st x e).2,y∈x.2∨y=e),∀y∈(l.foldl st x).2,y∈x.2∨y∈l:=by
  intro l;induction l with
  |nil=>exact fun x st hst y hy=>.inl hy
  |cons a l ih=>
   intro x st hst y hy;rw[RQ]at hy;rcases ih _ st hst y hy with h|h
   ·rcases hst _ _ y h with h|rfl
    ·exact .inl h
    ·exact .inr (.head _)
   ·exact .inr (.tail _ h)
 intro e he;unfold seen at he;dsimp only at he;rw[← QV]at he;have hk:=key _ _ _ (fun x e y hy=>by
  obtain⟨q,kept⟩:=x;dsimp only at hy;split at hy
  ·exact .inl hy
  ·dsimp only at hy;split at hy
   ·exact .inl hy
   ·exact PN.1 hy) e he
 rcases hk with h|h
 ·simp at h
 ·simpa using h
theorem av:¬ Big #[]:=fun h=>h
theorem aV{P:AS}{f:Q9}{es:Array No}(h:¬ Big es):¬ Big (seen P f es):=fun h=>h
theorem find_congr{α:Type}{p q:α→Bool}:∀{l:List α},(∀x∈l,p x=q x)→l.find? p=l.find? q
 |[],_=>rfl
 |x::l,h=>by
  rw[RR,RR,h x (List.mem_cons_self ..),find_congr fun y hy=>h y (List.mem_cons_of_mem _ hy)]
section
variable{P:AS}
theorem vi{α:Type}{dy:Bool}{s:Sem α}(hs:ct P dy false s):∀(w:AT)(es:Array No),am w→¬ Big es→¬ Big (s.runT P w es).2:=fun _ _ _ _ h=>h
end
section
variable{Q:AS}{β:Nat→Option Code}
theorem j6(f:Nat):(alt Q β).funcs[f]?=(Q.funcs[f]?).map (aw β f):=by
 show(Q.funcs.mapIdx (aw β))[f]?=_;rw[Array.getElem?_mapIdx]
theorem lV:(alt Q β).funcs.size=Q.funcs.size:=Array.size_mapIdx
theorem BN(f:Nat)(fn:Func):(aw β f fn).name=fn.name:=by unfold aw;split <;>rfl
theorem yt(f:Nat)(fn:Func):(aw β f fn).norace=fn.norace:=by unfold aw;split <;>rfl
theorem lI(f:Nat)(fn:Func):(aw β f fn).results=fn.results:=by unfold aw;split <;>rfl
theorem pI{f:Nat}{fn:Func}(h:β f=none):aw β f fn=fn:=by
 unfold aw;rw[h]
theorem iB{α:Type}{s:Sem α}(hs:Sm Q (aw β) s)(w:AT)(es:Array No):s.runT (alt Q β) w es=s.runT Q w es:=xE hs.sm w es
theorem kC{α:Type}{s:Sem α}(hs:Sm Q (aw β) s)(w:AT):s.run (alt Q β) w=s.run Q w:=HM hs.sm w
omit [aJ] in
theorem aN{α β:Type}(P:AS)(s:Sem α)(f:α→Sem β):∀(w:AT)(es:Array No),(s>>=f).runT P w es=match s.runT P w es with
 |(.ok a w1,e)=>(f a).runT P w1 e
 |(.halt h w1,e)=>(.halt h w1,e):=by
 show∀(w:AT)(es:Array No),(s.bind f).runT P w es=_;induction s with
 |pure a=>exact fun w es=>rfl
 |halt x=>exact fun w es=>rfl
 |load m a k ih=>
  intro w es;simp only[Qi,OF];cases w.cell? a with
  |some v=>exact ih _ _ _
  |none=>
   cases w.farLoad P a (m== .atomic)with
   |ok r=>exact ih _ _ _
   |error e=>rfl
 |store m a v k ih=>
  intro w es;cases v;all_goals simp only[Qi,OF]
  all_goals
   cases w.cell? a with
   |some o=>
    dsimp only;split
    ·rfl
    ·exact ih _ _
   |none=>
    dsimp only;split
    ·exact ih _ _
    ·rfl
 |new o k ih=>exact fun w es=>ih _ _ _
 |shape r k ih=>exact fun w es=>ih _ _ _
 |freeze a n k ih=>exact fun w es=>ih _ _
 |frozen a k ih=>exact fun w es=>ih _ _ _
 |getObj r k ih=>
  intro w es;simp only[Qi,OF];cases w.heap[r]? with
  |none=>rfl
  |some o=>cases o<;>first |rfl|exact ih _ _ _
 |setObj r o k ih=>
  intro w es;simp only[Qi,OF];cases w.heap[r]? with
  |none=>rfl
  |some o=>cases o<;>first |rfl|exact ih _ _
 |choose q k ih=>
  intro w es;simp only[Qi,OF];split
  ·exact ih _ _ _
  ·exact ih _ {w with drawn:=w.drawn+1} _
 |sys c k ih=>exact fun w es=>ih _ _ _
 |program k ih=>exact fun w es=>ih _ _ _
 |mark m k ih=>exact fun w es=>ih _ _
inductive oE(Q:AS)(β:Nat→Option Code):Sem Next→Prop
 |sm {s:Sem Next} (h:Sm Q (aw β) s):oE Q β s
 |foul {s:Sem Next} {f:Q9} {args:Array AI} (hf:(β f).isSome=true) (h:∀w es,s.runT (alt Q β) w es=(.ok (.enter f args) w,es)):oE Q β s
 |bind {α:Type} {s:Sem α} {f:α→Sem Next} (hs:Sm Q (aw β) s) (hst:bN (alt Q β) true false s) (hf:∀a,oE Q β (f a)):oE Q β (s>>=f)
 |prog {f:AS→Sem Next} (e:f (alt Q β)=f Q) (h:oE Q β (f Q)):oE Q β (program>>=f)
theorem eD{s:Sem Next}(h:Sm Q (aw β) s):oE Q β s:=.sm h
theorem nX{α:Type}{s:Sem α}{f:α→Sem Next}(hs:Sm Q (aw β) s)(hst:bN (alt Q β) true false s)(hf:∀a,oE Q β (f a)):oE Q β (s>>=f):=.bind hs hst hf
theorem nW(T:Twin Q β)(f:Q9)(args:Array AI):oE Q β (PL f args):=by
 have he:(alt Q β).funcs[f]?=(Q.funcs[f]?).map (aw β f):=j6 f;cases hb:β f with
 |none=>
  have hk:(alt Q β).funcs[f]?=Q.funcs[f]?:=by
   rw[he];cases Q.funcs[f]? with
   |none=>rfl
   |some fn=>exact congrArg some (pI hb)
  refine eD ?_;unfold PL;refine n9 ?_ ?_
  ·show(match(alt Q β).funcs[f]? with |none=>_|some fn=>_)=_;rw[hk];rfl
  ·cases hf:Q.funcs[f]? with
   |none=>dsimp only;exact zq2
   |some fn=>
    dsimp only;refine @rM _ _ _ _ _ _ _ zq2 ?_;cases hn:fn.body.isNone with
    |false=>simp only[IT,if_false];exact zq2
    |true=>
     simp only[if_true];refine @gZ _ _ _ _ _ _ zq2 fun _=> ?_
     rw[T.next f fn hf hb hn];dsimp only;cases he:Qy fn with
     |some e=>exact @gZ _ _ _ _ _ _ (T.ext f fn hf hb hn e he args) fun _=>zq2
     |none=>dsimp only;split <;>exact zq2
 |some c=>
  have key:∀(P:AS)(w:AT)(es:Array No),(PL f args).runT P w es=(match P.funcs[f]? with
   |none=>(stuck "call: no such function" :Sem Next)
   |some fn=>
    if(fn.name== "runtime.NumGoroutine")=true then pure .numGoroutine
    else if fn.body.isNone=true then(do
     mark (.extern f)
     if let some e:=QJ fn then return← e args
     match Qy fn with
     |some e=>pure (.value (← e args))
     |none=>
      if fn.name.endsWith ".init" && !fn.name.startsWith "(" && !fn.name.startsWith "gosem." then pure (.value (.tuple #[]))
      else unsupported (.extern fn.name))
    else pure (.enter f args)).runT P w es:=fun P w es=>rfl
  cases hf:Q.funcs[f]? with
  |none=>
   rw[hf]at he;refine eD ⟨⟨?_,?_⟩⟩
   ·show(match(alt Q β).funcs[f]? with |none=>_|some fn=>_)=(match Q.funcs[f]? with |none=>_|some fn=>_);rw[he,hf];rfl
   ·show Same Q (aw β) (match Q.funcs[f]? with |none=>_|some fn=>_);rw[hf];exact(zq2:Sm Q (aw β) (stuck "call: no such function" :Sem Next)).sm
  |some fn=>
   have hname:(aw β f fn).name=fn.name:=BN f fn;have hbody:(aw β f fn).body.isNone=false:=by
    unfold aw;rw[hb];rfl
   rw[hf]at he;by_cases hn:(fn.name== "runtime.NumGoroutine")=true
   ·refine eD ⟨⟨?_,?_⟩⟩
    ·show(match(alt Q β).funcs[f]? with |none=>_|some fn=>_)=(match Q.funcs[f]? with |none=>_|some fn=>_);rw[he,hf];dsimp only[If];rw[hname,if_pos hn,if_pos hn]
    ·show Same Q (aw β) (match Q.funcs[f]? with |none=>_|some fn=>_);rw[hf];dsimp only;rw[if_pos hn];exact(zq2:Sm Q (aw β) (pure .numGoroutine:Sem Next)).sm
   ·refine .foul (f:=f) (args:=args) (by rw[hb];rfl) fun w es=> ?_
    rw[key,he];dsimp only[If];rw[hname,hbody,if_neg hn];rfl
theorem q5(T:Twin Q β)(recv:AI)(name:String)(args:Array AI):oE Q β (callMethod recv name args):=by
 unfold callMethod;cases recv;case iface t v=>
  refine .prog (by simp only[bp]) ?_;exact nX zq2 zq2 fun x=>nW T _ _
 all_goals exact eD zq2
theorem na(T:Twin Q β)(t:Target)(args:Array AI):oE Q β (invoke t args):=by
 unfold invoke;cases t with
 |nil=>exact eD zq2
 |builtin b ats t cs=>exact eD zq2
 |collected r=>exact eD zq2
 |coroexit c=>exact eD zq2
 |fn f c=>
  cases f with
  |func f=>exact nW T _ _
  |method n=>
   dsimp only;split
   ·exact q5 T _ _ _
   ·exact eD zq2
  |methodOf t n=>
   dsimp only;split
   ·refine nX zq2 zq2 fun _=> ?_
    repeat' (first |exact q5 T _ _ _|split)
   ·exact eD zq2
  |via t p f q=>
   dsimp only;split
   ·exact nX zq2 zq2 fun _=>nW T _ _
   ·exact eD zq2
  |yield l=>exact eD zq2
theorem D1(T:Twin Q β)(ρ:PM→AI)(o:Oper):oE Q β (PJ ρ o):=by
 unfold PJ;cases o.op;case call c=>exact nX zq2 zq2 fun d=>na T _ _
 case nilCheck x=>
  refine eD ?_;dsimp only;repeat' (first
   |exact zq2
   |(with_reducible refine n9 ?_ ?_)
   |with_reducible rfl
   |(simp only[bp];done)
   |(refine @gZ _ _ _ _ _ _ ?_ (fun _=> ?_))
   |(refine @rM _ _ _ _ _ _ _ ?_ ?_)
   |split
   |dsimp only)
 all_goals first
  |exact eD zq2
  |(
   refine eD ?_;dsimp only;repeat' (first
    |exact zq2
    |(refine @gZ _ _ _ _ _ _ ?_ (fun _=> ?_))
    |(refine @rM _ _ _ _ _ _ _ ?_ ?_)
    |(refine @Ci _ _ _ _ _ (fun _=> ?_) _)
    |split
    |dsimp only))
def pU(Q:AS)(β:Nat→Option Code)(g:Q4):Prop:=∃f args k,g.frame=PU (alt Q β) f args k∧(β f).isSome=true∧g.status= .running∧∀d,g.dying=some d→d.calling=true
def Oa(Q:AS)(β:Nat→Option Code)(A B:GStep):Prop:=A=B∨∃g w es,A= .go g w es∧pU Q β g∧(Big es→Big B.es)
theorem Ek(f:Q9)(args:Array AI)(k:CallKind)(cs:List By)(dy:Option Dying)(w:AT)(es:Array No)(hdy:∀d,dy=some d→d.calling=true):
 Oa Q β (.go {frame:=PU (alt Q β) f args k,callers:=cs,status:=.running,dying:=dy} w es) (.go {frame:=PU Q f args k,callers:=cs,status:=.running,dying:=dy} w es):=by
 cases hb:β f with
 |some c=>exact .inr ⟨_,w,es,rfl,⟨f,args,k,rfl,by rw[hb];rfl,rfl,hdy⟩,id⟩
 |none=>
  have he:(alt Q β).funcs[f]?=Q.funcs[f]?:=by
   rw[j6];cases Q.funcs[f]? with
   |none=>rfl
   |some fn=>simp[aw,hb]
  refine .inl ?_;unfold PU;rw[he]
theorem ji(fn:Q9)(es:Array No):seen (alt Q β) fn es=seen Q fn es:=by
 have h:∀f:Q9,((alt Q β).funcs[f]?).any (·.norace)=(Q.funcs[f]?).any (·.norace):=fun f=>by
  rw[j6];cases Q.funcs[f]? with
  |none=>rfl
  |some fn=>simp[yt]
 unfold seen;simp only[h]
theorem Cc(fr:By):fr.catches (alt Q β)=fr.catches Q:=by
 unfold Rr;rw[j6];cases Q.funcs[fr.fn]? <;>rfl
theorem A9(T:Twin Q β)(k:Nat):(alt Q β).initFrom k=Q.initFrom k:=by
 unfold Program.initFrom;have hi:(alt Q β).inits=Q.inits:=rfl;have hm:(alt Q β).main=Q.main:=rfl;rw[hi,hm];refine congrArg (fun x:Option Q9=>x.getD Q.main) ?_;rw[← Array.find?_toList,← Array.find?_toList];refine find_congr fun f hf=> ?_
 have hf2:f∈Q.inits:=by
  have:=Array.mem_toList_iff.1 hf;obtain⟨i,hi⟩:=Array.mem_iff_getElem?.1 this;rw[Array.getElem?_extract]at hi;split at hi
  ·exact Array.mem_of_getElem? hi
  ·cases hi
 rw[j6];cases hfn:Q.funcs[f]? with
 |none=>rfl
 |some fn=>
  show(aw β f fn).body.isSome=fn.body.isSome;cases hb:β f with
  |none=>rw[pI hb]
  |some c=>
   rw[T.begin f hf2 fn hfn (by rw[hb];rfl)];unfold aw;rw[hb];rfl
theorem zX(fr:By):fr.noResult (alt Q β)=fr.noResult Q:=rfl
theorem rl(raw:Bool):panicText (alt Q β) raw=panicText Q raw:=by
 funext v
 cases v<;>simp only[panicText,bp]<;>rfl
theorem CU(φ:Nat→Func→Func):sameBox (swap Q φ)=sameBox Q:=by
 funext a b
 unfold sameBox;simp only[bp,bZ];rfl
instance wN(φ:Nat→Func→Func):∀(c:List PanicEntry)(b:Bool),Sm Q φ (reportChain c b)
 |[],_=>⟨trivial⟩
 |e::older,b=>by
  have ih:=fun b=>wN φ older b
  unfold reportChain;repeat' (first
   |exact zq2
   |exact ih _
   |(with_reducible refine n9 ?_ ?_)
   |with_reducible rfl
   |(simp only[CU];done)
   |(refine @gZ _ _ _ _ _ _ ?_ (fun _=> ?_))
   |(refine @rM _ _ _ _ _ _ _ ?_ ?_)
   |split
   |dsimp only)
theorem Au(fr:By)(cs:List By)(dy:Option Dying)(m:String)(w:AT):endFatal (alt Q β) fr cs dy m w=endFatal Q fr cs dy m w:=by
 unfold endFatal;simp only[lV,rl];rw[kC];repeat' (first
  |exact zq2
  |(refine @gZ _ _ _ _ _ _ ?_ (fun _=> ?_))
  |(refine @Bp _ _ _ _ _ (fun _=> ?_) _)
  |split
  |dsimp only)
instance Kg(φ:Nat→Func→Func)(s:ByteArray):Sm Q φ (withAddress s):=by
 unfold withAddress;exact zq2
theorem Be(fr:By)(d:Dying)(f:Fatal)(w:AT):writeOn (alt Q β) fr d f w=writeOn Q fr d f w:=by
 unfold writeOn;dsimp only;split
 ·rfl
 ·rw[iB];repeat' (first
   |exact zq2
   |(with_reducible refine n9 ?_ ?_)
   |with_reducible rfl
   |(simp only[zc];done)
   |(refine @gZ _ _ _ _ _ _ ?_ (fun _=> ?_))
   |(refine @rM _ _ _ _ _ _ _ ?_ ?_)
   |split
   |dsimp only)
end
end
section
@[reducible] def NJ(n:Nat):aJ where
 ok:=fun | .go _=>false|_=>true
 cm:=True
 lim:=n
 nogo _:=rfl
 send _ _ _:=trivial
 recv _ _ _ _:=trivial
 select _ _ _:=trivial
@[reducible] def Iz(n:Nat):aJ where
 ok:=fun | .go _=>false| .send _ _=>false| .recv _ _ _=>false| .select _ _=>false|_=>true
 cm:=False
 lim:=n
 nogo _:=rfl
 send _ _ h:=by cases h
 recv _ _ _ h:=by cases h
 select _ _ h:=by cases h
section
@[reducible] def LX:aJ:=Iz 0
attribute [local instance] LX
variable(Q:AS)(β:Nat→Option Code)
@[go_sem] theorem br:(alt Q β).underlying=Q.underlying:=rfl
@[go_sem] theorem NW:(alt Q β).info?=Q.info?:=rfl
@[go_sem] theorem Nn:(alt Q β).types=Q.types:=rfl
@[go_sem] theorem Pw:(alt Q β).rt=Q.rt:=rfl
@[go_sem] theorem MF:(alt Q β).follows=Q.follows:=rfl
@[go_sem] theorem Np:(alt Q β).depth=Q.depth:=rfl
@[go_sem] theorem dU(t:BY)(w:AT):(isAgg t).run (alt Q β) w=(isAgg t).run Q w:=kC (zq2:Sm Q (aw β) (isAgg t)) w
@[go_sem] theorem dp(t:BY)(w:AT):(sizeOf t).run (alt Q β) w=(sizeOf t).run Q w:=kC (zq2:Sm Q (aw β) (sizeOf t)) w
@[go_sem] theorem cz(t:BY)(w:AT):(zeroValue t).run (alt Q β) w=(zeroValue t).run Q w:=kC (zq2:Sm Q (aw β) (zeroValue t)) w
@[go_sem] theorem Mk(t:BY)(w:AT):(typeInfo t).run (alt Q β) w=(typeInfo t).run Q w:=kC (zq2:Sm Q (aw β) (typeInfo t)) w
@[go_sem] theorem Hl(t:BY)(w:AT):(underlying t).run (alt Q β) w=(underlying t).run Q w:=kC (zq2:Sm Q (aw β) (underlying t)) w
end
theorem uJ{Q:AS}{β:Nat→Option Code}{f:Nat}{fn:Func}(hf:Q.funcs[f]?=some fn)(hb:β f=none):(alt Q β).funcs[f]?=some fn:=by
 have:= @j6 (Iz 0) Q β f;rw[this,hf];simp[aw,hb]
theorem ao{P:AS}{f:Q9}{fn:Func}{c:Code}(hf:P.funcs[f]?=some fn)(hname:(fn.name== "runtime.NumGoroutine")=false)(hb:fn.body=some c)(args:Array AI)(w:AT):(PL f args).run P w= .ok (.enter f args) w:=by
 have h1:fn.name≠ "runtime.NumGoroutine" :=by simpa using hname
 simp[PL,hf,h1,hb,go_sem]
def only (l:List Nat)(f:Nat):Option Code:=if l.contains f then none else some (.refuse "")
theorem ie{l:List Nat}{f:Nat}(h:l.contains f=true):only l f=none:=by unfold only;rw[if_pos h]
end
section
open Go.Conc
def bY(fr:By)(cs:List By):Q4:= {frame:=fr,callers:=cs,status:=.running,dying:=none}
def ND{α:Type}:Sem α→Prop
 | .pure _=>True
 | .halt _=>True
 | .load _ _ k=>∀v,ND (k v)
 | .program k=>∀p,ND (k p)
 |_=>False
theorem jI{α β:Type}{s:Sem α}{f:α→Sem β}(hs:ND s)(hf:∀a,ND (f a)):ND (s>>=f):=by
 show ND (s.bind f);induction s with
 |pure a=>exact hf a
 |halt h=>trivial
 |load m a k ih=>exact fun v=>ih v (hs v)
 |program k ih=>exact fun v=>ih v (hs v)
 |_=>exact hs.elim
theorem LU{P:AS}{α:Type}{s:Sem α}(hs:ND s):∀(w:AT)(τ:Nat→Ql→Nat)(d:Nat),s.run P (af w τ d)=cr (s.run P w) τ d:=by
 induction s with
 |pure a=>exact fun w τ d=>rfl
 |halt h=>exact fun w τ d=>rfl
 |load m a k ih=>
  intro w τ d;simp only[Sem.run,jm];cases w.cell? a with
  |some v=>exact ih v (hs v) w τ d
  |none=>
   have e:(af w τ d).farLoad P a (m== .atomic)=w.farLoad P a (m== .atomic):=rfl;dsimp only;rw[e];cases w.farLoad P a (m== .atomic)with
   |ok r=>exact ih _ (hs _) w τ d
   |error h=>rfl
 |program k ih=>exact fun w τ d=>ih P (hs P) w τ d
 |_=>exact hs.elim
theorem yv(t:BY):ND (underlying t):=by
 intro p;show ND (match p.underlying t with |some d=>pure d|none=>stuck "no such type");split <;>trivial
theorem BT(t:BY):ND (typeInfo t):=by
 intro p;show ND (match p.info? t with |some i=>pure i|none=>stuck "no such type");split <;>trivial
theorem G6(t:BY):ND (sizeOf t):=jI (BT t) fun _=>trivial
theorem A0(a:Addr):∀(n i:Nat)(acc:Array AI),ND (loadCellsFrom a i n acc)
 |0,i,acc=>trivial
 |n+1,i,acc=>fun v=>A0 a n (i+1) _
theorem DT(t:BY)(a:Addr):ND (loadVar t a):=by
 unfold loadVar isAgg;refine jI (jI (yv t) fun d=> ?_) fun b=> ?_
 ·split <;>trivial
 ·split
  ·exact jI (G6 t) fun n=>jI (A0 a n 0 #[]) fun _=>trivial
  ·exact fun v=>trivial
theorem KM{α β:Type}(f:α→Sem β)(hf:∀a,ND (f a))(xs:Array α):ND (xs.mapM f):=by
 rw[Array.mapM_eq_foldlM,← Array.foldlM_toList];generalize (#[]:Array β)=acc;induction xs.toList generalizing acc with
 |nil=>trivial
 |cons x l ih=>
  rw[QC];exact jI (jI (hf x) fun _=>trivial) fun acc'=>ih acc'
theorem tU{P:AS}{fr:By}{w:AT}{e:Ending}(h:fr.leaving P w e)(τ:Nat→Ql→Nat)(d:Nat):fr.leaving P (af w τ d) e:=by
 cases e with
 |returned v=>
  obtain⟨h1,h2,h3,fn,h4,h5⟩:=h;refine⟨h1,h2,h3,fn,h4,?_⟩;have:ND (results fn fr.tmps):=by
   unfold results;refine jI (KM _ (fun r=> ?_) _) fun _=>trivial
   split
   ·trivial
   ·refine jI ?_ fun a=>DT _ a
    unfold asAddr;split
    ·trivial
    ·exact fun p=>trivial
    ·trivial
  rw[LU this,h5];rfl
 |panicked ch=>exact h
 |outgrown=>trivial
structure eQ(P:AS) where
 okF:Q9→Prop
 H:(Q4→AT→Prop)→Q4→AT→Prop
 re:∀K g w τ d,H K g (af w τ d)→H K g w
 stop:∀K g w,K g w→H K g w
 bind:∀K K' g w,H K g w→(∀g' w',K g' w'→H K' g' w')→H K' g w
 hit:∀K g w,g.status= .running→(∀g w,K g w→g.status= .running∧okF g.frame.fn)→(∀τ d,yf P K g (af w τ d))→H K g w
section
variable{P:AS}{D:eQ P}{K:Q4→AT→Prop}{fr fr':By}{cs cs':List By}{w:AT}
theorem eQ.er{g:Q4}(h:D.H K g w)(τ:Nat→Ql→Nat)(d:Nat):D.H K g (af w τ d):=D.re K g _ w.tape w.drawn h
theorem dL{u u':AT}(h:Steps P (lone fr cs u) (lone fr' cs' u'))(hk:K (bY fr' cs') u'):yf P K (bY fr cs) u:=by
 obtain⟨n,hn⟩:=h;exact⟨n,bY fr' cs',u',hn,hk⟩
theorem eQ.go(hf:∀τ d,yf P (fun g u=>(g.status= .running∧D.okF g.frame.fn)∧D.H K g u) (bY fr cs) (af w τ d)):D.H K (bY fr cs) w:=
 D.bind _ K _ _ (D.hit _ _ _ rfl (fun g u h=>h.1) hf) fun g' w' h=>h.2
theorem eQ.one(h:∀u:AT,step P (lone fr cs u)= .next (lone fr' cs' u))(hf:D.okF fr'.fn)(hk:D.H K (bY fr' cs') w):D.H K (bY fr cs) w:=
 D.go fun τ d=>dL (.one (h _)) ⟨⟨rfl,hf⟩,D.er hk τ d⟩
theorem eQ.step{f:AT→AT}(h:∀τ d,step P (lone fr cs (af w τ d))= .next (lone fr' cs' (f (af w τ d))))(hf:D.okF fr'.fn)(hk:∀τ d,D.H K (bY fr' cs') (f (af w τ d))):D.H K (bY fr cs) w:=
 D.go fun τ d=>dL (.one (h τ d)) ⟨⟨rfl,hf⟩,hk τ d⟩
def Cont(D:eQ P)(b:By)(k:List Item)(cs:List By)(K:Q4→AT→Prop):Exit→Act→AT→Prop
 | .normal,a,w=>D.H K (bY (b.at a k) cs) w
 | .exit id,a,w=>∃k',exitTo id k=some k'∧D.H K (bY (b.at a k') cs) w
 | .goto l,a,w=>∃k',gotoIn l k=some k'∧D.H K (bY (b.at a k') cs) w
 | .ret,a,w=>∀todo,D.H K (bY {b.at a todo with mode:=.returning} cs) w
 | .panic chain,a,w=>∀todo,D.H K (bY {b.at a todo with mode:=.panicking chain} cs) w
 | .outgrown,_,_=>False
def cV(D:eQ P)(c:Code)(Q:Exit→Act→AT→Prop)(a:Act)(w:AT):Prop:=
 ∀(b:By)(k:List Item)(cs:List By)(K:Q4→AT→Prop),D.okF b.fn→b.kind≠.early→(∀e a' w',Q e a' w'→Cont D b k cs K e a' w')→D.H K (bY (b.at a (.code c::k)) cs) w
def bo(D:eQ P)(ops:Array Oper)(Q:Exit→Act→AT→Prop)(l:List Nat)(a:Act)(w:AT):Prop:=
 ∀(b:By)(k:List Item)(cs:List By)(K:Q4→AT→Prop),D.okF b.fn→b.kind≠.early→(∀e a' w',Q e a' w'→Cont D b k cs K e a' w')→D.H K (bY (b.at a (.inRegion ops l::k)) cs) w
def dh(D:eQ P)(f:Q9)(args:Array AI)(w:AT)(R:Ending→AT→Prop):Prop:=
 ∀(cs:List By)(K:Q4→AT→Prop),(∀e w' fr,R e w'→e≠.outgrown→fr.fn=f→fr.leaving P w' e→D.H K (bY fr cs) w')→D.H K (bY (PU P f args .normal) cs) w
variable{c:Code}{Q Q':Exit→Act→AT→Prop}{a:Act}{b:By}{k:List Item}
theorem Cont.er{e:Exit}(h:Cont D b k cs K e a w)(τ:Nat→Ql→Nat)(d:Nat):Cont D b k cs K e a (af w τ d):=by
 cases e with
 |normal=>exact D.er h τ d
 |exit id=>obtain⟨k',h1,h2⟩:=h;exact⟨k',h1,D.er h2 τ d⟩
 |goto l=>obtain⟨k',h1,h2⟩:=h;exact⟨k',h1,D.er h2 τ d⟩
 |ret=>exact fun todo=>D.er (h todo) τ d
 |panic ch=>exact fun todo=>D.er (h todo) τ d
 |outgrown=>exact h
theorem BW{u:AT}{e:Exit}{a':Act}{w':AT}(hok:D.okF b.fn)(hk:b.kind≠.early)(h:Arrives P (lone fr cs u) b k cs e a' w')(hc:Cont D b k cs K e a' w'):
 yf P (fun g u=>(g.status= .running∧D.okF g.frame.fn)∧D.H K g u) (bY fr cs) u:=by
 cases e with
 |normal=>exact dL h ⟨⟨rfl,hok⟩,hc⟩
 |exit id=>obtain⟨k',h1,h2⟩:=hc;exact dL (h k' h1) ⟨⟨rfl,hok⟩,h2⟩
 |goto l=>obtain⟨k',h1,h2⟩:=hc;exact dL (h k' h1) ⟨⟨rfl,hok⟩,h2⟩
 |ret=>obtain⟨todo,h⟩:=h;exact dL h ⟨⟨rfl,hok⟩,hc todo⟩
 |panic ch=>obtain⟨todo,h⟩:=h;exact dL h ⟨⟨rfl,hok⟩,hc todo⟩
 |outgrown=>exact hc.elim
theorem qt(h:∀τ d,c.wp P Q a (af w τ d)):cV D c Q a w:=fun b k cs K hok hk hc=>D.go fun τ d=>by
 obtain⟨e,a',w',hq,h0⟩:=h τ d b k cs;exact BW hok hk h0 (hc _ _ _ hq)
theorem ae(h:∀w1:AT,w1.heap=w.heap→c.wp P Q a w1):cV D c Q a w:=qt fun τ d=>h _ rfl
theorem yV(h:cV D c Q a w)(hq:∀e a w,Q e a w→Q' e a w):cV D c Q' a w:=fun b k cs K hok hk hc=>h b k cs K hok hk fun e a' w' h=>hc _ _ _ (hq _ _ _ h)
theorem Lw(h:cV D c Q a w)(τ:Nat→Ql→Nat)(d:Nat):cV D c Q a (af w τ d):=fun b k cs K hok hk hc=>D.er (h b k cs K hok hk hc) τ d
theorem KD{ops:Array Oper}{l:List Nat}(h:bo D ops Q l a w)(τ:Nat→Ql→Nat)(d:Nat):bo D ops Q l a (af w τ d):=fun b k cs K hok hk hc=>D.er (h b k cs K hok hk hc) τ d
theorem dh.mono{f:Q9}{args:Array AI}{R R':Ending→AT→Prop}(h:dh D f args w R)(hr:∀e w',R e w'→R' e w'):dh D f args w R':=
 fun cs K hK=>h cs K fun e w' fr h1 h2 h3 h4=>hK e w' fr (hr _ _ h1) h2 h3 h4
theorem dh.er{f:Q9}{args:Array AI}{R:Ending→AT→Prop}(h:dh D f args w R)(τ:Nat→Ql→Nat)(d:Nat):dh D f args (af w τ d) R:=fun cs K hK=>D.er (h cs K hK) τ d
theorem dh.re{f:Q9}{args:Array AI}{R:Ending→AT→Prop}{τ:Nat→Ql→Nat}{d:Nat}(h:dh D f args (af w τ d) R):dh D f args w R:=fun cs K hK=>D.re _ _ _ τ d (h cs K hK)
theorem gI(h:Q .normal a w):cV D .skip Q a w:=fun b k cs K hok hk hc=>D.one (fun u=>step_skip) hok (hc _ _ _ h)
theorem Hn{id:Nat}(h:Q (.exit id) a w):cV D (.exit id) Q a w:=fun b k cs K hok hk hc=>by
 obtain⟨k',h1,h2⟩:=hc _ _ _ h;exact D.one (fun u=>step_exit h1) hok h2
theorem pa{x:Item}(hx:x.plain=true){e:Exit}(he:e≠.normal){a:Act}{w:AT}(h:Cont D b k cs K e a w):Cont D b (x::k) cs K e a w:=by
 cases e with
 |normal=>exact absurd rfl he
 |exit id=>obtain⟨k',h1,h2⟩:=h;exact⟨k',by cases x<;>simp_all[exitTo,Item.plain],h2⟩
 |goto l=>obtain⟨k',h1,h2⟩:=h;exact⟨k',by cases x<;>simp_all[gotoIn,Item.plain],h2⟩
 |ret=>exact h
 |panic ch=>exact h
 |outgrown=>exact h
theorem wD{x y:Code}(h:cV D x (Exit.then (cV D y Q) Q) a w):cV D (.seq x y) Q a w:=fun b k cs K hok hk hc=>
 D.one (fun u=>step_seq) hok (h b (.code y::k) cs K hok hk fun e a' w' hq=>by
  cases e with
  |normal=>exact hq b k cs K hok hk hc
  |exit id=>exact pa rfl (by simp) (hc _ _ _ hq)
  |goto l=>exact pa rfl (by simp) (hc _ _ _ hq)
  |ret=>exact hc _ _ _ hq
  |panic ch=>exact hc _ _ _ hq
  |outgrown=>exact hc _ _ _ hq)
theorem ag{x y:Code}(h:∀K:Act→AT→Prop,RowKit.Hid (∀a w,cV D y Q a w→K a w)→cV D x (Exit.then K Q) a w):cV D (.seq x y) Q a w:=wD (h _ (Lib.hid fun _ _ h=>h))
theorem yW{c:PM}{x y:Code}{t:Bool}(hc:a.eval c= .bool t)(h:cV D (if t then x else y) Q a w):cV D (.cond c x y) Q a w:=fun b k cs K hok hk hcc=>
 D.one (fun u=>step_cond hc) hok (h b k cs K hok hk hcc)
theorem bT{c:PM}{x y:Code}(hc:a.eval c= .bool true)(h:cV D x Q a w):cV D (.cond c x y) Q a w:=yW hc h
theorem bS{c:PM}{x y:Code}(hc:a.eval c= .bool false)(h:cV D y Q a w):cV D (.cond c x y) Q a w:=yW hc h
theorem ek{id:Nat}{c:Code}(h:cV D c (Ry id Q) a w):cV D (.block id c) Q a w:=fun b k cs K hok hk hc=>
 D.one (fun u=>step_block) hok (h b (.inBlock id::k) cs K hok hk fun e a' w' hq=>by
  cases e with
  |normal=>exact D.one (fun u=>step_inBlock) hok (hc _ _ _ hq)
  |exit id'=>
   by_cases hid:id'=id
   ·simp only[Ry,hid,if_true]at hq;exact⟨k,by simp[exitTo,hid],hc _ _ _ hq⟩
   ·simp only[Ry,hid,if_false]at hq;obtain⟨k',h1,h2⟩:=hc _ _ _ hq;have:(id==id')=false:=by simp;exact fun h=>hid h.symm
    exact⟨k',by simp[exitTo,this,h1],h2⟩
  |goto l=>obtain⟨k',h1,h2⟩:=hc _ _ _ hq;exact⟨k',by simp[gotoIn,h1],h2⟩
  |ret=>exact hc _ _ _ hq
  |panic ch=>exact hc _ _ _ hq
  |outgrown=>exact hc _ _ _ hq)
theorem CM{id:Nat}{ops:Array Oper}(h:bo D ops Q (List.range ops.size) a w):cV D (.region id ops false) Q a w:=fun b k cs K hok hk hc=>
 D.one (fun u=>step_region) hok (h b k cs K hok hk hc)
theorem oI{id:Nat}{ops:Array Oper}(h:∀t,bo D ops Q (Region.schedule (P.follows .mixedOrders) ops t) a w):cV D (.region id ops true) Q a w:=fun b k cs K hok hk hc=>
 D.go fun τ d=>dL (.one step_region_draw) ⟨⟨rfl,hok⟩,D.er (w:=w) (h _ b k cs K hok hk hc) τ (d+1)⟩
theorem aZ{ops:Array Oper}(h:Q .normal a w):bo D ops Q [] a w:=fun b k cs K hok hk hc=>D.one (fun u=>step_region_end) hok (hc _ _ _ h)
theorem FT{ops:Array Oper}{i:Nat}{N:Act→AT→Prop}(h:wpOp P ops Q i N a w)(b:By)(rest:List Nat)(k:List Item)(cs:List By)(hk:b.kind≠.early):
 (∃a' w',N a' w'∧Steps P (lone (b.at a (.inRegion ops (i::rest)::k)) cs w) (lone (b.at a' (.inRegion ops rest::k)) cs w'))∨
 (∃chain w',Q (.panic chain) a w'∧∃todo,Steps P (lone (b.at a (.inRegion ops (i::rest)::k)) cs w) (lone {b.at a todo with mode:=.panicking chain} cs w'))∨∃a w,Q .outgrown a w:=by
 unfold wpOp at h;split at h
 ·rename_i ho;have hs:=step_op_skip (P:=P) (b:=b) (a:=a) (k:=k) (cs:=cs) (w:=w) (ops:=ops) (i:=i) (rest:=rest) (by simp[ho]);simp only[ho,Option.bind_none,Act.put]at hs;exact .inl ⟨a,w,h,.one hs⟩
 ·rename_i o ho;split at h
  ·rename_i hw;rcases h with h|⟨_,hout⟩
   ·have hg:=stepG_op (P:=P) (b:=b) (k:=k) (cs:=cs) (w:=w) (rest:=rest) ho hw;have hfin:∀v,(b.at a (.inRegion ops (i::rest)::k)).finish v=b.at (a.put o.dst v) (.inRegion ops rest::k):=fun v=>by
     rw[R9,ho];rfl
    unfold Oper.wp at h;generalize hr:(PJ a.eval o).run P w=r at h;cases r with
    |ok n w'=>
     cases n<;>simp only[Oper.upon]at h;case value v=>exact .inl ⟨_,_,h,.one (step_lone_go (by rw[hg,← hfin];simp[stepG.apply,hr]))⟩
     case skip=>exact .inl ⟨_,_,h,.one (step_lone_go (by rw[hg,← hfin];simp[stepG.apply,hr]))⟩
     case defer d=>
      refine .inl ⟨_,_,h,.one (step_lone_go ?_)⟩;have:({b.at a (.inRegion ops (i::rest)::k)with defers:=d::a.defers}:By).finish undef=b.at ({a with defers:=d::a.defers}.put o.dst undef) (.inRegion ops rest::k):=by
       have:=R9 b {a with defers:=d::a.defers} ops i rest k undef;rw[ho]at this;exact this
      rw[hg];simp only[stepG.apply,Sem.runT_eq,hr,GStep.bare_after];exact congrArg (fun fr=>GStep.go {frame:=fr,callers:=cs,status:=.running,dying:=none} w') this
     case enter f args=>
      obtain⟨e,w2,fr,hR,h0,_,hleave⟩:=h (b.at a (.inRegion ops (i::rest)::k)::cs);have henter:step P (lone (b.at a (.inRegion ops (i::rest)::k)) cs w)= .next (lone (PU P f args .normal) (b.at a (.inRegion ops (i::rest)::k)::cs) w'):=
       step_lone_go (by rw[hg];simp[stepG.apply,hr,Frame.at])
      cases e with
      |returned v=>exact .inl ⟨_,_,hR,.head henter (Steps.trans h0 (.one (by rw[← hfin];exact step_leave_returned hleave)))⟩
      |panicked chain=>exact .inr (.inl ⟨chain,w2,hR,.inRegion ops (i::rest)::k,.head henter (Steps.trans h0 (.one (by rw[← Rd];exact step_leave_panicked hleave)))⟩)
      |outgrown=>exact .inr (.inr hR)
     case row row args=>
      obtain⟨v,w2,hR,h1⟩:=h (b.at a (.inRegion ops (i::rest)::k)) cs;have henter:step P (lone (b.at a (.inRegion ops (i::rest)::k)) cs w)= .next (lone (Frame.ofRow P row args .normal) (b.at a (.inRegion ops (i::rest)::k)::cs) w'):=
       step_lone_go (by rw[hg];simp[stepG.apply,hr,Frame.at])
      exact .inl ⟨_,_,hR,.head henter (by rw[← hfin];exact h1)⟩
    |halt x w'=>
     cases x<;>simp only[Oper.upon]at h;case panic v=>exact .inr (.inl ⟨_,w',h,.inRegion ops (i::rest)::k,.one (step_lone_go (by rw[hg,← Rd];simp[stepG.apply,hr]))⟩)
   ·exact .inr (.inr hout)
  ·rename_i hw;have hs:=step_op_skip (P:=P) (b:=b) (a:=a) (k:=k) (cs:=cs) (w:=w) (ops:=ops) (i:=i) (rest:=rest) (by simp[ho];simpa using hw);simp only[ho,R1]at hs;exact .inl ⟨_,_,h,.one hs⟩
theorem KC{ops:Array Oper}{i:Nat}{rest:List Nat}{Q1:Exit→Act→AT→Prop}{N:Act→AT→Prop}(h:∀τ d,wpOp P ops Q1 i N a (af w τ d))(hn:∀a' w',N a' w'→bo D ops Q rest a' w')
 (hp:∀chain a' w',Q1 (.panic chain) a' w'→Q (.panic chain) a' w') (ho:∀a' w',Q1 .outgrown a' w'→Q .outgrown a' w'):bo D ops Q (i::rest) a w:=fun b k cs K hok hk hc=>D.go fun τ d=>by
 rcases FT (h τ d) b rest k cs hk with⟨a',w',h1,h2⟩|⟨ch,w',h1,todo,h2⟩|⟨a',w',h1⟩
 ·exact dL h2 ⟨⟨rfl,hok⟩,hn _ _ h1 b k cs K hok hk hc⟩
 ·exact dL h2 ⟨⟨rfl,hok⟩,hc _ _ _ (hp _ _ _ h1) todo⟩
 ·exact(hc _ _ _ (ho _ _ h1)).elim
theorem Ct{ops:Array Oper}{Q1:Exit→Act→AT→Prop}(rest:List Nat):∀(l:List Nat)(a:Act)(w:AT),wpOps P ops Q1 l a w→∀(b:By)(k:List Item)(cs:List By),b.kind≠.early→
 (∃a' w',Q1 .normal a' w'∧Steps P (lone (b.at a (.inRegion ops (l++rest)::k)) cs w) (lone (b.at a' (.inRegion ops rest::k)) cs w'))∨
 (∃chain a' w',Q1 (.panic chain) a' w'∧∃todo,Steps P (lone (b.at a (.inRegion ops (l++rest)::k)) cs w) (lone {b.at a' todo with mode:=.panicking chain} cs w'))∨∃a w,Q1 .outgrown a w:=by
 intro l;induction l with
 |nil=>exact fun a w h b k cs _=>.inl ⟨a,w,h,.refl _ _⟩
 |cons i l ih=>
  intro a w h b k cs hk;rw[wpOps_cons]at h;rcases FT h b (l++rest) k cs hk with⟨a',w',h1,h2⟩|⟨ch,w',h1,todo,h2⟩|h1
  ·rcases ih a' w' h1 b k cs hk with⟨a2,w2,k1,k2⟩|⟨ch,a2,w2,k1,todo,k2⟩|k1
   ·exact .inl ⟨a2,w2,k1,h2.trans k2⟩
   ·exact .inr (.inl ⟨ch,a2,w2,k1,todo,h2.trans k2⟩)
   ·exact .inr (.inr k1)
  ·exact .inr (.inl ⟨ch,a,w',h1,todo,h2⟩)
  ·exact .inr (.inr h1)
theorem qK{ops:Array Oper}{l rest:List Nat}{Q1:Exit→Act→AT→Prop}(h:∀τ d,wpOps P ops Q1 l a (af w τ d))(hn:∀a' w',Q1 .normal a' w'→bo D ops Q rest a' w')
 (hp:∀chain a' w',Q1 (.panic chain) a' w'→Q (.panic chain) a' w') (ho:∀a' w',Q1 .outgrown a' w'→Q .outgrown a' w'):bo D ops Q (l++rest) a w:=fun b k cs K hok hk hc=>D.go fun τ d=>by
 rcases Ct rest l a _ (h τ d) b k cs hk with⟨a',w',h1,h2⟩|⟨ch,a',w',h1,todo,h2⟩|⟨a',w',h1⟩
 ·exact dL h2 ⟨⟨rfl,hok⟩,hn _ _ h1 b k cs K hok hk hc⟩
 ·exact dL h2 ⟨⟨rfl,hok⟩,hc _ _ _ (hp _ _ _ h1) todo⟩
 ·exact(hc _ _ _ (ho _ _ h1)).elim
theorem qs{ops:Array Oper}(l:List Oper):∀k,(∀j,j<l.length→l[j]?=ops[k+j]?)→wpOps P ops Q (Qh k l.length)=wpList P ops Q l:=by
 induction l with
 |nil=>intro k _;funext a w;simp[wpOps,wpList]
 |cons o l ih=>
  intro k h;have h0:ops[k]?=some o:=by simpa using(h 0 (by simp)).symm
  have ih':=ih (k+1) (fun j hj=>by have:=h (j+1) (by simpa using hj);simpa[Nat.add_assoc,Nat.add_comm 1 j]using this);funext a w
  simp only[List.length_cons,List.range'_succ,wpOps,h0,wpList,ih']
theorem b8{l:List Oper}(s n m:Nat)(h:∀N:Act→AT→Prop,RowKit.Hid (∀a' w',bo D l.toArray Q (Qh (s+n) m) a' w'→N a' w')→∀w1:AT,w1.heap=w.heap→wpList P l.toArray (Exit.then N Q) ((l.drop s).take n) a w1)(hl:s+n≤l.length):
 bo D l.toArray Q (Qh s (n+m)) a w:=by
 have e:Qh s (n+m)=Qh s n++Qh (s+n) m:=by
  rw[← List.range'_append_1]
 rw[e];have hlen:((l.drop s).take n).length=n:=by rw[List.length_take,List.length_drop];omega
 refine qK (Q1:=Exit.then (fun a' w'=>bo D l.toArray Q (Qh (s+n) m) a' w') Q) (fun τ d=> ?_) (fun a' w' h=>h) (fun ch a' w' h=>h) (fun a' w' h=>h);have:=h (fun a' w'=>bo D l.toArray Q (Qh (s+n) m) a' w') (Lib.hid fun _ _ h=>h) (af w τ d) rfl;rw[← qs ((l.drop s).take n) s (fun j hj=>by
  rw[hlen]at hj;rw[List.getElem?_take_of_lt hj,List.getElem?_drop];simp),hlen]at this
 exact this
theorem aC{id:Nat}{l:List Oper}(h:bo D l.toArray Q (Qh 0 l.length) a w):cV D (.region id l.toArray false) Q a w:=CM (by rw[List.size_toArray,List.range_eq_range'];exact h)
theorem xQ{ops:Array Oper}{i:Nat}{rest:List Nat}{o:Oper}{f:Q9}{args:Array AI}{R:Ending→AT→Prop}(ho:ops[i]?=some o)(hw:Qz o (yielded ops a.tmps)=true)
 (hx:∀u:AT,(PJ a.eval o).run P u= .ok (.enter f args) u) (hf:D.okF f) (h:dh D f args w R)
 (hr:∀v w',R (.returned v) w'→bo D ops Q rest (a.put o.dst v) w') (hp:∀ch w',R (.panicked ch) w'→Q (.panic ch) a w'):bo D ops Q (i::rest) a w:=fun b k cs K hok hk hc=>by
 have hg:=fun u:AT=>stepG_op (P:=P) (b:=b) (k:=k) (cs:=cs) (w:=u) (rest:=rest) ho hw
 have hfin:∀v,(b.at a (.inRegion ops (i::rest)::k)).finish v=b.at (a.put o.dst v) (.inRegion ops rest::k):=fun v=>by
  rw[R9,ho];rfl
 refine D.one (fr':=PU P f args .normal) (cs':=b.at a (.inRegion ops (i::rest)::k)::cs) (fun u=>step_lone_go (by rw[hg];simp[stepG.apply,hx u,Frame.at])) hf ?_;refine h _ K fun e w' fr hR hne hfn hl=> ?_
 cases e with
 |returned v=>
  refine D.go fun τ d=>dL (.one (step_leave_returned (tU hl τ d))) ⟨⟨rfl,hok⟩,?_⟩
  rw[hfin];exact D.er (hr v w' hR b k cs K hok hk hc) τ d
 |panicked ch=>exact D.one (fun u=>step_leave_panicked (w:=u) hl) hok (by rw[Rd];exact hc _ _ _ (hp ch w' hR) _)
 |outgrown=>exact absurd rfl hne
theorem cF{f:Q9}{fn:Func}{c:Code}{args:Array AI}{R:Ending→AT→Prop}(hok:D.okF f)(hno:∀w',¬ R .outgrown w')(hf:P.funcs[f]?=some fn)(hb:fn.body=some c)
 (h:cV D c (bodyPost P fn R) {tmps:=args++RV (fn.ntmps-args.size) undef,defers:=[]} w):dh D f args w R:=fun cs K hK=>by
 let b:By:= {(default:By)with fn:=f,kind:=.normal}
 have henter:PU P f args .normal=b.at {tmps:=args++RV (fn.ntmps-args.size) undef,defers:=[]} [.code c]:=by
  simp[PU,Frame.at,hf,hb,b]
 rw[henter];refine h b [] cs K hok (by simp[b]) fun e a' w' hq=> ?_
 cases e with
 |normal=>
  obtain⟨hd,v,hr,hR⟩:=hq;exact D.one (fun u=>step_end) hok (hK _ _ _ hR (by simp) rfl ⟨rfl,hd,rfl,fn,hf,hr⟩)
 |ret=>
  obtain⟨hd,v,hr,hR⟩:=hq;exact fun todo=>hK _ _ _ hR (by simp) rfl ⟨rfl,hd,rfl,fn,hf,hr⟩
 |panic ch=>
  obtain⟨hd,hR⟩:=hq;exact fun todo=>hK _ _ _ hR (by simp) rfl ⟨rfl,hd,fn,hf⟩
 |exit id=>exact hq.elim
 |goto l=>exact hq.elim
 |outgrown=>exact(hno _ hq).elim
end
end
section
section
variable(σ:Nat→Nat)
def bh(a:Addr):Addr:= {a with block:=σ a.block}
def l7:Fn→Fn
 | .yield l=>.yield (σ l)
 |f=>f
def a7:AI→AI
 | .pointer a=>.pointer (a.map (bh σ))
 | .slice a n c=>.slice (a.map (bh σ)) n c
 | .map r=>.map (r.map σ)
 | .chan r=>.chan (r.map σ)
 | .func fn first captured=>.func (l7 σ fn) (first.attach.map fun⟨x,_⟩=>a7 x) (captured.attach.map fun⟨x,_⟩=>a7 x)
 | .iface t v=>.iface t (a7 v)
 | .agg cs=>.agg (cs.attach.map fun⟨x,_⟩=>a7 x)
 | .tuple vs=>.tuple (vs.attach.map fun⟨x,_⟩=>a7 x)
 | .bool b=>.bool b
 | .int k n=>.int k n
 | .float k b=>.float k b
 | .complex k a b=>.complex k a b
 | .string s=>.string s
 | .nilFunc=>.nilFunc
 | .nilIface=>.nilIface
end
section
variable{σ:Nat→Nat}
theorem attach_map{α β:Type}(a:Array α)(f:α→β):(a.attach.map fun x=>match x with |⟨x,_⟩=>f x)=a.map f:=by
 apply Array.ext
 ·simp
 ·intro i h1 h2;simp
@[simp] theorem aQ(a:Option Addr):a7 σ (.pointer a)= .pointer (a.map (bh σ)):=by rw[a7]
@[simp] theorem cU(a:Option Addr)(n c:Nat):a7 σ (.slice a n c)= .slice (a.map (bh σ)) n c:=by rw[a7]
@[simp] theorem jl(r:Option Nat):a7 σ (.map r)= .map (r.map σ):=by rw[a7]
@[simp] theorem gz(r:Option Nat):a7 σ (.chan r)= .chan (r.map σ):=by rw[a7]
@[simp] theorem gy(fn:Fn)(a b:Array AI):a7 σ (.func fn a b)= .func (l7 σ fn) (a.map (a7 σ)) (b.map (a7 σ)):=by rw[a7,attach_map,attach_map]
@[simp] theorem dD(t:BY)(v:AI):a7 σ (.iface t v)= .iface t (a7 σ v):=by rw[a7]
@[simp] theorem dw(cs:Array AI):a7 σ (.agg cs)= .agg (cs.map (a7 σ)):=by rw[a7,attach_map]
@[simp] theorem fi(cs:Array AI):a7 σ (.tuple cs)= .tuple (cs.map (a7 σ)):=by rw[a7,attach_map]
@[simp] theorem eN(b:Bool):a7 σ (.bool b)= .bool b:=by rw[a7]
@[simp] theorem bQ(k:IntKind)(n:Int):a7 σ (.int k n)= .int k n:=by rw[a7]
@[simp] theorem dO(k:FloatKind)(n:Nat):a7 σ (.float k n)= .float k n:=by rw[a7]
@[simp] theorem dZ(k:FloatKind)(n m:Nat):a7 σ (.complex k n m)= .complex k n m:=by rw[a7]
@[simp] theorem bX(s:ByteArray):a7 σ (.string s)= .string s:=by rw[a7]
@[simp] theorem eF:a7 σ .nilFunc= .nilFunc:=by rw[a7]
@[simp] theorem cw:a7 σ .nilIface= .nilIface:=by rw[a7]
@[simp] theorem gD(a:Addr):(bh σ a).block=σ a.block:=rfl
@[simp] theorem qG(a:Addr):(bh σ a).off=a.off:=rfl
@[simp] theorem sf(a:Addr):(bh σ a).spot=a.spot:=rfl
@[simp] theorem qH(a:Addr)(n:Nat):bh σ (a.add n)=(bh σ a).add n:=by
 unfold Addr.add;split <;>rfl
@[simp] theorem gC(v:AI):(a7 σ v).cells=v.cells.map (a7 σ):=by
 cases v<;>simp[Value.cells]
@[simp] theorem iC:a7 σ undef=undef:=by simp[undef]
theorem zE(v:AI):(a7 σ v).oneCell'=v.oneCell':=by
 cases v<;>simp[RY]
def iF(e:No):No:=
 match e.loc with
 | .cell a=> {e with loc:=.cell (bh σ a)}
 | .obj r=> {e with loc:=.obj (σ r)}
 | .mark (.acquire a)=> {e with loc:=.mark (.acquire (bh σ a))}
 | .mark (.release a)=> {e with loc:=.mark (.release (bh σ a))}
 | .mark (.releaseMerge a)=> {e with loc:=.mark (.releaseMerge (bh σ a))}
 | .mark (.read a)=> {e with loc:=.mark (.read (bh σ a))}
 | .mark (.write a)=> {e with loc:=.mark (.write (bh σ a))}
 |_=>e
def Nz:Halt→Halt
 | .panic v=>.panic (a7 σ v)
 |h=>h
def Plain:Obj→Prop
 | .number _ _=>False
 | .view _ _=>False
 | .pending _ _=>False
 |_=>True
def xp(σ:Nat→Nat)(ro d:Prop)(o:Obj)(x:Option Obj):Prop:=
 match o with
 | .cells c e fz=>(ro→fz=(0,c.size)∧∃fz',x=some (.cells (c.map (a7 σ)) e fz')∧fz'.2≤c.size)∧(¬ ro→x=some (.cells (c.map (a7 σ)) e fz))
 | .number a l=>x=some (.number (bh σ a) l)
 | .pending _ _=>False
 | .view _ _=>False
 |o=>d→∃o',x=some o'∧Plain o'∧((∃c e f,o'= .cells c e f)∨o'.isChan=o.isChan)
structure Known where
 d:Nat→Prop
 os:Os
instance:CoeFun Known fun _=>Nat→Prop:=⟨Known.d⟩
structure ew(σ:Nat→Nat)(Ro:Nat→Prop)(D:Known)(w w':AT):Prop where
 inj:∀i j,σ i=σ j→i=j
 tape:w'.tape=w.tape
 drawn:w'.drawn=w.drawn
 ro:∀i,Ro i→i<w.heap.size
 blk:∀i o,w.heap[i]?=some o→xp σ (Ro i) (D i) o w'.heap[σ i]?
 num:∀(i:Nat)(a:Addr)(l:Bool),w.heap[i]?=some (.number a l)→D a.block
 os:w.os=D.os∧w'.os=D.os
def gd(σ:Nat→Nat)(w w':AT)(n:Nat):Prop:=∀j,w.heap.size+j<n→σ (w.heap.size+j)=w'.heap.size+j
class Ren(α:Type) where
 ren:(Nat→Nat)→α→α
instance:Ren AI:=⟨a7⟩
instance:Ren Addr:=⟨bh⟩
instance:Ren Unit:=⟨fun _ x=>x⟩
instance:Ren Nat:=⟨fun _ x=>x⟩
instance:Ren Int:=⟨fun _ x=>x⟩
instance:Ren Bool:=⟨fun _ x=>x⟩
instance:Ren ByteArray:=⟨fun _ x=>x⟩
instance:Ren UInt8:=⟨fun _ x=>x⟩
instance:Ren IntKind:=⟨fun _ x=>x⟩
instance:Ren TypeInfo:=⟨fun _ x=>x⟩
instance:Ren TypeDesc:=⟨fun _ x=>x⟩
instance:Ren AS:=⟨fun _ x=>x⟩
instance{α β:Type}[Ren α][Ren β]:Ren (α×β):=⟨fun σ x=>(Ren.ren σ x.1,Ren.ren σ x.2)⟩
instance{α:Type}[Ren α]:Ren (Array α):=⟨fun σ x=>x.map (Ren.ren σ)⟩
instance{α:Type}[Ren α]:Ren (List α):=⟨fun σ x=>x.map (Ren.ren σ)⟩
instance{α:Type}[Ren α]:Ren (Option α):=⟨fun σ x=>x.map (Ren.ren σ)⟩
end
theorem mJ{P:AS}{w w1:AT}{a:Addr}{v:AI}{b:Bool}{l:List Addr}(h:w.farStore P a v b= .ok (w1,l)):w1.heap.size=w.heap.size:=by
 unfold Qm at h;split at h
 ·split at h
  ·rename_i hv;simp only[Except.ok.injEq]at h;subst h;unfold QE at hv;simp only[bind,Qc,pure,Qb]at hv;repeat' split at hv
   all_goals first
    |(cases hv;done)
    |(simp only[Except.ok.injEq,Prod.mk.injEq]at hv;obtain⟨rfl,_⟩:=hv;simp)
  ·cases h
 ·cases h
theorem runT_size{α:Type}(P:AS)(s:Sem α):∀(w:AT)(es:Array No),w.heap.size≤(di (s.runT P w es).1).heap.size:=by
 induction s with
 |pure a=>exact fun w es=>IS _
 |halt x=>exact fun w es=>IS _
 |load m a k ih=>
  intro w es;simp only[OF];split
  ·exact ih _ _ _
  ·split
   ·exact ih _ _ _
   ·exact IS _
 |store m a v k ih=>
  intro w es;cases v;all_goals simp only[OF]
  case agg=>exact IS _
  case tuple=>exact IS _
  all_goals
   split
   ·split
    ·exact IS _
    ·exact R2 (by simp[Q2]) (ih _ _)
   ·split
    ·rename_i hf;rw[← mJ hf];exact ih _ _
    ·exact IS _
 |new o k ih=>exact fun w es=>R2 (by simp) (ih _ _ _)
 |shape r k ih=>exact fun w es=>ih _ _ _
 |freeze a n k ih=>exact fun w es=>R2 (by unfold World.freeze;split <;>simp) (ih _ _)
 |frozen a k ih=>exact fun w es=>ih _ _ _
 |getObj r k ih=>
  intro w es;simp only[OF];split
  ·exact IS _
  ·exact ih _ _ _
  ·exact IS _
 |setObj r o k ih=>
  intro w es;simp only[OF];split
  ·exact IS _
  ·exact R2 (by simp) (ih _ _)
  ·exact IS _
 |choose q k ih=>
  intro w es;simp only[OF];split
  ·exact ih _ _ _
  ·exact ih _ {w with drawn:=w.drawn+1} _
 |sys c k ih=>
  intro w es;have:(w.sys c).2.heap=w.heap:=by
   unfold R8;obtain⟨k0,_,_,h3,_⟩:=nL (Q5 c w.os) w;generalize w.ask (Q5 c w.os)=x at h3 ⊢;obtain⟨⟨r,os⟩,w1⟩:=x;cases r<;>first |rfl|exact h3
  have:=ih (w.sys c).1 (w.sys c).2 (es.push ⟨.output,true,false⟩);simp only[OF];rw[‹(w.sys c).2.heap=w.heap›]at this;exact this
 |program k ih=>exact fun w es=>ih _ _ _
 |mark m k ih=>exact fun w es=>ih _ _
section
variable{σ:Nat→Nat}{Ro:Nat→Prop}{D:Known}{P P':AS}
theorem nG(n:Nat):(Ren.ren σ n:Nat)=n:=rfl
theorem nH(n:Int):(Ren.ren σ n:Int)=n:=rfl
theorem qE(n:Bool):(Ren.ren σ n:Bool)=n:=rfl
theorem wX(v:AI):(Ren.ren σ v:AI)=a7 σ v:=rfl
theorem rW(v:ByteArray):(Ren.ren σ v:ByteArray)=v:=rfl
theorem HS(v:UInt8):(Ren.ren σ v:UInt8)=v:=rfl
theorem um(v:IntKind):(Ren.ren σ v:IntKind)=v:=rfl
theorem un(v:TypeInfo):(Ren.ren σ v:TypeInfo)=v:=rfl
theorem HR(v:TypeDesc):(Ren.ren σ v:TypeDesc)=v:=rfl
theorem zD{α β:Type}[Ren α][Ren β](x:α)(y:β):Ren.ren σ (x,y)=(Ren.ren σ x,Ren.ren σ y):=rfl
theorem Co(v:Array AI):(Ren.ren σ v:Array AI)=v.map (a7 σ):=rfl
def Sub(es es':Array No):Prop:=∀e'∈es',∃e∈es,e'=iF (σ:=σ) e
theorem sX:Sub (σ:=σ) #[] #[]:=fun e he=>by simp at he
theorem kl{es es':Array No}(h:Sub (σ:=σ) es es')(e:No):Sub (σ:=σ) (es.push e) (es'.push (iF (σ:=σ) e)):=fun x hx=>by
 rcases PN.1 hx with hx|rfl
 ·obtain⟨y,hy,rfl⟩:=h x hx;exact⟨y,PN.2 (.inl hy),rfl⟩
 ·exact⟨e,PN.2 (.inr rfl),rfl⟩
theorem Hy{es es':Array No}(h:Sub (σ:=σ) es es')(e:No):Sub (σ:=σ) (es.push e) es':=fun x hx=>by
 obtain⟨y,hy,rfl⟩:=h x hx;exact⟨y,PN.2 (.inl hy),rfl⟩
def B9{α:Type}[Ren α](σ:Nat→Nat)(Ro:Nat→Prop)(D:Known)(w w':AT)(x x':Result α×Array No):Prop:=¬ Big x.2∧
 ((∃a w1 w1',x.1= .ok a w1∧x'.1= .ok (Ren.ren σ a) w1'∧Sub (σ:=σ) x.2 x'.2∧ew σ Ro D w1 w1'∧w1'.heap.size+w.heap.size=w'.heap.size+w1.heap.size)∨
 (∃h w1 w1',x.1= .halt h w1∧¬ Dead h∧x'.1= .halt (Nz (σ:=σ) h) w1'∧Sub (σ:=σ) x.2 x'.2∧ew σ Ro D w1 w1'∧w1'.heap.size+w.heap.size=w'.heap.size+w1.heap.size)∨
 (∃h w1,x.1= .halt h w1∧Dead h))
def mD{α:Type}[Ren α](P P':AS)(σ:Nat→Nat)(Ro:Nat→Prop)(D:Known)(s s':Sem α):Prop:=
 ∀w w' es es',ew σ Ro D w w'→¬ Big es→Sub (σ:=σ) es es'→gd σ w w' (di (s.runT P w es).1).heap.size→B9 σ Ro D w w' (s.runT P w es) (s'.runT P' w' es')
theorem kt{w w':AT}{n m:Nat}(h:gd σ w w' n)(hm:m≤n):gd σ w w' m:=fun j hj=>h j (by omega)
theorem uy{w w' w1 w1':AT}{n:Nat}(h:gd σ w w' n)(h1:w.heap.size≤w1.heap.size)(hs:w1'.heap.size+w.heap.size=w'.heap.size+w1.heap.size):gd σ w1 w1' n:=fun j hj=>by
 have:=h (w1.heap.size-w.heap.size+j) (by omega);have e:w.heap.size+(w1.heap.size-w.heap.size+j)=w1.heap.size+j:=by omega
 rw[e]at this;omega
theorem aj{α β:Type}[Ren α][Ren β]{s s':Sem α}{f f':α→Sem β}(hs:mD P P' σ Ro D s s')(hf:∀a,mD P P' σ Ro D (f a) (f' (Ren.ren σ a))):mD P P' σ Ro D (s>>=f) (s'>>=f'):=by
 intro w w' es es' hw hb hS hF;rw[aN]at hF ⊢;rw[aN];have hsz:(di (s.runT P w es).1).heap.size≤(di (match s.runT P w es with
  |(.ok a w1,e)=>(f a).runT P w1 e
  |(.halt h w1,e)=>(.halt h w1,e)).1).heap.size:=by
  generalize s.runT P w es=x;obtain⟨r,e⟩:=x;cases r with
  |ok a w1=>exact runT_size P (f a) w1 e
  |halt h w1=>exact IS _
 have h1:=hs w w' es es' hw hb hS (kt hF hsz);have hm:=runT_size P s w es;generalize s.runT P w es=x at h1 hF hm ⊢;generalize s'.runT P' w' es'=x' at h1 ⊢;obtain⟨r,e⟩:=x;obtain⟨r',e'⟩:=x';obtain⟨hb1,⟨a,w1,w1',h2,h3,h0,h4,h5⟩|⟨h,w1,w1',h2,h3,h4,h0,h5,h6⟩|⟨h,w1,h2,h3⟩⟩:=h1
 ·dsimp only at h2 h3;subst h2;subst h3;dsimp only at hF ⊢;obtain⟨k0,k⟩:=hf a w1 w1' e e' h4 hb1 h0 (uy hF hm h5);have e5:w1'.heap.size+w.heap.size=w'.heap.size+w1.heap.size:=h5;refine⟨k0,?_⟩;rcases k with⟨b,v,v',l1,l2,l3,l4,l5⟩|⟨h,v,v',l1,l2,l3,l4,l5,l6⟩|⟨h,v,l1,l2⟩
  ·exact .inl ⟨b,v,v',l1,l2,l3,l4,by omega⟩
  ·exact .inr (.inl ⟨h,v,v',l1,l2,l3,l4,l5,by omega⟩)
  ·exact .inr (.inr ⟨h,v,l1,l2⟩)
 ·dsimp only at h2 h4;subst h2;subst h4;exact⟨hb1,.inr (.inl ⟨h,w1,w1',rfl,h3,rfl,h0,h5,h6⟩)⟩
 ·dsimp only at h2;subst h2;exact⟨hb1,.inr (.inr ⟨h,w1,rfl,h3⟩)⟩
theorem a8{α:Type}[Ren α]{a a':α}(h:a'=Ren.ren σ a):mD P P' σ Ro D (pure a:Sem α) (pure a'):=by
 subst h;exact fun w w' es es' hw hb hS hF=>⟨hb,.inl ⟨a,w,w',rfl,rfl,hS,hw,rfl⟩⟩
theorem bD{α:Type}[Ren α]{h:Halt}{s':Sem α}(hd:Dead h):mD P P' σ Ro D (R0 h) s':=fun w w' es es' hw hb hS hF=>⟨hb,.inr (.inr ⟨h,w,rfl,hd⟩)⟩
theorem ai{α:Type}[Ren α]{m:String}{s':Sem α}:mD P P' σ Ro D (stuck m) s':=bD trivial
theorem gu{α:Type}[Ren α]{v v':AI}(h:v'=a7 σ v):mD P P' σ Ro D (goPanic v:Sem α) (goPanic v'):=by
 subst h;exact fun w w' es es' hw hb hS hF=>⟨hb,.inr (.inl ⟨.panic v,w,w',rfl,id,rfl,hS,hw,rfl⟩)⟩
theorem dM{α:Type}[Ren α]{f f':AS→Sem α}(h:mD P P' σ Ro D (f P) (f' P')):mD P P' σ Ro D (program>>=f) (program>>=f'):=h
theorem bn{α:Type}[Ren α]{c c':Prop}[Decidable c][Decidable c']{x y x' y':Sem α}(hc:c↔c')(hx:c→mD P P' σ Ro D x x')(hy:¬ c→mD P P' σ Ro D y y'):mD P P' σ Ro D (if c then x else y) (if c' then x' else y'):=by
 by_cases h:c
 ·rw[if_pos h,if_pos (hc.1 h)];exact hx h
 ·rw[if_neg h,if_neg (fun x=>h (hc.2 x))];exact hy h
theorem ox{es:Array No}{e:No}(h:¬ Big es)(he:Qn e≠.mark .noRoom):¬ Big (es.push e):=fun h=>h
theorem qB(q:Ql):mD P P' σ Ro D (choose q) (choose q):=by
 intro w w' es es' hw hb hS hF;simp only[choose,OF];split
 ·exact⟨hb,.inl ⟨_,w,w',rfl,rfl,hS,hw,rfl⟩⟩
 ·refine⟨hb,.inl ⟨_,{w with drawn:=w.drawn+1},{w' with drawn:=w'.drawn+1},rfl,?_,hS,⟨hw.inj,hw.tape,by show w'.drawn+1=w.drawn+1;rw[hw.drawn],hw.ro,hw.blk,hw.num,hw.os⟩,rfl⟩⟩;rw[hw.tape,hw.drawn];rfl
theorem y8{w w':AT}(hw:ew σ Ro D w w'){a:Addr}{v:AI}(hc:w.cell? a=some v):w'.cell? (bh σ a)=some (a7 σ v)∧
 ∃c e fz,w.heap[a.block]?=some (.cells c e fz)∧a.spot.isSome=false∧c[a.off]?=some v:=by
 unfold World.cell? at hc ⊢;cases ho:w.heap[a.block]? with
 |none=>rw[ho]at hc;cases hc
 |some o=>
  rw[ho]at hc;have hB:=hw.blk _ _ ho;cases o;case cells c e fz=>
   have hx:∃fz',w'.heap[σ a.block]?=some (.cells (c.map (a7 σ)) e fz'):=by
    by_cases hr:Ro a.block
    ·exact(hB.1 hr).2.imp fun _ h=>h.1
    ·exact⟨fz,hB.2 hr⟩
   obtain⟨fz',hx⟩:=hx;dsimp only at hc;rw[gD,hx];dsimp only;rw[sf,qG];split at hc
   ·cases hc
   ·rename_i hsp;rw[if_neg hsp,PO,hc];refine⟨rfl,c,e,fz,rfl,?_,hc⟩;simpa using hsp
  all_goals cases hc
theorem IW{w w':AT}(hw:ew σ Ro D w w')(P:AS)(a:Addr)(b:Bool):∃s,w.farLoad P a b= .error (.stuck s):=by
 unfold Rj QZ;cases ho:w.heap[a.block]? with
 |none=>exact⟨_,rfl⟩
 |some o=>
  have hB:=hw.blk _ _ ho;cases o<;>first |exact hB.elim|exact⟨_,rfl⟩
theorem GF{w w':AT}(hw:ew σ Ro D w w')(P:AS)(a:Addr)(v:AI)(b:Bool):∃s,w.farStore P a v b= .error (.stuck s):=by
 unfold Qm QZ;cases ho:w.heap[a.block]? with
 |none=>exact⟨_,rfl⟩
 |some o=>
  have hB:=hw.blk _ _ ho;cases o<;>first |exact hB.elim|exact⟨_,rfl⟩
theorem qz(a:Addr)(m:Mode):mD P P' σ Ro D (load a m) (load (bh σ a) m):=by
 intro w w' es es' hw hb hS hF;simp only[load,OF];cases hc:w.cell? a with
 |some v=>
  rw[(y8 hw hc).1];exact⟨ox hb (by simp[Qn]),.inl ⟨v,w,w',rfl,rfl,kl hS ⟨.cell a,false,m== .atomic⟩,hw,rfl⟩⟩
 |none=>
  obtain⟨msg,hd⟩:=IW hw P a (m== .atomic);rw[hd];exact⟨hb,.inr (.inr ⟨_,w,rfl,trivial⟩)⟩
end
end
section
section
variable{σ:Nat→Nat}{Ro:Nat→Prop}{D:Known}{P P':AS}
theorem F7(a:Addr)(v:AI)(m:Mode):mD P P' σ Ro D (store a v m) (store (bh σ a) (a7 σ v) m):=by
 intro w w' es es' hw hb hS hF;have e0:∀(P:AS)(u:AT)(x:Addr)(y:AI)(es:Array No),y.oneCell'=true→(store x y m).runT P u es=(match u.cell? x with
  |some _=>if u.frozen? x then(.halt (.unsupported (.unsafePointer "a write to bytes that a string shares")) u,es)else(.ok () (u.setCell x y),es.push ⟨.cell x,true,m== .atomic⟩)
  |none=>match u.farStore P x y (m== .atomic)with
   | .ok (u,touched)=>(.ok () u,es++touched.toArray.map (⟨.cell ·,true,m== .atomic⟩))
   | .error h=>(.halt h u,es)):=fun P u x y es hy=>by
  cases y<;>first |rfl|(exact absurd hy (by decide))|(simp[RY]at hy)
 by_cases hv:v.oneCell'=true
 ·have h1:(a7 σ v).oneCell'=true:=by rw[zE];exact hv
  rw[e0 P w a v es hv,e0 P' w' _ _ _ h1];cases hc:w.cell? a with
  |some o=>
   obtain⟨hc',c,e,fz,ho,hsp,h2⟩:=y8 hw hc;rw[hc'];dsimp only;by_cases hz:w.frozen? a=true
   ·rw[if_pos hz];exact⟨hb,.inr (.inr ⟨_,w,rfl,trivial⟩)⟩
   ·rw[if_neg hz];have hlt:a.off<c.size:=(PE.1 h2).1;have hB:=hw.blk _ _ ho;have hnr:¬ Ro a.block:=fun hr=>by
     have:=(hB.1 hr).1;subst this;exact hz (by unfold Ri;rw[ho];simp[hlt])
    have hblk':w'.heap[σ a.block]?=some (.cells (c.map (a7 σ)) e fz):=hB.2 hnr;have hz':¬ w'.frozen? (bh σ a)=true:=fun h=>hz (by
     unfold Ri at h ⊢;rw[gD,hblk']at h;rw[ho];exact h)
    rw[if_neg hz'];refine⟨ox hb (by simp[Qn]),.inl ⟨(),w.setCell a v,w'.setCell (bh σ a) (a7 σ v),rfl,rfl,kl hS ⟨.cell a,true,m== .atomic⟩,⟨hw.inj,hw.tape,hw.drawn,fun i hi=>by simpa[Q2]using hw.ro i hi,fun i o hi=> ?_,fun i x l hi=> ?_,hw.os⟩,by simp[Q2]⟩⟩;rotate_left
    ·unfold Q2 at hi;dsimp only at hi;rw[PW]at hi;by_cases h0:a.block=i
     ·subst h0;rw[if_pos rfl,ho]at hi;cases hi
     ·rw[if_neg h0]at hi;exact hw.num _ _ _ hi
    unfold Q2 at hi ⊢;dsimp only at hi ⊢;rw[PW]at hi ⊢;by_cases h0:a.block=i
    ·subst h0;rw[if_pos rfl,ho]at hi;simp only[If,Option.some.injEq]at hi;subst hi;refine⟨fun hr=>absurd hr hnr,fun _=> ?_⟩;rw[gD,if_pos rfl,hblk'];simp[sf,qG,hsp,Qx]
    ·rw[if_neg h0]at hi;have hne:¬ σ a.block=σ i:=fun h=>h0 (hw.inj _ _ h)
     rw[gD,if_neg hne];exact hw.blk _ _ hi
  |none=>
   obtain⟨msg,hd⟩:=GF hw P a v (m== .atomic);dsimp only;rw[hd];exact⟨hb,.inr (.inr ⟨_,w,rfl,trivial⟩)⟩
 ·have e1:(store a v m).runT P w es=(.halt (.stuck "store: not the value of one cell") w,es):=by
   cases v<;>first |rfl|(exact absurd rfl hv)
  rw[e1];exact⟨hb,.inr (.inr ⟨_,w,rfl,trivial⟩)⟩
theorem yc{ro d:Prop}{o:Obj}{h:Array Obj}{i:Nat}{x:Obj}(hB:xp σ ro d o h[i]?):xp σ ro d o (h.push x)[i]?:=by
 have hkeep:∀y,h[i]?=some y→(h.push x)[i]?=some y:=fun y hy=>by
  have hlt:=(PE.1 hy).1;rw[PP,if_neg (by omega)];exact hy
 cases o;case cells c e fz=>exact⟨fun hr=>⟨(hB.1 hr).1,(hB.1 hr).2.imp fun f h=>⟨hkeep _ h.1,h.2⟩⟩,fun hr=>hkeep _ (hB.2 hr)⟩
 case number a l=>exact hkeep _ hB
 case pending=>exact hB.elim
 case view=>exact hB.elim
 all_goals exact fun hd=>let⟨y,h1,h2⟩:=hB hd;⟨y,hkeep _ h1,h2⟩
theorem qy(e:BY)(c:Array AI):mD P P' σ Ro D (newRow e c) (newRow e (c.map (a7 σ))):=by
 intro w w' es es' hw hb hS hF;have hsz:σ w.heap.size=w'.heap.size:=by
  have:=hF 0 (by show w.heap.size+0<(w.heap.push _).size;simp);simpa using this
 refine⟨hb,.inl ⟨⟨w.heap.size,0,none⟩,{w with heap:=w.heap.push (.cells c e)},{w' with heap:=w'.heap.push (.cells (c.map (a7 σ)) e)},rfl,?_,hS,⟨hw.inj,hw.tape,hw.drawn,fun i hi=>by have:=hw.ro i hi;simp;omega,fun i o hi=> ?_,fun i x l hi=> ?_,hw.os⟩,by simp;omega⟩⟩;rotate_right
 ·dsimp only at hi;rw[PP]at hi;split at hi
  ·cases hi
  ·exact hw.num _ _ _ hi
 ·simp only[newRow,newObj,bind,Qi,OF,pure,Ren.ren,bh,hsz]
 ·dsimp only at hi ⊢;rw[PP]at hi;split at hi
  ·rename_i h0;cases hi;subst h0;refine⟨fun hr=>absurd (hw.ro _ hr) (Nat.lt_irrefl _),fun _=> ?_⟩;rw[hsz,PP,if_pos rfl]
  ·exact yc (hw.blk _ _ hi)
end
section
variable{σ:Nat→Nat}{Ro:Nat→Prop}{D:Known}{Q:AS}{β:Nat→Option Code}
abbrev au{α:Type}[Ren α](Q:AS)(β:Nat→Option Code)(σ:Nat→Nat)(Ro:Nat→Prop)(D:Known)(s s':Sem α):Prop:=mD (alt Q β) Q σ Ro D s s'
theorem kU(t:BY):au Q β σ Ro D (typeInfo t) (typeInfo t):=by
 unfold typeInfo;refine dM ?_;simp only[bp];split
 ·exact a8 rfl
 ·exact ai
theorem q6(t:BY):au Q β σ Ro D (underlying t) (underlying t):=by
 unfold underlying;refine dM ?_;simp only[bZ];split
 ·exact a8 rfl
 ·exact ai
theorem fR(t:BY):au Q β σ Ro D (sizeOf t) (sizeOf t):=by
 unfold sizeOf;exact aj (kU t) fun a=>a8 rfl
theorem xz(t:BY):au Q β σ Ro D (isAgg t) (isAgg t):=by
 unfold isAgg;refine aj (q6 t) fun a=> ?_
 show au Q β σ Ro D (match a with | .struct _| .array _ _=>pure true|_=>pure false) (match a with | .struct _| .array _ _=>pure true|_=>pure false);split <;>exact a8 rfl
def lk(Q:AS)(σ:Nat→Nat):Prop:=∀t i v,Q.info? t=some i→i.zero=some v→a7 σ v=v
theorem jX(P:AS)(t:BY)(w:AT)(es:Array No):(typeInfo t).runT P w es=match P.info? t with
 |some i=>(.ok i w,es)
 |none=>(.halt (.stuck "no such type") w,es):=by
 show(match P.info? t with |some i=>pure i|none=>stuck "no such type" :Sem TypeInfo).runT P w es=_;cases P.info? t<;>rfl
theorem lz{α:Type}[Ren α](t:BY){f f':TypeInfo→Sem α}(h:∀i,Q.info? t=some i→au Q β σ Ro D (f i) (f' i)):au Q β σ Ro D (typeInfo t>>=f) (typeInfo t>>=f'):=by
 intro w w' es es' hw hb hS hF;rw[aN,jX]at hF ⊢;rw[aN,jX];have e:(alt Q β).info? t=Q.info? t:=rfl;rw[e]at hF ⊢;cases hi:Q.info? t with
 |none=>exact⟨hb,.inr (.inr ⟨_,w,rfl,trivial⟩)⟩
 |some i=>
  rw[hi]at hF;exact h i hi w w' es es' hw hb hS hF
theorem n7(P:AS)(t:BY)(w:AT)(es:Array No):(underlying t).runT P w es=match P.underlying t with
 |some i=>(.ok i w,es)
 |none=>(.halt (.stuck "no such type") w,es):=by
 show(match P.underlying t with |some i=>pure i|none=>stuck "no such type" :Sem TypeDesc).runT P w es=_;cases P.underlying t<;>rfl
theorem bU{α:Type}[Ren α](t:BY){f f':TypeDesc→Sem α}(h:∀d,Q.underlying t=some d→au Q β σ Ro D (f d) (f' d)):au Q β σ Ro D (underlying t>>=f) (underlying t>>=f'):=by
 intro w w' es es' hw hb hS hF;rw[aN,n7]at hF ⊢;rw[aN,n7];have e:(alt Q β).underlying t=Q.underlying t:=rfl;rw[e]at hF ⊢;cases hi:Q.underlying t with
 |none=>exact⟨hb,.inr (.inr ⟨_,w,rfl,trivial⟩)⟩
 |some i=>
  rw[hi]at hF;exact h i hi w w' es es' hw hb hS hF
theorem gn(hz:lk Q σ)(t:BY):au Q β σ Ro D (zeroValue t) (zeroValue t):=by
 unfold zeroValue;refine lz t fun i hi=> ?_
 cases hv:i.zero with
 |some v=>exact a8 (hz t i v hi hv).symm
 |none=>refine bD ?_;trivial
theorem mX(a:Addr):∀(n i:Nat)(acc:Array AI),au Q β σ Ro D (loadCellsFrom a i n acc) (loadCellsFrom (bh σ a) i n (acc.map (a7 σ)))
 |0,i,acc=>a8 rfl
 |n+1,i,acc=>by
  unfold loadCellsFrom;refine aj ?_ fun v=> ?_
  ·rw[← qH];exact qz _ _
  ·have:=mX a n (i+1) (acc.push v);rw[Array.map_push]at this;exact this
theorem rf(a:Addr)(n:Nat):au Q β σ Ro D (loadCells a n) (loadCells (bh σ a) n):=by
 unfold loadCells;have:=mX (Q:=Q) (β:=β) (σ:=σ) (Ro:=Ro) (D:=D) a n 0 #[];simpa using this
theorem jD(a:Addr):∀(vs:List AI)(i:Nat),au Q β σ Ro D (storeCells a vs i) (storeCells (bh σ a) (vs.map (a7 σ)) i)
 |[],i=>a8 rfl
 |v::vs,i=>by
  rw[PV];unfold storeCells;refine aj ?_ fun _=>jD a vs (i+1)
  rw[← qH];exact F7 _ _ _
theorem tK(t:BY)(a:Addr):au Q β σ Ro D (loadVar t a) (loadVar t (bh σ a)):=by
 unfold loadVar;refine aj (xz t) fun b=> ?_
 refine bn PR (fun _=> ?_) fun _=>qz _ _
 refine aj (fR t) fun n=> ?_
 refine aj (rf a n) fun cs=>a8 ?_
 simp[Ren.ren]
theorem zh(t:BY)(a:Addr)(v:AI):au Q β σ Ro D (storeVar t a v) (storeVar t (bh σ a) (a7 σ v)):=by
 unfold storeVar;refine aj (fR t) fun n=> ?_
 simp only[gC,QP,Qj];refine bn PR (fun _=>aj ai fun _=>jD _ _ _) fun _=>jD _ _ _
theorem nc(t:BY)(v:AI):au Q β σ Ro D (newVar t v) (newVar t (a7 σ v)):=by
 unfold newVar;rw[gC];exact qy _ _
theorem qD(place:Nat→Option (Nat×Nat)):∀(l:List (Nat×AI))(cells:Array AI),Qq place (cells.map (a7 σ)) (l.map fun x=>(x.1,a7 σ x.2))=(Qq place cells l).map (Array.map (a7 σ))
 |[],cells=>rfl
 |(i,v)::rest,cells=>by
  simp only[PV,Qq,gC,QP];cases place i with
  |none=>rfl
  |some p=>
   obtain⟨off,size⟩:=p;dsimp only;split
   ·rfl
   ·have e:∀(l:List (AI×Nat))(c:Array AI),(l.map fun x=>(a7 σ x.1,x.2)).foldl (fun cs(x:AI×Nat)=>cs.setIfInBounds (off+x.2) x.1) (c.map (a7 σ))=(l.foldl (fun cs(x:AI×Nat)=>cs.setIfInBounds (off+x.2) x.1) c).map (a7 σ):=by
     intro l;induction l with
     |nil=>exact fun c=>rfl
     |cons x l ih=>
      intro c;simp only[PV,RQ];rw[← Qx];exact ih _
    have e2:(v.cells.map (a7 σ)).zipIdx.toList=v.cells.zipIdx.toList.map fun x=>(a7 σ x.1,x.2):=by
     simp[List.zipIdx_map,Prod.map]
    rw[← QV,← QV,e2,e];exact qD place rest _
theorem Fe(hz:lk Q σ)(t:BY)(b:Bool):au Q β σ Ro D (RH t true (.tuple #[])) (RH t true (.tuple #[])):=by
 unfold RH;refine aj (gn hz t) fun z=> ?_
 exact aj (nc t z) fun a=>a8 (by simp[Ren.ren])
theorem Kk(t:BY)(v:AI):au Q β σ Ro D (S7 t v) (S7 t (a7 σ v)):=by
 unfold S7;exact aj (nc t v) fun a=>a8 (by simp[Ren.ren])
theorem Cj{α γ:Type}[Ren α][Ren γ]{s s':Sem α}{f f':α→γ}(hs:au Q β σ Ro D s s')(hf:∀a,f' (Ren.ren σ a)=Ren.ren σ (f a)):au Q β σ Ro D (f<$>s) (f'<$>s'):=
 aj hs fun a=>a8 (hf a)
theorem rO{α γ:Type}[Ren γ]{f f':α→Sem γ}(hf:∀a,au Q β σ Ro D (f a) (f' a)):∀xs:List α,au Q β σ Ro D (xs.mapM f) (xs.mapM f')
 |[]=>by rw[List.mapM_nil,List.mapM_nil];exact a8 rfl
 |x::xs=>by
  rw[List.mapM_cons,List.mapM_cons];exact aj (hf x) fun a=>aj (rO hf xs) fun l=>a8 rfl
theorem zo{α γ:Type}[Ren γ]{f f':α→Sem γ}(hf:∀a,au Q β σ Ro D (f a) (f' a))(xs:Array α):au Q β σ Ro D (xs.mapM f) (xs.mapM f'):=by
 rw[QY,QY];refine Cj (rO hf _) fun l=> ?_
 simp[Ren.ren]
theorem LF(x:Array (Nat×Nat)):(Ren.ren σ x:Array (Nat×Nat))=x:=by
 show x.map (fun y:Nat×Nat=>(y.1,y.2))=x;simp
theorem Fc(hz:lk Q σ)(t:BY)(parts:Array (Nat×AI)):au Q β σ Ro D (RG t parts) (RG t (parts.map fun x=>(x.1,a7 σ x.2))):=by
 unfold RG;refine aj (gn hz t) fun z=> ?_
 refine bU t fun d hd=> ?_
 cases d;case struct fields=>
  dsimp only;have hm:au Q β σ Ro D (fields.mapM fun f=>(do pure (f.offset,← sizeOf f.type):Sem (Nat×Nat))) (fields.mapM fun f=>(do pure (f.offset,← sizeOf f.type):Sem (Nat×Nat))):=by
   refine zo (fun f=> ?_) fields;exact aj (fR f.type) fun n=>a8 rfl
  refine aj hm fun places=> ?_
  rw[LF];rw[Qj,show(Ren.ren σ z:AI).cells=z.cells.map (a7 σ)from gC z,qD];cases Qq (places[·]?) z.cells parts.toList with
  |none=>exact ai
  |some c=>exact a8 (by simp[Ren.ren])
 case array n e=>
  dsimp only;refine aj (fR e) fun size=> ?_
  rw[Qj,show(Ren.ren σ z:AI).cells=z.cells.map (a7 σ)from gC z,qD,nG];cases Qq (fun i=>some (i*size,size)) z.cells parts.toList with
  |none=>exact ai
  |some c=>exact a8 (by simp[Ren.ren])
 all_goals(dsimp only;exact ai)
theorem kV(v:AI):au Q β σ Ro D (S0 v) (S0 (a7 σ v)):=by
 cases v<;>first
  |exact ai
  |(rename_i a;cases a<;>first |exact ai|(rw[aQ];exact a8 rfl))
theorem D7(t:BY)(v:AI):au Q β σ Ro D (Rx t v) (Rx t (a7 σ v)):=by
 unfold Rx;exact aj (kV v) fun a=>tK t a
theorem Bq(t:BY)(v x:AI):au Q β σ Ro D (Rl t v x) (Rl t (a7 σ v) (a7 σ x)):=by
 unfold Rl;exact aj (kV v) fun a=>zh t a x
theorem tI{α:Type}(t:BY)(f:Nat→Sem α):(sizeOf t>>=f)=typeInfo t>>=fun i=>f i.size:=by
 unfold sizeOf;rw[bind_assoc];rfl
theorem Bw{st:BY}{field:Nat}(hs:∀fields f i,Q.underlying st=some (.struct fields)→fields[field]?=some f→Q.info? f.type=some i→i.size≠0)(v:AI):au Q β σ Ro D (Rp st v field) (Rp st (a7 σ v) field):=by
 unfold Rp;refine bU st fun d hd=> ?_
 cases d;case struct fields=>
  dsimp only;cases hf:fields[field]? with
  |none=>exact ai
  |some f=>
   dsimp only;refine aj (kV v) fun a=> ?_
   have hfp:au Q β σ Ro D (fieldPlace a f) (fieldPlace (Ren.ren σ a) f):=by
    unfold fieldPlace;rw[tI,tI];refine lz f.type fun i hi=> ?_
    rw[if_neg (hs fields f i hd hf hi),if_neg (hs fields f i hd hf hi)];exact a8 (by simp[Ren.ren])
   exact aj hfp fun b=>a8 (by simp[Ren.ren])
 all_goals(dsimp only;exact ai)
end
end
section
structure Fit(Q:AS)(σ:Nat→Nat):Prop where
 zero:lk Q σ
 low:∀g,g≤Q.globals.size→σ g=g
 inj:∀i j,σ i=σ j→i=j
section
variable{σ:Nat→Nat}{Ro:Nat→Prop}{D:Known}{Q:AS}{β:Nat→Option Code}
theorem pG(F:Fit Q σ)(t:BY):a7 σ (typeHandle Q t)=typeHandle Q t:=by
 simp[typeHandle,bh,F.low _ (IS _)]
theorem qF(s:String):a7 σ (strVal s)=strVal s:=by simp[strVal]
theorem vd(t:BY):au Q β σ Ro D (elemOf t) (elemOf t):=by
 unfold elemOf;refine bU t fun d hd=> ?_
 cases d;case pointer e=>exact a8 rfl
 all_goals(dsimp only;exact ai)
theorem co{α:Type}[Ren α](F:Fit Q σ)(e:RuntimeError):au Q β σ Ro D (QI e:Sem α) (QI e):=by
 unfold QI;refine dM ?_;cases e with
 |bounds x y s c=>exact gu (by simp;rfl)
 |error m=>exact gu (by simp[qF];rfl)
 |plain m=>exact gu (by simp[qF];rfl)
 |nilDeref=>exact gu (by simp[qF];rfl)
 |typeAssertion i c a m=>
  dsimp only;refine aj (vd _) fun t=> ?_
  have hh:∀x:Option BY,a7 σ (match x with |some t=>typeHandle Q t|none=>.pointer none)=(match x with |some t=>typeHandle Q t|none=>.pointer none):=fun x=>by
   cases x with
   |none=>simp
   |some t=>exact pG F t
  have hv:∀t,au Q β σ Ro D (newVar t (.agg #[(match i with |some t=>typeHandle Q t|none=>.pointer none),(match c with |some t=>typeHandle Q t|none=>.pointer none),typeHandle Q a,strVal m]))
   (newVar t (.agg #[(match i with |some t=>typeHandle Q t|none=>.pointer none),(match c with |some t=>typeHandle Q t|none=>.pointer none),typeHandle Q a,strVal m])):=fun t=>by
   have:=nc (Q:=Q) (β:=β) (σ:=σ) (Ro:=Ro) (D:=D) t (.agg #[(match i with |some t=>typeHandle Q t|none=>.pointer none),(match c with |some t=>typeHandle Q t|none=>.pointer none),typeHandle Q a,strVal m]);rw[dw]at this;simp only[QB,PV,QH,hh,pG F,qF]at this;exact this
  exact aj (hv t) fun r=>gu (by simp[Ren.ren];rfl)
 |panicNil=>
  dsimp only;refine aj (vd _) fun t=> ?_
  have hv:au Q β σ Ro D (newVar t (.agg #[])) (newVar t (.agg #[])):=by
   have:=nc (Q:=Q) (β:=β) (σ:=σ) (Ro:=Ro) (D:=D) t (.agg #[]);simpa using this
  exact aj hv fun r=>gu (by simp[Ren.ren];rfl)
 |unhashable t=>
  have e:typeHandle (alt Q β) t=typeHandle Q t:=rfl;exact gu (by rw[e];simp[pG F];rfl)
theorem gw{α:Type}[Ren α](F:Fit Q σ)(k:IntKind)(x y:Int)(c:BoundsCode):au Q β σ Ro D (boundsPanic k x y c:Sem α) (boundsPanic k x y c):=by
 unfold boundsPanic;dsimp only;refine bn PR (fun _=> ?_) fun _=> ?_
 ·exact aj (α:=Bool) (Cj (α:=Nat) (γ:=Bool) (qB _) fun n=>rfl) fun b=>co F _
 ·exact aj (α:=Bool) (a8 rfl) fun b=>co F _
theorem m9(v:AI):au Q β σ Ro D (asIntOf v) (asIntOf (a7 σ v)):=by
 cases v<;>first
  |exact ai
  |(simp only[bQ];exact a8 rfl)
  |(rename_i a;cases a<;>first |exact ai|(refine bD ?_;trivial))
theorem xD(v:AI):au Q β σ Ro D (asInt v) (asInt (a7 σ v)):=by
 unfold asInt;exact aj (m9 v) fun x=>a8 rfl
theorem ve(v:AI):au Q β σ Ro D (asBool v) (asBool (a7 σ v)):=by
 cases v<;>first |exact ai|(simp only[eN];exact a8 rfl)
theorem Dd(F:Fit Q σ)(v:AI):au Q β σ Ro D (asAddr v) (asAddr (a7 σ v)):=by
 cases v;case pointer a=>
  rw[aQ];cases a with
  |none=>exact co (α:=Addr) F .nilDeref
  |some a=>exact a8 (α:=Addr) rfl
 all_goals exact ai
theorem zj(t:BY)(cs:Array AI)(off:Nat):au Q β σ Ro D (part t cs off) (part t (cs.map (a7 σ)) off):=by
 unfold part;refine aj (xz t) fun b=> ?_
 refine bn PR (fun _=> ?_) fun _=> ?_
 ·refine aj (fR t) fun n=>a8 ?_
  simp[Ren.ren]
 ·rw[PO];cases cs[off]? with
  |none=>exact ai
  |some v=>exact a8 rfl
theorem tV(z:Array AI)(i:Nat):(z.map (a7 σ))[i]! =a7 σ (z[i]!):=by
 rw[getElem!_def,getElem!_def,PO];cases z[i]? with
 |some v=>rfl
 |none=>show(default:AI)=a7 σ default;simp[default,instInhabitedValue.default,eN]
theorem wS(hz:lk Q σ)(t:BY)(len:Nat)(parts:Array (Nat×AI)):au Q β σ Ro D (R4 t len parts) (R4 t len (parts.map fun x=>(x.1,a7 σ x.2))):=by
 unfold R4;refine bU t fun d hd=> ?_
 cases d;case slice e=>
  dsimp only;refine aj (fR e) fun size=> ?_
  rw[nG];have h0:∀z:Array AI,au Q β σ Ro D
   (match Qq (fun i=>some (i*size,size)) ((QT (len*size)).map (z[· %z.size]!)) parts.toList with
    |some cells=>(do pure (.slice (some (← newRow e cells)) len len):Sem AI)|_=>stuck "buildSlice: a part of the wrong size")
   (match Qq (fun i=>some (i*size,size)) ((QT (len*size)).map ((z.map (a7 σ))[· % (z.map (a7 σ)).size]!)) (parts.map fun x=>(x.1,a7 σ x.2)).toList with
    |some cells=>(do pure (.slice (some (← newRow e cells)) len len):Sem AI)|_=>stuck "buildSlice: a part of the wrong size"):=fun z=>by
   have e1:(QT (len*size)).map ((z.map (a7 σ))[· % (z.map (a7 σ)).size]!)=((QT (len*size)).map (z[· %z.size]!)).map (a7 σ):=by
    rw[QA];congr 1
    funext i
    simp only[QP,Function.comp];exact tV z _
   rw[e1,Qj,qD];cases Qq (fun i=>some (i*size,size)) ((QT (len*size)).map (z[· %z.size]!)) parts.toList with
   |none=>exact ai
   |some cells=>exact aj (qy e cells) fun a=>a8 (by simp[Ren.ren])
  by_cases h:len*size>2^24
  ·rw[if_pos h,if_pos h];exact bD trivial
  ·rw[if_neg h,if_neg h];refine bn (α:=AI) PR (fun _=> ?_) fun _=> ?_
   ·have:=h0 #[];rw[Array.map_empty]at this;exact this
   ·refine aj (gn hz e) fun v=> ?_
    have:=h0 v.cells;rw[← gC]at this;exact this
 all_goals(dsimp only;exact ai)
theorem Bx(v:AI)(n:Nat):au Q β σ Ro D (Rq v n) (Rq (a7 σ v) n):=by
 unfold Rq;cases v;case tuple vs=>
  rw[fi];dsimp only;rw[PO];cases vs[n]? with
  |none=>exact ai
  |some x=>exact a8 rfl
 all_goals(dsimp only;exact ai)
theorem tn(t:BY)(v:AI):au Q β σ Ro D (QM t v) (QM t (a7 σ v)):=by
 unfold QM;refine bU t fun d hd=> ?_
 cases d;case interface ms=>dsimp only;exact ai
 all_goals exact a8 (by simp[Ren.ren])
theorem zp(f:Fn)(hf:l7 σ f=f)(a b:Array AI):au Q β σ Ro D (QN f a b) (QN f (a.map (a7 σ)) (b.map (a7 σ))):=by
 unfold QN;exact a8 (by simp[Ren.ren,hf])
theorem Fa(F:Fit Q σ)(t:BY)(x i:AI):au Q β σ Ro D (RF t x i) (RF t (a7 σ x) (a7 σ i)):=by
 unfold RF;refine aj (m9 i) fun ki=> ?_
 obtain⟨k,i⟩:=ki;rw[zD,um,nH];dsimp only;refine bU t fun d hd=> ?_
 cases d;case array n e=>
  cases x;case agg cs=>
   rw[dw];dsimp only;refine bn PR (fun _=> ?_) fun _=>gw F _ _ _ _
   refine aj (fR e) fun z=>zj _ _ _
  all_goals(dsimp only;exact ai)
 case string=>
  cases x;case string s=>
   rw[bX];dsimp only;split
   ·exact a8 (by simp[Ren.ren])
   ·exact gw F _ _ _ _
  all_goals(dsimp only;exact ai)
 all_goals(dsimp only;exact ai)
theorem wP(F:Fit Q σ)(x:AI)(xt t:BY)(ok:Bool):au Q β σ Ro D (R3 x xt t ok) (R3 (a7 σ x) xt t ok):=by
 unfold R3;have h0:∀(a b:Option BY)(m:String),au Q β σ Ro D (if ok then do pure (.tuple #[← zeroValue t,.bool false])else QI (.typeAssertion a b t m):Sem AI) (if ok then do pure (.tuple #[← zeroValue t,.bool false])else QI (.typeAssertion a b t m)):=fun a b m=>by
  refine bn PR (fun _=> ?_) fun _=>co F _
  exact aj (gn F.zero t) fun z=>a8 (by simp[Ren.ren])
 have hholds:∀v:AI,au Q β σ Ro D (pure (if ok then .tuple #[v,.bool true]else v):Sem AI) (pure (if ok then .tuple #[a7 σ v,.bool true]else a7 σ v)):=fun v=>a8 (by cases ok<;>simp[Ren.ren])
 refine bU t fun d hd=> ?_
 cases x;case nilIface=>
  rw[cw];cases d<;>exact h0 _ _ _
 case iface tx vx=>
  rw[dD];cases d;case interface ms=>
   dsimp only;refine lz tx fun i hi=> ?_
   split
   ·have:=hholds (.iface tx vx);rw[dD]at this;exact this
   ·exact h0 _ _ _
  all_goals
   dsimp only;exact bn PR (fun _=>hholds vx) fun _=>h0 _ _ _
 all_goals(cases d<;>(dsimp only;exact ai))
theorem F6(op:UnOp)(v:AI):au Q β σ Ro D (Rf op v) (Rf op (a7 σ v)):=by
 cases op<;>cases v<;>first
  |exact ai
  |(simp only[bQ,eN,dO,dZ];unfold Rf;dsimp only;exact a8 (by simp[Ren.ren]))
  |(simp only[bQ];unfold Rf Rb;dsimp only;exact a8 (by simp[Ren.ren]))
  |(simp only[bQ];unfold Rf Rg;dsimp only;exact a8 (by simp[Ren.ren]))
  |(rename_i a;cases a<;>first |exact ai|(refine bD ?_;trivial))
end
end
section
section
variable{σ:Nat→Nat}{Ro:Nat→Prop}{D:Known}{Q:AS}{β:Nat→Option Code}
def peek{α:Type}(r:Nat)(n:α)(f:Obj→α):Sem α:=do
 if(← shape r).isSome then return n
 let o ← getObj r
 pure (f o)
theorem uq{α:Type}(P:AS)(n:α)(g:Obj→α)(r:Nat)(w:AT)(es:Array No):(peek r n g).runT P w es=(if(w.shape? r).isSome then(.ok n w,es)else match w.heap[r]? with
 |some (.cells ..)=>(.halt (.stuck "getObj: a row of cells") w,es)
 |some o=>(.ok (g o) w,es.push ⟨.obj r,false,o.isChan⟩)
 |none=>(.halt (.stuck "getObj: no such block") w,es)):=by
 unfold peek;simp only[shape,getObj,bind,Qi,OF,pure];cases hx:(w.shape? r).isSome with
 |true=>rfl
 |false=>
  simp only[IT,if_false,OF,Qi];cases w.heap[r]? with
  |none=>rfl
  |some o=>cases o<;>rfl
theorem zi{α:Type}[Ren α]{r:Nat}(hD:D r){n:α}{f f':Obj→α}(hn:Ren.ren σ n=n)(h0:∀a l,f' (.number (bh σ a) l)=Ren.ren σ (f (.number a l)))
 (ho:∀o,Plain o→f o=n) (h3:∀o,Plain o→f' o=n):
 au Q β σ Ro D (peek r n f) (peek (σ r) n f'):=by
 intro w w' es es' hw hb hS hF;rw[uq,uq];cases ho1:w.heap[r]? with
 |none=>
  have hs:(w.shape? r).isSome=false:=by unfold Qe;rw[ho1];rfl
  rw[hs];simp only[IT,if_false];exact⟨hb,.inr (.inr ⟨_,w,rfl,trivial⟩)⟩
 |some o=>
  have hB:=hw.blk _ _ ho1;by_cases hc:∃c e fz,o= .cells c e fz
  ·obtain⟨c,e,fz,rfl⟩:=hc;have hx:∃fz',w'.heap[σ r]?=some (.cells (c.map (a7 σ)) e fz'):=by
    by_cases hr:Ro r
    ·exact(hB.1 hr).2.imp fun _ h=>h.1
    ·exact⟨fz,hB.2 hr⟩
   obtain⟨fz',hx⟩:=hx;have h1:(w.shape? r).isSome=true:=by unfold Qe;rw[ho1];rfl
   have h2:(w'.shape? (σ r)).isSome=true:=by unfold Qe;rw[hx];rfl
   rw[h1,h2];exact⟨hb,.inl ⟨n,w,w',rfl,by rw[hn];rfl,hS,hw,rfl⟩⟩
  ·have h1:(w.shape? r).isSome=false:=by
    unfold Qe;rw[ho1];cases o<;>first |rfl|exact absurd ⟨_,_,_,rfl⟩ hc
   rw[h1];simp only[IT,if_false];have hg:(match some o with
    |some (.cells ..)=>(.halt (.stuck "getObj: a row of cells") w,es)
    |some o=>(.ok (f o) w,es.push ⟨.obj r,false,o.isChan⟩)
    |none=>(.halt (.stuck "getObj: no such block") w,es):Result α×Array No)=(.ok (f o) w,es.push ⟨.obj r,false,o.isChan⟩):=by
    cases o<;>first |rfl|exact absurd ⟨_,_,_,rfl⟩ hc
   rw[hg];have hb2:¬ Big (es.push ⟨.obj r,false,o.isChan⟩):=ox hb (by cases hq:o.isChan<;>simp[Qn]);by_cases hnm:∃a l,o= .number a l
   ·obtain⟨a,l,rfl⟩:=hnm;have hx:w'.heap[σ r]?=some (.number (bh σ a) l):=hB;have h2:(w'.shape? (σ r)).isSome=false:=by unfold Qe;rw[hx];rfl
    rw[h2,hx];simp only[IT,if_false];refine⟨hb2,.inl ⟨f (.number a l),w,w',rfl,by rw[h0],kl hS ⟨.obj r,false,false⟩,hw,rfl⟩⟩
   ·have h4:Plain o:=by
     cases o<;>first |trivial|exact hB.elim|exact(hnm ⟨_,_,rfl⟩).elim
    have hop:∃o',w'.heap[σ r]?=some o'∧Plain o'∧((∃c e f,o'= .cells c e f)∨o'.isChan=o.isChan):=by
     cases o<;>first |exact hB.elim|exact hB hD|exact absurd ⟨_,_,_,rfl⟩ hc|exact(hnm ⟨_,_,rfl⟩).elim
    obtain⟨o',hx,hp',hk⟩:=hop;rw[ho o h4];by_cases hc':∃c e fz,o'= .cells c e fz
    ·obtain⟨c,e,fz,rfl⟩:=hc';have h2:(w'.shape? (σ r)).isSome=true:=by unfold Qe;rw[hx];rfl
     rw[h2];exact⟨hb2,.inl ⟨n,w,w',rfl,by rw[hn];rfl,Hy hS _,hw,rfl⟩⟩
    ·have h2:(w'.shape? (σ r)).isSome=false:=by
      unfold Qe;rw[hx];cases o'<;>first |rfl|exact absurd ⟨_,_,_,rfl⟩ hc'
     rw[h2,hx];simp only[IT,if_false];have h5:(match some o' with
      |some (.cells ..)=>(.halt (.stuck "getObj: a row of cells") w',es')
      |some o=>(.ok (f' o) w',es'.push ⟨.obj (σ r),false,o.isChan⟩)
      |none=>(.halt (.stuck "getObj: no such block") w',es'):Result α×Array No)=(.ok (f' o') w',es'.push ⟨.obj (σ r),false,o'.isChan⟩):=by
      cases o'<;>first |rfl|exact absurd ⟨_,_,_,rfl⟩ hc'
     rw[h5,h3 o' hp'];have hk:o'.isChan=o.isChan:=hk.resolve_left hc';rw[hk];exact⟨hb2,.inl ⟨n,w,w',rfl,by rw[hn],kl hS ⟨.obj r,false,o.isChan⟩,hw,rfl⟩⟩
instance:Ren BY:=⟨fun _ x=>x⟩
theorem mO(r:Nat):numberAt r=peek r none fun o=>match o with | .number a lost=>some (a,lost)|_=>none:=by
 unfold numberAt peek;congr 1
 funext x
 split
 ·rfl
 ·congr 1
  funext o
  cases o<;>rfl
theorem tA(r:Nat):viewAt r=peek r none fun o=>match o with | .view a t=>some (a,t)|_=>none:=by
 unfold viewAt peek;congr 1
 funext x
 split
 ·rfl
 ·congr 1
  funext o
  cases o<;>rfl
theorem zl{r:Nat}(hD:D r):au Q β σ Ro D (numberAt r) (numberAt (σ r)):=by
 rw[mO,mO];exact zi hD rfl (fun a l=>rfl) (fun o ho=>by cases o<;>first |rfl|exact ho.elim) (fun o ho=>by cases o<;>first |rfl|exact ho.elim)
theorem uY{r:Nat}(hD:D r):au Q β σ Ro D (viewAt r) (viewAt (σ r)):=by
 rw[tA,tA];exact zi hD rfl (fun a l=>rfl) (fun o ho=>by cases o<;>first |rfl|exact ho.elim) (fun o ho=>by cases o<;>first |rfl|exact ho.elim)
theorem D4{a:Addr}(hD:D a.block):au Q β σ Ro D (noView a) (noView (bh σ a)):=by
 unfold noView;refine aj (uY hD) fun x=> ?_
 refine bn ?_ (fun _=>bD trivial) fun _=>a8 rfl
 cases x<;>simp[Ren.ren]
theorem pz{α:Type}[Ren α]{r:Nat}{f f':Option (BY×Nat)→Sem α}(hn:∀s',au Q β σ Ro D (f none) s')(hs:∀e n,au Q β σ Ro D (f (some (e,n))) (f' (some (e,n)))):
 au Q β σ Ro D (shape r>>=f) (shape (σ r)>>=f'):=by
 intro w w' es es' hw hb hS hF;have e1:∀(P:AS)(g:Option (BY×Nat)→Sem α)(r:Nat)(w:AT)(es:Array No),(shape r>>=g).runT P w es=(g (w.shape? r)).runT P w es:=fun P g r w es=>rfl
 rw[e1]at hF ⊢;rw[e1];cases hx:w.shape? r with
 |none=>
  rw[hx]at hF;exact hn _ w w' es es' hw hb hS hF
 |some x=>
  obtain⟨e,n⟩:=x;have hx':w'.shape? (σ r)=some (e,n):=by
   unfold Qe at hx;cases ho:w.heap[r]? with
   |none=>rw[ho]at hx;cases hx
   |some o=>
    rw[ho]at hx;cases o;case cells c e0 fz=>
     have hB:=hw.blk _ _ ho;simp only[Option.some.injEq,Prod.mk.injEq]at hx;obtain⟨rfl,rfl⟩:=hx;have hh:∃fz',w'.heap[σ r]?=some (.cells (c.map (a7 σ)) e0 fz'):=by
      by_cases hr:Ro r
      ·exact(hB.1 hr).2.imp fun _ h=>h.1
      ·exact⟨fz,hB.2 hr⟩
     obtain⟨fz',hh⟩:=hh;unfold Qe;rw[hh];simp
    all_goals cases hx
  rw[hx]at hF;rw[hx'];exact hs e n w w' es es' hw hb hS hF
theorem qi:∀(d:Nat)(t:BY)(o:Nat),byteOfCell (alt Q β) d t o=byteOfCell Q d t o:=by
 intro d;induction d with
 |zero=>exact fun t o=>rfl
 |succ d ih=>
  intro t o;unfold byteOfCell;have e1:(alt Q β).underlying t=Q.underlying t:=rfl;have e2:∀t,(alt Q β).bytesOf t=Q.bytesOf t:=fun t=>rfl
  have e3:∀t,(alt Q β).cellsOf t=Q.cellsOf t:=fun t=>rfl
  rw[e1];simp only[ih,e2,e3]
theorem xj:∀(d:Nat)(t:BY)(o:Nat),cellOfByte (alt Q β) d t o=cellOfByte Q d t o:=by
 intro d;induction d with
 |zero=>exact fun t o=>rfl
 |succ d ih=>
  intro t o;unfold cellOfByte;have e1:(alt Q β).underlying t=Q.underlying t:=rfl;have e2:∀t,(alt Q β).bytesOf t=Q.bytesOf t:=fun t=>rfl
  have e3:∀t,(alt Q β).cellsOf t=Q.cellsOf t:=fun t=>rfl
  rw[e1];simp only[ih,e2,e3]
theorem vX(d:Nat)(t:BY)(c o:Nat)(b:Int):cellAtBytes (alt Q β) d t c o b=cellAtBytes Q d t c o b:=by
 unfold cellAtBytes;have e2:∀t,(alt Q β).bytesOf t=Q.bytesOf t:=fun t=>rfl
 have e3:∀t,(alt Q β).cellsOf t=Q.cellsOf t:=fun t=>rfl
 simp only[qi,xj,e2,e3]
theorem kX{a:Addr}(hD:D a.block):au Q β σ Ro D (byteOf a) (byteOf (bh σ a)):=by
 unfold byteOf;rw[sf];cases a.spot with
 |some s=>exact a8 rfl
 |none=>
  dsimp only;refine dM ?_;refine aj (D4 hD) fun _=> ?_
  refine pz (fun s'=>ai) fun e n=> ?_
  dsimp only;have e3:∀t,(alt Q β).cellsOf t=Q.cellsOf t:=fun t=>rfl
  have e4:(alt Q β).depth=Q.depth:=rfl;have e2:∀t,(alt Q β).bytesOf t=Q.bytesOf t:=fun t=>rfl
  rw[e3,e4,e2,qi,qG];refine bn PR (fun _=>a8 rfl) fun _=> ?_
  cases byteOfCell Q Q.depth e (a.off%Q.cellsOf e)with
  |none=>exact ai
  |some b=>exact a8 rfl
theorem yj{b:Addr}(hD:D b.block)(l:Bool):au Q β σ Ro D (asNumber b l) (asNumber (bh σ b) l):=by
 intro w w' es es' hw hb hS hF;have hsz:σ w.heap.size=w'.heap.size:=by
  have:=hF 0 (by show w.heap.size+0<(w.heap.push _).size;simp);simpa using this
 refine⟨hb,.inl ⟨.pointer (some ⟨w.heap.size,0,none⟩),{w with heap:=w.heap.push (.number b l)},{w' with heap:=w'.heap.push (.number (bh σ b) l)},rfl,?_,hS,⟨hw.inj,hw.tape,hw.drawn,fun i hi=>by have:=hw.ro i hi;simp;omega,fun i o hi=> ?_,fun i x l' hi=> ?_,hw.os⟩,by simp;omega⟩⟩
 ·show Result.ok _ _=_;simp only[wX,aQ,If,bh,hsz]
 ·dsimp only at hi ⊢;rw[PP]at hi;split at hi
  ·rename_i h0;cases hi;subst h0;show _=some _;rw[hsz,PP,if_pos rfl]
  ·exact yc (hw.blk _ _ hi)
 ·dsimp only at hi;rw[PP]at hi;split at hi
  ·simp only[Option.some.injEq,Obj.number.injEq]at hi;rw[← hi.1];exact hD
  ·exact hw.num _ _ _ hi
theorem xC{α γ:Type}[Ren α][Ren γ]{s s':Sem α}{f f':α→Sem γ}(T:α→Prop)(hs:au Q β σ Ro D s s')(hT:∀w w' es a w1 es1,ew σ Ro D w w'→s.runT (alt Q β) w es=(.ok a w1,es1)→T a)(hf:∀a,T a→au Q β σ Ro D (f a) (f' (Ren.ren σ a))):au Q β σ Ro D (s>>=f) (s'>>=f'):=by
 intro w w' es es' hw hb hS hF;cases hx:s.runT (alt Q β) w es with
 |mk r e1=>
  cases r with
  |halt h w1=>
   have h1:=hs w w' es es' hw hb hS (by rw[hx];rw[aN,hx]at hF;exact hF);rw[hx]at h1;obtain⟨hb1,⟨a,v,v',h2,_⟩|⟨h,v,v',h2,h3,h4,h5,h6,h7⟩|⟨h,v,h2,h3⟩⟩:=h1
   ·cases h2
   ·rw[aN,hx,aN];generalize s'.runT Q w' es'=x' at h4 h5 ⊢;obtain⟨r',e'⟩:=x';dsimp only at h4;subst h4;cases h2;exact⟨hb1,.inr (.inl ⟨_,_,v',rfl,h3,rfl,h5,h6,h7⟩)⟩
   ·rw[aN,hx];cases h2;exact⟨hb1,.inr (.inr ⟨_,_,rfl,h3⟩)⟩
  |ok a w1=>
   have h8:=hT w w' es a w1 e1 hw hx;have hm:=runT_size (alt Q β) s w es;have h9:=runT_size (alt Q β) (f a) w1 e1;rw[aN,hx]at hF ⊢;rw[hx]at hm;have h1:=hs w w' es es' hw hb hS (by rw[hx];exact kt hF h9);rw[hx]at h1;obtain⟨hb1,⟨b,v,v',h2,h3,h0,h4,h5⟩|⟨h,v,v',h2,_⟩|⟨h,v,h2,_⟩⟩:=h1
   ·cases h2;rw[aN];generalize s'.runT Q w' es'=x' at h3 h0 ⊢;obtain⟨r',e'⟩:=x';dsimp only at h3;subst h3;obtain⟨k0,k⟩:=hf a h8 w1 v' e1 e' h4 hb1 h0 (uy hF hm h5);refine⟨k0,?_⟩;rcases k with⟨c,u,u',l1,l2,l3,l4,l5⟩|⟨h,u,u',l1,l2,l3,l4,l5,l6⟩|⟨h,u,l1,l2⟩
    ·exact .inl ⟨c,u,u',l1,l2,l3,l4,by omega⟩
    ·exact .inr (.inl ⟨h,u,u',l1,l2,l3,l4,l5,by omega⟩)
    ·exact .inr (.inr ⟨h,u,l1,l2⟩)
   ·cases h2
   ·cases h2
theorem DN{r:Nat}{w w':AT}{es:Array No}{x:Option (Addr×Bool)}{w1:AT}{es1:Array No}(hw:ew σ Ro D w w')(h:(numberAt r).runT (alt Q β) w es=(.ok x w1,es1)):∀y,x=some y→D y.1.block:=by
 rw[mO,uq]at h;intro y hy;subst hy;split at h
 ·cases h
 ·cases ho:w.heap[r]? with
  |none=>rw[ho]at h;cases h
  |some o=>
   rw[ho]at h;cases o;case number a l=>
    simp only[Prod.mk.injEq,Result.ok.injEq,Option.some.injEq]at h;rw[← h.1.1];exact hw.num _ _ _ ho
   all_goals(simp at h)
theorem fh{γ:Type}[Ren γ]{n:Addr}(hD:D n.block){f f':Addr×Bool→Sem γ}(hf:∀a l,D a.block→au Q β σ Ro D (f (a,l)) (f' (bh σ a,l))):au Q β σ Ro D (Qv n>>=f) (Qv (bh σ n)>>=f'):=by
 have e1:∀(n:Addr)(f:Addr×Bool→Sem γ),(Qv n>>=f)=numberAt n.block>>=fun x=>f (x.getD (n,false)):=fun n f=>by
  unfold Qv;show Qi (Qi _ _) _=Qi _ _;rw[q8];rfl
 rw[e1,e1];refine xC (fun x=>∀y,x=some y→D y.1.block) (zl hD) (fun w w' es a w1 es1 hw h=>DN hw h) fun x hx=> ?_
 cases x with
 |none=>exact hf n false hD
 |some y=>obtain⟨a,l⟩:=y;exact hf a l (hx _ rfl)
theorem Ck{t:BY}{x y:AI}(hx:∀a,x= .pointer (some a)→D a.block):au Q β σ Ro D (PY #[] t #[x,y]) (PY #[] t #[a7 σ x,a7 σ y]):=by
 unfold PY;cases x;case pointer ptr=>
  rw[aQ];dsimp only;refine aj (xD y) fun n=> ?_
  rw[nH];refine bn PR (fun _=> ?_) fun _=>bn PR (fun _=>bD trivial) fun _=> ?_
  ·cases ptr with
   |none=>exact bD trivial
   |some a=>
    have hD:=hx a rfl;refine aj (uY hD) fun v=> ?_
    refine bn (by cases v<;>simp[Ren.ren]) (fun _=>bD trivial) fun _=>a8 (by simp[Ren.ren])
  ·cases ptr with
   |none=>exact bD trivial
   |some a=>
    refine pz (fun s'=>bD trivial) fun e n=> ?_
    dsimp only;refine dM ?_;have e3:∀t,(alt Q β).cellsOf t=Q.cellsOf t:=fun t=>rfl
    have e4:(alt Q β).depth=Q.depth:=rfl;rw[vX,e3,e4,qG];split
    ·exact a8 (by simp[Ren.ren,bh])
    ·exact bD trivial
 all_goals exact ai
def Yields{α:Type}(T:α→Prop)(s:Sem α):Prop:=∀P w es a w1 es1,s.runT P w es=(.ok a w1,es1)→T a
theorem tw{α:Type}{T:α→Prop}{a:α}(h:T a):Yields T (pure a):=fun P w es b w1 es1 e=>by
 cases e;exact h
theorem gH{α:Type}{T:α→Prop}{x:Halt}:Yields T (R0 x:Sem α):=fun P w es b w1 es1 e=>by cases e
theorem m7{α γ:Type}{T:γ→Prop}{s:Sem α}{f:α→Sem γ}(h:∀a,Yields T (f a)):Yields T (s>>=f):=fun P w es b w1 es1 e=>by
 rw[aN]at e;split at e
 ·exact h _ _ _ _ _ _ _ e
 ·cases e
theorem qq{α:Type}{T:α→Prop}{c:Prop}[Decidable c]{x y:Sem α}(hx:Yields T x)(hy:Yields T y):Yields T (if c then x else y):=by
 split
 ·exact hx
 ·exact hy
theorem N8{t:BY}{x y:AI}(hx:∀a,x= .pointer (some a)→D a.block):Yields (fun v=>∀b,v= .pointer (some b)→D b.block) (PY #[] t #[x,y]):=by
 unfold PY;cases x;case pointer ptr=>
  dsimp only;refine m7 fun n=> ?_
  refine qq ?_ (qq gH ?_)
  ·cases ptr with
   |none=>exact gH
   |some a=>
    refine m7 fun v=>qq gH (tw fun b hb=> ?_)
    cases hb;exact hx a rfl
  ·cases ptr with
   |none=>exact gH
   |some a=>
    refine m7 fun sh=> ?_
    cases sh with
    |none=>exact gH
    |some q=>
     obtain⟨e,c⟩:=q;dsimp only;refine m7 fun p=> ?_
     split
     ·refine tw fun b hb=> ?_
      cases hb;exact hx a rfl
     ·exact gH
 all_goals exact gH
theorem kW{t:BY}{x y:AI}(hx:∀a,x= .pointer (some a)→D a.block):au Q β σ Ro D (movedNumber t x y) (movedNumber t (a7 σ x) (a7 σ y)):=by
 unfold movedNumber;refine bU t fun d hd=> ?_
 have hk:au Q β σ Ro D (match x with
  | .pointer (some n)=>(do
   let(a,lost) ← Qv n
   match← PY #[] t #[.pointer (some a),y]with
   | .pointer (some b)=>asNumber b lost
   |v=>pure v:Sem AI)
  |_=>PY #[] t #[x,y]) (match a7 σ x with
  | .pointer (some n)=>(do
   let(a,lost) ← Qv n
   match← PY #[] t #[.pointer (some a),a7 σ y]with
   | .pointer (some b)=>asNumber b lost
   |v=>pure v:Sem AI)
  |_=>PY #[] t #[a7 σ x,a7 σ y]):=by
  cases x;case pointer ptr=>
   rw[aQ];cases ptr with
   |none=>
    have:=Ck (Q:=Q) (β:=β) (σ:=σ) (Ro:=Ro) (D:=D) (t:=t) (x:=.pointer none) (y:=y) hx;rw[aQ]at this;exact this
   |some n=>
    dsimp only[If];refine fh (hx n rfl) fun a l ha=> ?_
    dsimp only;have h1:=Ck (Q:=Q) (β:=β) (σ:=σ) (Ro:=Ro) (D:=D) (t:=t) (x:=.pointer (some a)) (y:=y) (fun b hb=>by cases hb;exact ha);rw[aQ]at h1;refine xC (fun v=>∀b,v= .pointer (some b)→D b.block) h1 (fun w w' es v w1 es1 hw h=>N8 (fun b hb=>by cases hb;exact ha) _ _ _ _ _ _ h) fun v hv=> ?_
    rw[wX];cases v;case pointer q=>
     rw[aQ];cases q with
     |none=>exact a8 (by simp[Ren.ren])
     |some b=>exact yj (hv b rfl) l
    all_goals simp only[eN,bQ,dO,dZ,bX,eF,cw,cU,jl,gz,gy,dD,dw,fi]
    all_goals exact a8 (by simp[Ren.ren])
  all_goals simp only[eN,bQ,dO,dZ,bX,eF,cw,cU,jl,gz,gy,dD,dw,fi]
  all_goals exact ai
 cases d<;>first |exact bD trivial|exact hk
end
end
section
section
variable{σ:Nat→Nat}{Ro:Nat→Prop}{D:Known}{Q:AS}{β:Nat→Option Code}
def jC(D:Known)(x:AI):Prop:=∀a,x= .pointer (some a)→D a.block
theorem Cx(F:Fit Q σ)(n:Nat):σ n<Q.globals.size↔n<Q.globals.size:=by
 constructor
 ·intro h;have e:=F.low (σ n) (by omega);have:=F.inj _ _ e;omega
 ·intro h;rw[F.low n (by omega)];exact h
theorem ra(F:Fit Q σ){a b:Addr}(ha:D a.block)(hb:D b.block):au Q β σ Ro D (Rv a b) (Rv (bh σ a) (bh σ b)):=by
 unfold Rv;refine dM ?_;have eg:(alt Q β).globals=Q.globals:=rfl;rw[eg,gD,gD];refine bn ?_ (fun _=>bD trivial) fun _=> ?_
 ·have hne:(σ a.block !=σ b.block)=(a.block !=b.block):=by
   rw[RU,bne_iff_ne,bne_iff_ne];exact⟨fun h h'=>h (by rw[h']),fun h h'=>h (F.inj _ _ h')⟩
  have:=Cx F a.block;rw[hne];rw[Ra,Ra,decide_eq_true_eq,decide_eq_true_eq];constructor
  ·rintro(h|h)
   ·exact .inl h
   ·exact .inr (by omega)
  ·rintro(h|h)
   ·exact .inl h
   ·exact .inr (by omega)
 ·exact aj (kX ha) fun x=>aj (kX hb) fun y=>a8 rfl
theorem BE(F:Fit Q σ)(k:IntKind){a b:Addr}(ha:D a.block)(hb:D b.block):au Q β σ Ro D (RM k a b) (RM k (bh σ a) (bh σ b)):=by
 unfold RM;exact aj (α:=Nat×Nat) (ra F ha hb) fun x=>a8 (by simp[Ren.ren])
theorem BF(F:Fit Q σ)(op:BinOp){a b:Addr}(ha:D a.block)(hb:D b.block):au Q β σ Ro D (RO op a b) (RO op (bh σ a) (bh σ b)):=by
 unfold RO;refine aj (α:=Nat×Nat) (ra F ha hb) fun x=> ?_
 cases op<;>first |exact bD trivial|exact a8 (by simp[Ren.ren])
theorem pD(k:IntKind){a:Addr}(ha:D a.block)(n:Int):au Q β σ Ro D (RN k a n) (RN k (bh σ a) n):=by
 unfold RN;refine pz (fun s'=>bD trivial) fun e c=> ?_
 dsimp only;refine lz e fun i hi=> ?_
 refine bn PR (fun _=>bD trivial) fun _=> ?_
 exact aj (kX ha) fun x=>a8 (by simp[Ren.ren])
theorem zq(op:BinOp)(k:IntKind)(x y:Int):au Q β σ Ro D (Rb op k x y) (Rb op k x y):=by
 unfold Rb;cases op<;>first |exact ai|exact a8 (by simp[Ren.ren])
theorem D8(F:Fit Q σ)(op:BinOp)(k:IntKind)(x y:Int):au Q β σ Ro D (Op.intDiv op k x y) (Op.intDiv op k x y):=by
 unfold Op.intDiv;refine bn PR (fun _=>co F _) fun _=> ?_
 cases op<;>first |exact ai|exact a8 (by simp[Ren.ren])
theorem Bu(op:BinOp)(k:IntKind)(x y:Int):au Q β σ Ro D (Rg op k x y) (Rg op k x y):=by
 unfold Rg;cases op<;>first |exact ai|exact a8 (by simp[Ren.ren])
theorem D9(op:BinOp)(x y:Int):au Q β σ Ro D (Op.intCmp op x y) (Op.intCmp op x y):=by
 unfold Op.intCmp;cases op<;>first |exact ai|exact a8 (by simp[Ren.ren])
theorem xy(F:Fit Q σ)(op:BinOp)(k:IntKind)(x:Int)(yk:IntKind)(y:Int):au Q β σ Ro D (Op.shift op k x yk y) (Op.shift op k x yk y):=by
 unfold Op.shift;refine bn PR (fun _=>co F _) fun _=> ?_
 cases op<;>first |exact ai|exact a8 (by simp[Ren.ren])
theorem rN(op:BinOp)(x y:ByteArray):au Q β σ Ro D (RA op x y) (RA op x y):=by
 unfold RA;cases op<;>first |exact ai|exact a8 (by simp[Ren.ren])|exact bn PR (fun _=>bD trivial) fun _=>a8 (by simp[Ren.ren])
def mF:TypeDesc→Prop
 | .int _=>True
 | .string=>True
 |_=>False
theorem Kt(F:Fit Q σ)(a b:Addr):(bh σ a==bh σ b)=(a==b):=by
 by_cases h:a=b
 ·subst h;simp
 ·have:bh σ a≠bh σ b:=fun h'=>h (by
   have h1:σ a.block=σ b.block:=congrArg RX h';have h2:(bh σ a).off=(bh σ b).off:=by rw[h']
   have h3:(bh σ a).spot=(bh σ b).spot:=by rw[h']
   cases a;cases b;simp only[Addr.mk.injEq];exact⟨F.inj _ _ h1,h2,h3⟩)
  rw[beq_eq_false_iff_ne.2 h,beq_eq_false_iff_ne.2 this]
theorem zr(F:Fit Q σ){t:BY}{x y:AI}(ht:∀d,Q.underlying t=some d→mF d)(hx:jC D x)(hy:jC D y):au Q β σ Ro D (Q6 t x y) (Q6 t (a7 σ x) (a7 σ y)):=by
 unfold Q6 QS;unfold RL;refine bU t fun d hd=> ?_
 have hk:=ht d hd;cases d;case int k=>
  cases x;case int k1 a=>
   cases y;case int k2 b=>
    simp only[bQ];exact bn PR (fun _=>a8 (by simp[Ren.ren])) fun _=>ai
   case pointer q=>
    rw[bQ,aQ];cases q with
    |none=>first |exact bD trivial|exact a8 rfl
    |some b=>
     dsimp only[If];by_cases h0:a=0
     ·subst h0;exact a8 rfl
     ·have:∀(P:AS),True:=fun _=>trivial
      cases a with
      |ofNat n=>cases n with
       |zero=>exact absurd rfl h0
       |succ n=>exact bD trivial
      |negSucc n=>exact bD trivial
   all_goals exact ai
  case pointer q=>
   cases q with
   |none=>
    cases y;all_goals first |exact ai|exact bD trivial|(rename_i z;cases z<;>first |exact ai|exact bD trivial)
   |some a=>
    cases y;case int k2 b=>
     rw[bQ,aQ];dsimp only[If];cases b with
     |ofNat n=>cases n with
      |zero=>exact a8 rfl
      |succ n=>exact bD trivial
     |negSucc n=>exact bD trivial
    case pointer r=>
     cases r with
     |none=>exact bD trivial
     |some b=>
      rw[aQ,aQ];dsimp only[If];refine fh (hx a rfl) fun a1 l1 ha=> ?_
      refine fh (hy b rfl) fun b1 l2 hb=> ?_
      dsimp only;refine dM ?_;have eg:(alt Q β).globals=Q.globals:=rfl;have h1:=Cx F a1.block;have h2:(σ a1.block==σ b1.block)=(a1.block==b1.block):=by
       rw[RU,beq_iff_eq,beq_iff_eq];exact⟨fun h=>F.inj _ _ h,fun h=>by rw[h]⟩
      rw[eg,gD,gD,h2];refine bn ?_ (fun _=> ?_) fun _=> ?_
      ·rw[PD,PD,decide_eq_true_eq,decide_eq_true_eq,h1]
      ·exact aj (kX ha) fun x=>aj (kX hb) fun y=>a8 (by simp[Ren.ren])
      ·refine lz t fun i hi=> ?_
       split
       ·refine bn (by rw[Kt F]) (fun _=>a8 rfl) fun _=>bD trivial
       ·exact bD trivial
    all_goals exact bD trivial
  all_goals(cases y<;>first |exact ai|exact bD trivial)
 case string=>
  cases x;case string a=>
   cases y;case string b=>simp only[bX];exact a8 (by simp[Ren.ren])
   all_goals exact ai
  all_goals exact ai
 all_goals exact hk.elim
theorem ym{t:BY}{x:AI}(ht:∀d,Q.underlying t=some d→∃e,d= .pointer e):au Q β σ Ro D (Q6 t x (.pointer none)) (Q6 t (a7 σ x) (.pointer none)):=by
 unfold Q6 QS;unfold RL;refine bU t fun d hd=> ?_
 obtain⟨e,rfl⟩:=ht d hd;cases x;case pointer q=>
  rw[aQ];cases q<;>exact a8 rfl
 all_goals exact ai
theorem yn{t:BY}{x:AI}(ht:∀d,Q.underlying t=some d→∃e,d= .interface e):au Q β σ Ro D (Q6 t x .nilIface) (Q6 t (a7 σ x) .nilIface):=by
 unfold Q6 QS;unfold RL;refine bU t fun d hd=> ?_
 obtain⟨e,rfl⟩:=ht d hd;cases x;case nilIface=>rw[cw];exact a8 rfl
 case iface t v=>rw[dD];exact a8 rfl
 all_goals exact ai
end
end
section
inductive dG{α:Type}(T:α→Prop):Sem α→Prop where
 |pure (a:α) (h:T a):dG T (.pure a)
 |halt (h:Halt) (d:Dead h):dG T (.halt h)
 |choose (q:Ql) (k:Nat→Sem α) (h:∀n,dG T (k n)):dG T (.choose q k)
theorem aW{α γ:Type}{T:α→Prop}{U:γ→Prop}{s:Sem α}{f:α→Sem γ}(hs:dG T s)(hf:∀a,T a→dG U (f a)):dG U (s>>=f):=by
 show dG U (s.bind f);induction hs with
 |pure a h=>exact hf a h
 |halt h d=>exact .halt h d
 |choose q k _ ih=>exact .choose q _ ih
theorem cj{α:Type}{T:α→Prop}{a:α}(h:T a):dG T (pure a:Sem α):=.pure a h
theorem ld{α:Type}{T:α→Prop}{m:String}:dG T (stuck m:Sem α):=.halt _ trivial
theorem jU{q:Ql}{T:Nat→Prop}(h:∀n,T n):dG T (choose q):=.choose q _ fun n=>.pure n (h n)
theorem gL{α:Type}{T:α→Prop}{c:Prop}[Decidable c]{x y:Sem α}(hx:dG T x)(hy:dG T y):dG T (if c then x else y):=by
 split
 ·exact hx
 ·exact hy
abbrev Any{α:Type}(_:α):Prop:=True
section
variable{σ:Nat→Nat}{Ro:Nat→Prop}{D:Known}{Q:AS}{β:Nat→Option Code}
theorem HF{α:Type}[Ren α]{s:Sem α}(h:dG (fun a=>Ren.ren σ a=a) s):au Q β σ Ro D s s:=by
 induction h with
 |pure a h=>exact a8 h.symm
 |halt h d=>exact bD d
 |choose q k _ ih=>exact aj (qB q) fun n=>ih n
abbrev Still(v:AI):Prop:=∀σ,a7 σ v=v
theorem fa(k:FloatKind)(n:Nat):Still (.float k n):=fun σ=>by simp
theorem mH(k:FloatKind)(n m:Nat):Still (.complex k n m):=fun σ=>by simp
theorem qw(b:Bool):Still (.bool b):=fun σ=>by simp
theorem xx(k:IntKind)(n:Int):Still (.int k n):=fun σ=>by simp
theorem mq{s:Sem AI}(h:dG Still s):au Q β σ Ro D s s:=by
 have:dG (fun a=>Ren.ren σ a=a) s:=by
  induction h with
  |pure a h=>exact .pure a (h σ)
  |halt h d=>exact .halt h d
  |choose q k _ ih=>exact .choose q k ih
 exact HF this
theorem oQ(op:BinOp)(k:FloatKind)(x y:Nat):dG Still (Op.floatArith op k x y):=by
 unfold Op.floatArith;have hj:∀r:Option Nat,dG Still (match r with
  |some r=>pure (.float k r)
  |none=>do pure (.float k (← choose (.nanBits k x y))):Sem AI):=fun r=>by
  cases r with
  |some r=>exact cj (fa _ _)
  |none=>exact aW (jU (T:=Any) fun _=>trivial) fun n _=>cj (fa _ _)
 cases op<;>first |exact hj _|exact .halt _ trivial
theorem rn(op:BinOp)(k:FloatKind)(x y:Nat):dG Still (Op.floatCmp op k x y):=by
 unfold Op.floatCmp;cases op<;>first |exact ld|exact cj (qw _)
theorem tq(s:FloatKind)(b:Nat)(d:FloatKind):dG Still (Rz s b d):=by
 unfold Rz;refine gL (cj (fa _ _)) ?_;split
 ·exact aW (jU (T:=Any) fun _=>trivial) fun n _=>cj (fa _ _)
 ·exact cj (fa _ _)
 ·dsimp only;exact gL (aW (jU (T:=Any) fun _=>trivial) fun n _=>cj (fa _ _)) (cj (fa _ _))
theorem vH(s:FloatKind)(b:Nat)(d:IntKind):dG Still (RS s b d):=by
 have h:dG Still (do pure (.int d (d.wrap (← choose (.floatToInt s b d)))):Sem AI):=aW (jU (T:=Any) fun _=>trivial) fun n _=>cj (xx _ _)
 unfold RS;dsimp only;split
 ·exact gL (cj (xx _ _)) h
 ·exact h
theorem eB(op:BinOp)(k:FloatKind)(x y:Nat):dG Any (Op.Complex.arith op k x y):=by
 unfold Op.Complex.arith;refine aW (oQ op k x y) fun v _=> ?_
 cases v<;>first |exact ld|exact cj trivial
theorem jq(op:BinOp)(k:FloatKind)(x y:Nat):dG Any (Op.Complex.cmp op k x y):=by
 unfold Op.Complex.cmp;refine aW (rn op k x y) fun v _=> ?_
 cases v;case bool b=>exact cj trivial
 all_goals exact ld
theorem jJ(s:FloatKind)(x:Nat)(d:FloatKind):dG Any (Op.Complex.conv s x d):=by
 unfold Op.Complex.conv
 refine gL (cj trivial) (aW (tq s x d) fun v _=> ?_);cases v<;>first |exact ld|exact cj trivial
theorem yw(a b c d:Nat):dG Any (Op.Complex.product a b c d):=by
 unfold Op.Complex.product Op.Complex.sub Op.Complex.mul Op.Complex.add;repeat' first
  |exact cj trivial
  |refine aW (eB _ _ _ _) fun _ _=> ?_
theorem oR(a b c d e:Nat):dG Any (Op.Complex.corrected a b c d e):=by
 unfold Op.Complex.corrected Op.Complex.sub Op.Complex.mul Op.Complex.add;repeat' first
  |exact cj trivial
  |refine aW (eB _ _ _ _) fun _ _=> ?_
theorem G8(x y:Nat):dG Any (Op.Complex.sub x y):=eB _ _ _ _
theorem xU(x y:Nat):dG Any (Op.Complex.add x y):=eB _ _ _ _
theorem mw(x y:Nat):dG Any (Op.Complex.mul x y):=eB _ _ _ _
theorem ss(x y:Nat):dG Any (Op.Complex.quo x y):=eB _ _ _ _
theorem xa(a b c d:Nat):dG Any (Op.Complex.quotient a b c d):=by
 unfold Op.Complex.quotient;extract_lets jp;have hj:∀ef,dG Any (jp ef):=fun ef=>by
  dsimp only[jp];refine aW (jq _ _ _ _) fun _ _=> ?_
  refine aW (jq _ _ _ _) fun _ _=> ?_
  refine gL (cj trivial) (gL ?_ (gL (oR _ _ _ _ _) (gL (oR _ _ _ _ _) (cj trivial))));exact aW (mw _ _) fun _ _=>aW (mw _ _) fun _ _=>cj trivial
 clear_value jp;refine aW (jq _ _ _ _) fun b _=>gL ?_ ?_
 all_goals exact aW (ss _ _) fun _ _=>aW (mw _ _) fun _ _=>aW (xU _ _) fun _ _=>aW (mw _ _) fun _ _=>aW (xU _ _) fun _ _=>aW (ss _ _) fun _ _=>aW (mw _ _) fun _ _=>aW (G8 _ _) fun _ _=>aW (ss _ _) fun _ _=>hj _
theorem xc(op:BinOp)(k:FloatKind)(a b c d:Nat):dG Still (Op.complexOp op k a b c d):=by
 unfold Op.complexOp;have hm:∀p:Bool,dG Still (do
  let(a,b,c,d):=(← Op.Complex.conv k a .f64,← Op.Complex.conv k b .f64,← Op.Complex.conv k c .f64,← Op.Complex.conv k d .f64)
  let(e,f) ← if p then Op.Complex.product a b c d else Op.Complex.quotient a b c d
  pure (.complex k (← Op.Complex.conv .f64 e k) (← Op.Complex.conv .f64 f k)):Sem AI):=fun p=>by
  refine aW (jJ _ _ _) fun _ _=>aW (jJ _ _ _) fun _ _=>aW (jJ _ _ _) fun _ _=>aW (jJ _ _ _) fun _ _=> ?_
  dsimp only;refine gL (aW (yw _ _ _ _) fun ef _=> ?_) (aW (xa _ _ _ _) fun ef _=> ?_);all_goals exact aW (jJ _ _ _) fun _ _=>aW (jJ _ _ _) fun _ _=>cj (mH _ _ _)
 cases op;case mul=>exact hm _
 case quo=>exact hm _
 case add=>exact aW (eB _ _ _ _) fun _ _=>aW (eB _ _ _ _) fun _ _=>cj (mH _ _ _)
 case sub=>exact aW (eB _ _ _ _) fun _ _=>aW (eB _ _ _ _) fun _ _=>cj (mH _ _ _)
 case eql=>exact aW (jq _ _ _ _) fun _ _=>aW (jq _ _ _ _) fun _ _=>cj (qw _)
 case neq=>exact aW (jq _ _ _ _) fun _ _=>aW (jq _ _ _ _) fun _ _=>cj (qw _)
 all_goals exact ld
def DM(Q:AS)(op:BinOp)(t:BY)(y:PM):Bool:=
 match Q.underlying t with
 |some (.int _)=>true
 |some .string=>true
 |some (.pointer _)=>(op matches .eql| .neq)&& (y matches .const (.pointer none))
 |some (.interface _)=>(op matches .eql| .neq)&& (y matches .const .nilIface)
 |_=>false
theorem dr{α:Type}[Ren α]{h:Halt}{s':Sem α}(hd:Dead h):au Q β σ Ro D (R0 h) s':=bD hd
theorem rP(op:BinOp){t:BY}{x y x' y':AI}(h:au Q β σ Ro D (Q6 t x y) (Q6 t x' y')):au Q β σ Ro D (do pure (.bool (← Q6 t x y)):Sem AI) (do pure (.bool (← Q6 t x' y')))∧au Q β σ Ro D (do pure (.bool !(← Q6 t x y)):Sem AI) (do pure (.bool !(← Q6 t x' y'))):=
 ⟨aj h fun b=>a8 (by simp[Ren.ren]),aj h fun b=>a8 (by simp[Ren.ren])⟩
end
end
section
section
variable{σ:Nat→Nat}{Ro:Nat→Prop}{D:Known}{Q:AS}{β:Nat→Option Code}
theorem binOp_eql{t:BY}{x y:AI}(h1:∀k a k' b,x= .int k a→y= .int k' b→False)(h2:∀k a k' b,x= .float k a→y= .float k' b→False)
 (h3:∀k a a' k' b b',x= .complex k a a'→y= .complex k' b b'→False) (h4:∀a b,x= .string a→y= .string b→False):binOp .eql t x y=(do pure (.bool (← Q6 t x y))):=by
 unfold binOp;split;all_goals first
  |rfl
  |exact(h1 _ _ _ _ rfl rfl).elim
  |exact(h2 _ _ _ _ rfl rfl).elim
  |exact(h3 _ _ _ _ _ _ rfl rfl).elim
  |exact(h4 _ _ rfl rfl).elim
  |contradiction
theorem binOp_neq{t:BY}{x y:AI}(h1:∀k a k' b,x= .int k a→y= .int k' b→False)(h2:∀k a k' b,x= .float k a→y= .float k' b→False)
 (h3:∀k a a' k' b b',x= .complex k a a'→y= .complex k' b b'→False) (h4:∀a b,x= .string a→y= .string b→False):binOp .neq t x y=(do pure (.bool !(← Q6 t x y))):=by
 unfold binOp;split;all_goals first
  |rfl
  |exact(h1 _ _ _ _ rfl rfl).elim
  |exact(h2 _ _ _ _ rfl rfl).elim
  |exact(h3 _ _ _ _ _ _ rfl rfl).elim
  |exact(h4 _ _ rfl rfl).elim
  |contradiction
theorem l0{x:AI}{k:IntKind}{a:Int}(h:a7 σ x= .int k a):x= .int k a:=by cases x<;>simp at h ⊢<;>exact h
theorem jF{x:AI}{k:FloatKind}{a:Nat}(h:a7 σ x= .float k a):x= .float k a:=by cases x<;>simp at h ⊢<;>exact h
theorem iD{x:AI}{k:FloatKind}{a b:Nat}(h:a7 σ x= .complex k a b):x= .complex k a b:=by cases x<;>simp at h ⊢<;>exact h
theorem jc{x:AI}{a:ByteArray}(h:a7 σ x= .string a):x= .string a:=by cases x<;>simp at h ⊢<;>exact h
theorem Da(F:Fit Q σ)(op:BinOp){t:BY}{x y:AI}(ht:∀d,Q.underlying t=some d→mF d)(hx:jC D x)(hy:jC D y):au Q β σ Ro D (binOp op t x y) (binOp op t (a7 σ x) (a7 σ y)):=by
 obtain⟨he,hne⟩:=rP op (zr (β:=β) (Ro:=Ro) F ht hx hy);rw[binOp.eq_def op t x y];split
 ·simp only[bQ];exact xy F _ _ _ _ _
 ·simp only[bQ];exact xy F _ _ _ _ _
 ·rename_i k a k' b h1 h2;simp only[bQ];unfold binOp;cases op;case shl=>exact(h1 rfl).elim
  case shr=>exact(h2 rfl).elim
  all_goals
   dsimp only;refine bn PR (fun _=>ai) fun _=> ?_
   first
    |exact zq _ _ _ _
    |exact D8 F _ _ _ _
    |exact Bu _ _ _ _
    |exact D9 _ _ _
 ·simp only[dO];unfold binOp;cases op;all_goals
   dsimp only;refine bn PR (fun _=>ai) fun _=> ?_
   first
    |exact mq (oQ _ _ _ _)
    |exact mq (rn _ _ _ _)
 ·simp only[dZ];unfold binOp;cases op;all_goals
   dsimp only;refine bn PR (fun _=>ai) fun _=> ?_
   exact mq (xc _ _ _ _ _ _)
 ·simp only[bX];unfold binOp;cases op<;>exact rN _ _ _
 ·rename_i h1 h2 h3 h4;rw[binOp_eql (fun k a k' b e e'=>h1 _ _ _ _ (l0 e) (l0 e')) (fun k a k' b e e'=>h2 _ _ _ _ (jF e) (jF e')) (fun k a a' k' b b' e e'=>h3 _ _ _ _ _ _ (iD e) (iD e')) (fun a b e e'=>h4 _ _ (jc e) (jc e'))];exact he
 ·rename_i h1 h2 h3 h4;rw[binOp_neq (fun k a k' b e e'=>h1 _ _ _ _ (l0 e) (l0 e')) (fun k a k' b e e'=>h2 _ _ _ _ (jF e) (jF e')) (fun k a a' k' b b' e e'=>h3 _ _ _ _ _ _ (iD e) (iD e')) (fun a b e e'=>h4 _ _ (jc e) (jc e'))];exact hne
 ·rename_i p k n;have h0:=kW (Q:=Q) (β:=β) (σ:=σ) (Ro:=Ro) (D:=D) (t:=t) (x:=.pointer p) (y:=.int k n) hx;rw[aQ,bQ]at h0 ⊢;refine bU t fun d hd=> ?_
  have hk:=ht d hd;cases d;case int=>exact h0
  case string=>exact h0
  all_goals exact hk.elim
 ·rename_i k n p;have h0:=kW (Q:=Q) (β:=β) (σ:=σ) (Ro:=Ro) (D:=D) (t:=t) (x:=.pointer p) (y:=.int k n) hy;rw[aQ,bQ]at h0 ⊢;exact h0
 ·rename_i p k n;have h0:=kW (Q:=Q) (β:=β) (σ:=σ) (Ro:=Ro) (D:=D) (t:=t) (x:=.pointer p) (y:=.int k (-n)) hx;rw[aQ,bQ]at h0 ⊢;exact h0
 ·simp only[aQ,If];exact fh (hx _ rfl) fun b1 l hb=>fh (hy _ rfl) fun b2 l2 hb2=>BE F _ hb hb2
 iterate 4
  ·simp only[aQ,If];exact fh (hx _ rfl) fun b1 l hb=>fh (hy _ rfl) fun b2 l2 hb2=>BF F _ hb hb2
 ·simp only[aQ,bQ,If];exact fh (hx _ rfl) fun b1 l hb=>pD _ hb _
 ·simp only[aQ,bQ,If];exact fh (hx _ rfl) fun b1 l hb=>pD _ hb _
 ·simp only[aQ,bQ,If];exact fh (hy _ rfl) fun b1 l hb=>pD _ hb _
 ·exact dr trivial
 ·exact dr trivial
 ·exact ai
theorem yo(op:BinOp)(ho:op= .eql∨op= .neq){t:BY}{x:AI}(ht:∀d,Q.underlying t=some d→∃e,d= .pointer e):au Q β σ Ro D (binOp op t x (.pointer none)) (binOp op t (a7 σ x) (.pointer none)):=by
 obtain⟨he,hne⟩:=rP op (ym (β:=β) (Ro:=Ro) (D:=D) (σ:=σ) (x:=x) ht);rcases ho with rfl|rfl
 ·rw[binOp_eql (fun _ _ _ _ _ e=>by cases e) (fun _ _ _ _ _ e=>by cases e) (fun _ _ _ _ _ _ _ e=>by cases e) (fun _ _ _ e=>by cases e),binOp_eql (fun _ _ _ _ _ e=>by cases e) (fun _ _ _ _ _ e=>by cases e) (fun _ _ _ _ _ _ _ e=>by cases e) (fun _ _ _ e=>by cases e)];exact he
 ·rw[binOp_neq (fun _ _ _ _ _ e=>by cases e) (fun _ _ _ _ _ e=>by cases e) (fun _ _ _ _ _ _ _ e=>by cases e) (fun _ _ _ e=>by cases e),binOp_neq (fun _ _ _ _ _ e=>by cases e) (fun _ _ _ _ _ e=>by cases e) (fun _ _ _ _ _ _ _ e=>by cases e) (fun _ _ _ e=>by cases e)];exact hne
theorem yq(op:BinOp)(ho:op= .eql∨op= .neq){t:BY}{x:AI}(ht:∀d,Q.underlying t=some d→∃e,d= .interface e):au Q β σ Ro D (binOp op t x .nilIface) (binOp op t (a7 σ x) .nilIface):=by
 obtain⟨he,hne⟩:=rP op (yn (β:=β) (Ro:=Ro) (D:=D) (σ:=σ) (x:=x) ht);rcases ho with rfl|rfl
 ·rw[binOp_eql (fun _ _ _ _ _ e=>by cases e) (fun _ _ _ _ _ e=>by cases e) (fun _ _ _ _ _ _ _ e=>by cases e) (fun _ _ _ e=>by cases e),binOp_eql (fun _ _ _ _ _ e=>by cases e) (fun _ _ _ _ _ e=>by cases e) (fun _ _ _ _ _ _ _ e=>by cases e) (fun _ _ _ e=>by cases e)];exact he
 ·rw[binOp_neq (fun _ _ _ _ _ e=>by cases e) (fun _ _ _ _ _ e=>by cases e) (fun _ _ _ _ _ _ _ e=>by cases e) (fun _ _ _ e=>by cases e),binOp_neq (fun _ _ _ _ _ e=>by cases e) (fun _ _ _ _ _ e=>by cases e) (fun _ _ _ _ _ _ _ e=>by cases e) (fun _ _ _ e=>by cases e)];exact hne
end
end
section
section
variable{σ:Nat→Nat}{Ro:Nat→Prop}{D:Known}{Q:AS}{β:Nat→Option Code}
theorem BA{s d:BY}(hs:∀e,Q.underlying s=some e→∃k,e= .int k)(hd:∀e,Q.underlying d=some e→∃k,e= .int k)(x:AI):au Q β σ Ro D (convert s d x) (convert s d (a7 σ x)):=by
 unfold convert;refine bU s fun e he=> ?_
 refine bU d fun e' he'=> ?_
 obtain⟨k,rfl⟩:=hs e he;obtain⟨k',rfl⟩:=hd e' he';cases x;case int k n=>rw[bQ];exact a8 (by simp[Ren.ren])
 case float k b=>rw[dO];exact mq (vH _ _ _)
 case pointer p=>cases p<;>exact dr trivial
 all_goals exact dr trivial
theorem q7(F:Fit Q σ)(x:AI)(y:Nat)(c:BoundsCode):au Q β σ Ro D (Qp x y c) (Qp (a7 σ x) y c):=by
 unfold Qp;refine aj (m9 x) fun ki=> ?_
 obtain⟨k,i⟩:=ki;rw[zD,um,nH];dsimp only;exact bn PR (fun _=>a8 rfl) fun _=>gw F _ _ _ _
theorem uZ(F:Fit Q σ)(b:Bool)(len cap:Nat)(lo hi:Option AI):au Q β σ Ro D (QW b len cap lo hi none) (QW b len cap (lo.map (a7 σ)) (hi.map (a7 σ)) none):=by
 have h2:∀(lo:Option AI)(h m:Nat),au Q β σ Ro D (do
  let l ← match lo with
   |some v=>Qp v h (if(none:Option AI).isSome then .slice3C else .sliceB)
   |none=>pure 0
  pure (l,h,m):Sem (Nat×Nat×Nat)) (do
  let l ← match lo.map (a7 σ)with
   |some v=>Qp v h (if(none:Option AI).isSome then .slice3C else .sliceB)
   |none=>pure 0
  pure (l,h,m)):=fun lo h m=>by
  cases lo with
  |none=>exact a8 rfl
  |some v=>exact aj (q7 F v _ _) fun l=>a8 rfl
 unfold QW;cases hi with
 |none=>exact h2 lo len cap
 |some v=>
  refine aj (α:=Nat) (a8 rfl) fun m=> ?_
  rw[nG];exact aj (q7 F v _ _) fun h=>h2 lo h m
theorem F8(F:Fit Q σ)(t:BY)(ht:∀e,Q.underlying t=some e→e= .string)(x:AI)(lo hi:Option AI):au Q β σ Ro D (Rm t x lo hi none) (Rm t (a7 σ x) (lo.map (a7 σ)) (hi.map (a7 σ)) none):=by
 unfold Rm;refine bU t fun e he=> ?_
 obtain rfl:=ht e he;unfold Instr.slice;refine bU t fun e he=> ?_
 obtain rfl:=ht e he;cases x;case string s=>
  rw[bX];dsimp only;refine bn PR (fun h=>absurd h (by simp)) fun _=> ?_
  exact aj (uZ F _ _ _ _ _) fun l=>a8 (by simp[Ren.ren])
 all_goals exact ai
theorem Bv(F:Fit Q σ)(t:BY)(x i:AI):au Q β σ Ro D (Rn t x i) (Rn t (a7 σ x) (a7 σ i)):=by
 unfold Rn;refine aj (m9 i) fun ki=> ?_
 obtain⟨k,i⟩:=ki;rw[zD,um,nH];have h0:∀(base:Option Addr)(len:Nat)(elem:BY),au Q β σ Ro D (do
  let tiny:=len≤1&& (match← underlying t with | .array .. =>true|_=>false)
  match base with
  |some a=>
   if 0≤i∧i<len then pure (.pointer (some (a.add (i.toNat*(← sizeOf elem)))))
   else if tiny then unsupported (.noEntry "op/indexAddr.an index out of range at an array of length 0 or 1 (ledger 616)")
   else boundsPanic k i len .index
  |none=>boundsPanic k i 0 .index:Sem AI) (do
  let tiny:=len≤1&& (match← underlying t with | .array .. =>true|_=>false)
  match base.map (bh σ)with
  |some a=>
   if 0≤i∧i<len then pure (.pointer (some (a.add (i.toNat*(← sizeOf elem)))))
   else if tiny then unsupported (.noEntry "op/indexAddr.an index out of range at an array of length 0 or 1 (ledger 616)")
   else boundsPanic k i len .index
  |none=>boundsPanic k i 0 .index):=fun base len elem=>by
  refine bU t fun e he=> ?_
  cases base with
  |none=>exact gw F _ _ _ _
  |some a=>
   dsimp only[If];refine bn PR (fun _=> ?_) fun _=>bn PR (fun _=>dr trivial) fun _=>gw F _ _ _ _
   exact aj (fR elem) fun n=>a8 (by simp[Ren.ren])
 refine bU t fun e he=> ?_
 cases e;case array n e=>
  refine aj (kV x) fun a=> ?_
  exact h0 (some a) n e
 case slice e=>
  cases x;case slice a n c=>rw[cU];exact h0 a n e
  all_goals exact ai
 all_goals exact ai
theorem Kj{t:BY}(ht:∀e,Q.underlying t=some e→e= .string∨∃k,e= .slice k)(argTypes:Array BY)(h0:argTypes[0]?=some t)(ty:BY)(args:Array AI):au Q β σ Ro D (R7 argTypes ty args) (R7 argTypes ty (args.map (a7 σ))):=by
 unfold R7;rw[h0,PO];cases args[0]? with
 |none=>exact ai
 |some x=>
  dsimp only[If];refine bU t fun e he=> ?_
  rcases ht e he with rfl|⟨k,rfl⟩
  ·cases x;case string s=>rw[bX];exact a8 (by simp[Ren.ren,goInt])
   all_goals exact ai
  ·cases x;case slice a n c=>rw[cU];exact a8 (by simp[Ren.ren,goInt])
   all_goals exact ai
end
end
section
theorem BP(os:Os):Q5 .env os= .done (.strings os.env,os):=by
 unfold Q5;simp[Kernel.lengthOf,Kernel.named,Kernel.ofKernel,Kernel.stamps,bind,pure,Ask.bind,Kernel.each];rfl
theorem Ke(w:AT):w.sys .env=(.strings w.os.env,w):=by
 unfold R8;rw[BP];rfl
section
variable{σ:Nat→Nat}{Ro:Nat→Prop}{D:Known}{Q:AS}{β:Nat→Option Code}
instance:Ren SysRet:=⟨fun _ x=>x⟩
theorem D3:au Q β σ Ro D (sys .env) (sys .env):=by
 intro w w' es es' hw hb hS hF;have e:∀(P:AS)(w:AT)(es:Array No),(sys .env).runT P w es=(.ok (.strings w.os.env) w,es.push ⟨.output,true,false⟩):=fun P w es=>by
  show((Sem.pure (w.sys .env).1).runT P (w.sys .env).2 _)=_;rw[Ke];rfl
 rw[e,e];refine⟨ox hb (by simp[Qn]),.inl ⟨_,w,w',rfl,?_,kl hS ⟨.output,true,false⟩,hw,rfl⟩⟩;rw[hw.os.1,hw.os.2];rfl
theorem zk:au Q β σ Ro D Rc Rc:=by
 unfold Rc;refine aj D3 fun r=> ?_
 show au Q β σ Ro D _ (match r with | .strings env=>_|_=>_);cases r;case strings env=>exact dM (a8 rfl)
 all_goals exact ai
theorem Bt(F:Fit Q σ)(x:AI):au Q β σ Ro D (RB x) (RB (a7 σ x)):=by
 unfold RB;cases x;case iface t v=>rw[dD];exact gu (by simp)
 case nilIface=>
  rw[cw];refine aj zk fun n=> ?_
  refine bn (by rw[nH]) (fun _=>gu (by simp)) fun _=>co F _
 all_goals exact ai
theorem yl(a:Addr)(n:Nat):∀(acc:ByteArray)(a:Addr),au Q β σ Ro D (Extern.Bytes.loadBytes a n acc) (Extern.Bytes.loadBytes (bh σ a) n acc):=by
 induction n with
 |zero=>exact fun acc a=>a8 rfl
 |succ n ih=>
  intro acc a;unfold Extern.Bytes.loadBytes;refine aj (qz a .plain) fun v=> ?_
  rw[wX];cases v;case int k b=>
   rw[bQ];cases k;case u8=>have:=ih (acc.push b.toNat.toUInt8) (a.add 1);rw[qH]at this;exact this
   all_goals exact ai
  all_goals exact ai
theorem pC(v:AI):au Q β σ Ro D (Extern.Bytes.bytesOf v) (Extern.Bytes.bytesOf (a7 σ v)):=by
 unfold Extern.Bytes.bytesOf;cases v;case string s=>rw[bX];exact a8 rfl
 case slice a n c=>
  rw[cU];cases a with
  |none=>exact a8 rfl
  |some a=>exact yl a n _ a
 all_goals exact ai
theorem Dc(v:AI):au Q β σ Ro D (Extern.Bytes.asByte v) (Extern.Bytes.asByte (a7 σ v)):=by
 unfold Extern.Bytes.asByte;cases v;case int k b=>
  rw[bQ];cases k;case u8=>exact a8 rfl
  all_goals exact ai
 all_goals exact ai
def Lib(Q:AS)(β:Nat→Option Code)(σ:Nat→Nat)(Ro:Nat→Prop)(D:Known)(e:Array AI→Sem AI):Prop:=∀args,au Q β σ Ro D (e args) (e (args.map (a7 σ)))
theorem yx:Lib Q β σ Ro D Extern.BytealgIndexByte.indexByte:=by
 intro args;obtain⟨_|⟨b,_|⟨c,_|⟨d,l⟩⟩⟩⟩:=args;case cons.cons.nil=>
  rw[QB,PV,PV,QH];unfold Extern.BytealgIndexByte.indexByte;refine aj (pC b) fun b=>aj (Dc c) fun c=> ?_
  rw[rW,HS];split <;>exact a8 (by simp[Ren.ren,goInt])
 all_goals exact ai
theorem Ga(F:Fit Q σ):Lib Q β σ Ro D Extern.BytealgIndex.index:=by
 have hm:au Q β σ Ro D Extern.BytealgIndex.maxLen Extern.BytealgIndex.maxLen:=by
  unfold Extern.BytealgIndex.maxLen globalAddr;refine aj (α:=Addr) ?_ fun a=>aj (qz a .plain) fun v=>xD v
  refine dM ?_;have eg:(alt Q β).globals=Q.globals:=rfl;rw[eg];cases hg:Q.globals.findIdx? (·.name== "internal/bytealg.MaxLen")with
  |none=>exact ai
  |some g=>
   refine a8 ?_;have hlt:g<Q.globals.size:=by
    rw[Array.findIdx?_eq_some_iff_getElem]at hg;exact hg.1
   simp[Ren.ren,bh,F.low g (by omega)]
 intro args;obtain⟨_|⟨a,_|⟨b,_|⟨d,l⟩⟩⟩⟩:=args;case cons.cons.nil=>
  rw[QB,PV,PV,QH];unfold Extern.BytealgIndex.index;refine aj (pC a) fun a=>aj (pC b) fun b=> ?_
  rw[rW,rW];refine aj hm fun n=> ?_
  rw[nH];refine bn PR (fun _=>dr trivial) fun _=>bn PR (fun _=>dr trivial) fun _=> ?_
  split <;>exact a8 (by simp[Ren.ren,goInt])
 all_goals exact ai
end
end
section
section
variable{σ:Nat→Nat}{Ro:Nat→Prop}{D:Known}{Q:AS}{β:Nat→Option Code}
abbrev pr:=Except (Option Bool) (BY×Option AI)
def zF(σ:Nat→Nat):pr→pr
 | .error e=>.error e
 | .ok (t,x)=>.ok (t,x.map (a7 σ))
instance:Ren pr:=⟨zF⟩
theorem vb:∀(l:List FieldStep)(t:BY)(x:Option AI),au (α:=pr) Q β σ Ro D (followBlind l t x) (followBlind l t (x.map (a7 σ))):=by
 intro l;induction l with
 |nil=>
  intro t x;exact a8 (α:=pr) rfl
 |cons s rest ih=>
  intro t x;unfold followBlind;refine bU s.struct fun d hd=> ?_
  cases d;case struct fields=>
   dsimp only;cases fields[s.index]? with
   |none=>exact ai
   |some f=>
    dsimp only;cases hs:s.deref with
    |true=>
     cases x with
     |none=>exact a8 (α:=pr) rfl
     |some v=>
      cases v;case pointer a=>
       rw[If,aQ];cases a with
       |none=>exact a8 (α:=pr) rfl
       |some a=>exact ih f.type none
      all_goals exact ai
    |false=>
     cases x with
     |none=>exact ih f.type none
     |some v=>
      cases v;case agg cs=>
       rw[If,dw];refine aj (zj f.type cs f.offset) fun v=> ?_
       exact ih f.type (some v)
      all_goals exact ai
  all_goals exact ai
theorem zm(fuel:Nat):∀(t:BY)(v:AI)(name:String),au (α:=Option Bool) Q β σ Ro D (nilAhead fuel t v name) (nilAhead fuel t (a7 σ v) name):=by
 induction fuel with
 |zero=>exact fun t v name=>a8 rfl
 |succ fuel ih=>
  intro t v name;unfold nilAhead;refine lz t fun i hi=> ?_
  cases i.methods.find? (·.name==name)with
  |none=>exact ai
  |some m=>
   dsimp only;refine aj (α:=pr) (vb m.path.toList t (some v)) fun r=> ?_
   cases r with
   |error r=>exact a8 (by simp[Ren.ren])
   |ok r=>
    obtain⟨xt,x⟩:=r;dsimp only[Ren.ren,zF];cases hm:m.func with
    |none=>
     cases x with
     |none=>exact a8 rfl
     |some x=>
      cases x;case iface t' v'=>rw[If,dD];exact ih t' v' name
      case nilIface=>rw[If,cw];exact a8 rfl
      all_goals exact ai
    |some fp=>
     obtain⟨f,p⟩:=fp;cases p with
     |true=>exact a8 rfl
     |false=>
      dsimp only;refine bU xt fun d hd=> ?_
      cases d;case pointer e=>
       cases x with
       |none=>exact a8 rfl
       |some x=>
        cases x;case pointer a=>
         rw[If,aQ];cases a<;>exact a8 rfl
        all_goals simp only[If,eN,bQ,dO,dZ,bX,eF,cw,cU,jl,gz,gy,dD,dw,fi]
        all_goals exact a8 rfl
      all_goals exact a8 rfl
def wY(σ:Nat→Nat):Target→Target
 | .fn fn captured=>.fn (l7 σ fn) (captured.map (a7 σ))
 |t=>t
def km(σ:Nat→Nat)(d:Deferred):Deferred:= {target:=wY σ d.target,args:=d.args.map (a7 σ)}
def kn(σ:Nat→Nat)(c:CommCase):CommCase:= {chan:=a7 σ c.chan,send:=c.send.map (a7 σ),zero:=a7 σ c.zero}
def pH(σ:Nat→Nat):Next→Next
 | .value v=>.value (a7 σ v)
 | .enter f args=>.enter f (args.map (a7 σ))
 | .defer d=>.defer (km σ d)
 | .spawn d=>.spawn (km σ d)
 | .comm cases b s=>.comm (cases.map (kn σ)) b s
 |n=>n
instance:Ren Next:=⟨pH⟩
instance:Ren Deferred:=⟨km⟩
instance:Ren CommCase:=⟨kn⟩
theorem cH{s s':Sem AI}(h:au Q β σ Ro D s s'):au Q β σ Ro D (do pure (.value (← s)):Sem Next) (do pure (.value (← s'))):=aj h fun v=>a8 rfl
theorem HD{s s':Sem Unit}(h:au Q β σ Ro D s s'):au Q β σ Ro D (do s;pure .skip:Sem Next) (do s';pure .skip):=aj h fun v=>a8 rfl
theorem wQ(F:Fit Q σ)(ρ ρ':PM→AI)(hρ:∀x,ρ' x=a7 σ (ρ x))(o:Oper)(x:PM)(ho:o.op= .nilCheck x):au Q β σ Ro D (PJ ρ o) (PJ ρ' o):=by
 unfold PJ;rw[ho];dsimp only;rw[hρ];cases ρ x;case pointer a=>
  rw[aQ];cases a with
  |none=>exact co (α:=Next) F .nilDeref
  |some a=>exact a8 (by simp[Ren.ren,pH])
 case nilIface=>rw[cw];exact co (α:=Next) F .nilDeref
 case nilFunc=>rw[eF];exact co (α:=Next) F .nilDeref
 case func fn first captured=>
  rw[gy];cases fn;case method name=>
   dsimp only[l7];rw[PO];have hv:au Q β σ Ro D (pure (.value (.func (.method name) first captured)):Sem Next) (pure (.value (.func (.method name) (first.map (a7 σ)) (captured.map (a7 σ))))):=a8 (by simp[Ren.ren,pH,l7]);cases hf:first[0]? with
   |none=>exact hv
   |some v=>
    dsimp only[If];cases v;case nilIface=>rw[cw];exact co (α:=Next) F .nilDeref
    case iface t w=>
     rw[dD];dsimp only;refine dM ?_;refine aj (α:=Option Bool) (zm _ _ _ _) fun b=> ?_
     refine bn ?_ (fun _=>dr trivial) fun _=>hv
     simp[Ren.ren]
    all_goals simp only[eN,bQ,dO,dZ,bX,eF,aQ,cU,jl,gz,gy,dD,dw,fi]
    all_goals exact hv
  all_goals exact a8 (by simp[Ren.ren,pH])
 all_goals simp only[eN,bQ,dO,dZ,bX,cU,jl,gz,dD,dw,fi]
 all_goals exact a8 (by simp[Ren.ren,pH])
end
end
section
def my(Q:AS)(t:BY):Bool:=match Q.underlying t with |some (.int _)=>true|_=>false
def A8(Q:AS)(t:BY):Bool:=match Q.underlying t with |some .string=>true|_=>false
def x6(Q:AS)(s:BY)(f:Nat):Bool:=match Q.underlying s with
 |some (.struct fields)=>match fields[f]? with
  |some x=>match Q.info? x.type with
   |some i=>i.size !=0
   |none=>true
  |none=>true
 |_=>true
def ng(Q:AS)(o:Oper):Bool:=match o.op with
 | .move _| .assign _| .pick _ _ _| .alloc _| .box _ _| .build _ _| .buildSlice _ _ _| .load _ _| .store _ _ _| .nilCheck _| .unOp _ _ _| .makeInterface _ _| .indexAddr _ _ _| .index _ _ _
 | .typeAssert _ _ _ _| .extract _ _| .panic _| .send _ _| .recv _ _ _=>true
 | .binOp op t _ y _=>DM Q op t y
 | .convert s d _=>my Q s&&my Q d
 | .makeFunc (.func _) _ _=>true
 | .slice t _ _ _ none=>A8 Q t
 | .fieldAddr s _ f=>x6 Q s f
 |_=>false
section
variable{σ:Nat→Nat}{Ro:Nat→Prop}{D:Known}{Q:AS}{β:Nat→Option Code}
theorem oW{t:BY}(h:my Q t=true):∀e,Q.underlying t=some e→∃k,e= .int k:=fun e he=>by
 unfold my at h;rw[he]at h;cases e<;>first |exact⟨_,rfl⟩|cases h
theorem Gf{t:BY}(h:A8 Q t=true):∀e,Q.underlying t=some e→e= .string:=fun e he=>by
 unfold A8 at h;rw[he]at h;cases e<;>first |rfl|cases h
theorem DL{s:BY}{f:Nat}(h:x6 Q s f=true):∀fields x i,Q.underlying s=some (.struct fields)→fields[f]?=some x→Q.info? x.type=some i→i.size≠0:=fun fields x i h1 h2 h3=>by
 unfold x6 at h;rw[h1]at h;dsimp only at h;rw[h2]at h;dsimp only at h;rw[h3]at h;dsimp only at h;simpa using h
theorem xO{ρ ρ':PM→AI}(hρ:∀x,ρ' x=a7 σ (ρ x))(parts:Array (Nat×PM)):(parts.map fun(i,x)=>(i,ρ' x))=(parts.map fun(i,x)=>(i,ρ x)).map fun x=>(x.1,a7 σ x.2):=by
 rw[QA];congr 1
 funext x
 simp[hρ]
theorem qd{ρ ρ':PM→AI}(hρ:∀x,ρ' x=a7 σ (ρ x))(xs:Array PM):xs.map ρ'=(xs.map ρ).map (a7 σ):=by
 rw[QA];congr 1
 funext x
 simp[hρ]
theorem zT{ρ ρ':PM→AI}(hρ:∀x,ρ' x=a7 σ (ρ x))(x:Option PM):x.map ρ'=(x.map ρ).map (a7 σ):=by
 cases x<;>simp[hρ]
theorem zs{op:BinOp}{t:BY}(ht:∀d,Q.underlying t=some d→mF d)(x y:PM)(a b:AI):au Q β σ Ro D (eqGuard op t x y a b) (eqGuard op t x y (a7 σ a) (a7 σ b)):=by
 have hguard:∀P:AS,(P=Q∨P=alt Q β)→P.eqGuardType P.depth t=false∨P.underlying t=none:=fun P hP=>by
  have hu:P.underlying t=Q.underlying t:=by rcases hP with rfl|rfl<;>rfl
  rw[hu];cases hd:Q.underlying t with
  |none=>exact .inr rfl
  |some d=>
   refine .inl ?_;have hk:=ht d hd;unfold Rk QL;rw[hu,hd];cases d<;>first |rfl|exact hk.elim
 have hret:au Q β σ Ro D (pure ():Sem Unit) (pure ()):=a8 rfl;unfold eqGuard;refine bn PR (fun _=>hret) fun _=> ?_
 cases a;case nilIface=>
  cases b;case nilIface=>
   rw[cw];dsimp only;refine bn PR (fun _=>hret) fun _=> ?_
   refine aj (α:=Bool) ?_ fun b=>bn (by rw[qE]) (fun _=>dr trivial) fun _=>hret
   unfold QS Op.eqGuardIn;refine bU t fun d hd=> ?_
   have hk:=ht d hd;cases d;case int=>exact a8 rfl
   case string=>exact a8 rfl
   all_goals exact hk.elim
  all_goals simp only[eN,bQ,dO,dZ,bX,eF,cw,aQ,cU,jl,gz,gy,dD,fi,dw]
  all_goals exact hret
 case agg cs=>
  cases b;case agg ds=>
   rw[dw,dw];dsimp only;refine dM ?_;have hd':(alt Q β).eqGuardType (alt Q β).depth t=Q.eqGuardType Q.depth t∧(Q.eqGuardType Q.depth t=false∨Q.underlying t=none):=by
    refine⟨?_,hguard Q (.inl rfl)⟩;rcases hguard Q (.inl rfl)with h|h
    ·rcases hguard (alt Q β) (.inr rfl)with h'|h'
     ·rw[h,h']
     ·have hu:(alt Q β).underlying t=Q.underlying t:=rfl;rw[hu]at h';unfold Rk QL;rw[hu,h']
    ·have hu:(alt Q β).underlying t=Q.underlying t:=rfl;unfold Rk QL;rw[hu,h]
   refine dM ?_;rw[hd'.1];refine bn PR (fun _=>hret) fun hn=> ?_
   refine aj (α:=Bool) ?_ fun b=>bn (by rw[qE]) (fun _=>dr trivial) fun _=>hret
   unfold QS Op.eqGuardIn;refine bU t fun d hd=> ?_
   have hk:=ht d hd;cases d;case int=>exact a8 rfl
   case string=>exact a8 rfl
   all_goals exact hk.elim
  all_goals simp only[eN,bQ,dO,dZ,bX,eF,cw,aQ,cU,jl,gz,gy,dD,fi,dw]
  all_goals exact hret
 all_goals simp only[eN,bQ,dO,dZ,bX,eF,aQ,cU,jl,gz,gy,dD,fi]
 all_goals exact hret
theorem sF(op:BinOp)(t:BY)(x y:PM)(a:AI):eqGuard op t x y a (.pointer none)=pure ():=by
 unfold eqGuard;cases op<;>cases a<;>rfl
theorem sG(op:BinOp)(t:BY)(x:PM)(a:AI):eqGuard op t x (.const .nilIface) a .nilIface=pure ():=by
 unfold eqGuard;cases op<;>cases a<;>cases x<;>rfl
theorem BC(F:Fit Q σ){ρ ρ':PM→AI}(hρ:∀x,ρ' x=a7 σ (ρ x))(hc:ρ (.const (.pointer none))= .pointer none∧ρ (.const .nilIface)= .nilIface)(hk:∀x,jC D (ρ x)){op:BinOp}{t:BY}{x y:PM}(hop:DM Q op t y=true):
 au Q β σ Ro D (do eqGuard op t x y (ρ x) (ρ y);binOp op t (ρ x) (ρ y):Sem AI) (do eqGuard op t x y (ρ' x) (ρ' y);binOp op t (ρ' x) (ρ' y)):=by
 rw[hρ x,hρ y];unfold DM at hop;cases hd:Q.underlying t with
 |none=>rw[hd]at hop;cases hop
 |some d=>
  rw[hd]at hop;have hit:mF d→au Q β σ Ro D (do eqGuard op t x y (ρ x) (ρ y);binOp op t (ρ x) (ρ y):Sem AI) (do eqGuard op t x y (a7 σ (ρ x)) (a7 σ (ρ y));binOp op t (a7 σ (ρ x)) (a7 σ (ρ y))):=fun hi=>by
   have ht:∀d,Q.underlying t=some d→mF d:=fun d' h'=>by rw[hd]at h';cases h';exact hi
   exact aj (zs ht x y _ _) fun _=>Da F op ht (hk x) (hk y)
  cases d;case int=>exact hit trivial
  case string=>exact hit trivial
  case pointer e=>
   rw[PD]at hop;obtain⟨ho,hy⟩:=hop;have ho:op= .eql∨op= .neq:=by cases op<;>first |exact .inl rfl|exact .inr rfl|cases ho
   have hy:y= .const (.pointer none):=by
    split at hy
    ·rfl
    ·cases hy
   subst hy;rw[hc.1,aQ,Option.map_none,sF,sF];exact yo op ho fun d' h'=>by rw[hd]at h';cases h';exact⟨_,rfl⟩
  case interface e=>
   rw[PD]at hop;obtain⟨ho,hy⟩:=hop;have ho:op= .eql∨op= .neq:=by cases op<;>first |exact .inl rfl|exact .inr rfl|cases ho
   have hy:y= .const .nilIface:=by
    split at hy
    ·rfl
    ·cases hy
   subst hy;rw[hc.2,cw,sG,sG];exact yq op ho fun d' h'=>by rw[hd]at h';cases h';exact⟨_,rfl⟩
  all_goals cases hop
theorem qA(F:Fit Q σ){ρ ρ':PM→AI}(hρ:∀x,ρ' x=a7 σ (ρ x))(hc:ρ (.const (.pointer none))= .pointer none∧ρ (.const .nilIface)= .nilIface)(hk:∀x,jC D (ρ x)){o:Oper}(ho:ng Q o=true):au Q β σ Ro D (PJ ρ o) (PJ ρ' o):=by
 cases hop:o.op;case nilCheck x=>exact wQ F ρ ρ' hρ o x hop
 all_goals
  unfold ng at ho;rw[hop]at ho
 all_goals try(exact absurd ho IN)
 all_goals
  unfold PJ;rw[hop];dsimp only
 case move x=>rw[hρ];exact a8 rfl
 case assign x=>rw[hρ];exact a8 rfl
 case pick c a b=>
  rw[hρ,hρ,hρ];refine aj (ve _) fun v=>a8 ?_
  rw[qE];cases v<;>rfl
 case alloc t=>exact cH (Fe F.zero t true)
 case box t x=>rw[hρ];exact cH (Kk t _)
 case build t parts=>rw[xO hρ];exact cH (Fc F.zero t _)
 case buildSlice t n parts=>rw[xO hρ];exact cH (wS F.zero t n _)
 case load t a=>rw[hρ];exact cH (D7 t _)
 case store t a x=>rw[hρ,hρ];exact HD (Bq t _ _)
 case unOp op t x=>rw[hρ];exact cH (F6 op _)
 case makeInterface t x=>rw[hρ];exact cH (tn t _)
 case indexAddr t x i=>rw[hρ,hρ];exact cH (Bv F t _ _)
 case index t x i=>rw[hρ,hρ];exact cH (Fa F t _ _)
 case typeAssert x xt t ok=>rw[hρ];exact cH (wP F _ xt t ok)
 case extract t n=>rw[hρ];exact cH (Bx _ n)
 case panic x=>rw[hρ];exact cH (Bt F _)
 case send c x=>
  rw[hρ,hρ];refine a8 ?_;show _=pH σ _;simp[pH,kn]
 case recv t c ok=>
  rw[hρ];refine bU t fun d hd=> ?_
  cases d;case chan dir e=>
   refine aj (gn F.zero e) fun z=>a8 ?_
   show _=pH σ _;simp[pH,kn,Ren.ren]
  all_goals exact ai
 case binOp op t x y z=>exact cH (BC F hρ hc hk ho)
 case convert s d x=>
  rw[PD]at ho;rw[hρ];exact cH (BA (oW ho.1) (oW ho.2) _)
 case makeFunc fn a b=>
  cases fn;case func f=>
   rw[qd hρ,qd hρ];exact cH (zp (.func f) rfl _ _)
  all_goals cases ho
 case slice t x lo hi mx=>
  cases mx with
  |none=>
   rw[hρ,zT hρ,zT hρ];exact cH (F8 F t (Gf ho) _ _ _)
  |some m=>cases ho
 case fieldAddr s x f=>rw[hρ];exact cH (Bw (DL ho) _)
end
end
section
section
variable{σ:Nat→Nat}{Ro:Nat→Prop}{D:Known}{Q:AS}{β:Nat→Option Code}
def tj(β:Nat→Option Code)(x:Result Next×Array No):Prop:=∃f args w1,x.1= .ok (.enter f args) w1∧(β f).isSome=true∧¬ Big x.2
def Dom(D:Known)(w:AT):Prop:=∀i,D i→i<w.heap.size
def Quick(h:Halt):Prop:=h≠.blocked∧h≠.waiting∧∀g,h≠.unsupported (.initOrder g)
def AR{α:Type}(r:Result α):Prop:=∀h w1,r= .halt h w1→Quick h
def oF(Q:AS)(β:Nat→Option Code)(σ:Nat→Nat)(Ro:Nat→Prop)(D:Known)(cl:Bool)(s s':Sem Next):Prop:=
 ∀w w' es es',ew σ Ro D w w'→Dom D w→¬ Big es→Sub (σ:=σ) es es'→gd σ w w' (di (s.runT (alt Q β) w es).1).heap.size→
  B9 σ Ro D w w' (s.runT (alt Q β) w es) (s'.runT Q w' es')∨tj β (s.runT (alt Q β) w es)∨(cl=false∧Big (s.runT (alt Q β) w es).2∧Big (s'.runT Q w' es').2∧AR (s'.runT Q w' es').1)
theorem hY{cl:Bool}{s s':Sem Next}(h:au Q β σ Ro D s s'):oF Q β σ Ro D cl s s':=fun w w' es es' hw hd hb hS hF=>.inl (h w w' es es' hw hb hS hF)
theorem Fg{cl:Bool}{α:Type}[Ren α]{s s':Sem α}{f f':α→Sem Next}(hs:au Q β σ Ro D s s')(hf:∀a,oF Q β σ Ro D cl (f a) (f' (Ren.ren σ a))):oF Q β σ Ro D cl (s>>=f) (s'>>=f'):=by
 intro w w' es es' hw hd hb hS hF;cases hx:s.runT (alt Q β) w es with
 |mk r e1=>
  cases r with
  |halt h w1=>
   have h1:=hs w w' es es' hw hb hS (by rw[hx];rw[aN,hx]at hF;exact hF);rw[hx]at h1;refine .inl ?_;obtain⟨hb1,⟨a,v,v',h2,_⟩|⟨h,v,v',h2,h3,h4,h5,h6,h7⟩|⟨h,v,h2,h3⟩⟩:=h1
   ·cases h2
   ·rw[aN,hx,aN];generalize s'.runT Q w' es'=x' at h4 h5 ⊢;obtain⟨r',e'⟩:=x';dsimp only at h4;subst h4;cases h2;exact⟨hb1,.inr (.inl ⟨_,_,v',rfl,h3,rfl,h5,h6,h7⟩)⟩
   ·rw[aN,hx];cases h2;exact⟨hb1,.inr (.inr ⟨_,_,rfl,h3⟩)⟩
  |ok a w1=>
   have hm:=runT_size (alt Q β) s w es;have h8:=runT_size (alt Q β) (f a) w1 e1;rw[aN,hx]at hF ⊢;rw[hx]at hm;have h1:=hs w w' es es' hw hb hS (by rw[hx];exact kt hF h8);rw[hx]at h1;obtain⟨hb1,⟨b,v,v',h2,h3,h0,h4,h5⟩|⟨h,v,v',h2,_⟩|⟨h,v,h2,_⟩⟩:=h1
   ·cases h2;rw[aN];generalize s'.runT Q w' es'=x' at h3 h0 ⊢;obtain⟨r',e'⟩:=x';dsimp only at h3;subst h3;rcases hf a w1 v' e1 e' h4 (fun i hi=>Nat.lt_of_lt_of_le (hd i hi) hm) hb1 h0 (uy hF hm h5)with⟨k0,k⟩|k|k
    ·refine .inl ⟨k0,?_⟩;rcases k with⟨c,u,u',l1,l2,l3,l4,l5⟩|⟨h,u,u',l1,l2,l3,l4,l5,l6⟩|⟨h,u,l1,l2⟩
     ·exact .inl ⟨c,u,u',l1,l2,l3,l4,by omega⟩
     ·exact .inr (.inl ⟨h,u,u',l1,l2,l3,l4,l5,by omega⟩)
     ·exact .inr (.inr ⟨h,u,l1,l2⟩)
    ·exact .inr (.inl k)
    ·exact .inr (.inr k)
   ·cases h2
   ·cases h2
theorem wR(f:Q9):au Q β σ Ro D (mark (.extern f)) (mark (.extern f)):=by
 intro w w' es es' hw hb hS hF;have e:∀(P:AS)(w:AT)(es:Array No),(mark (.extern f)).runT P w es=(.ok () w,es.push ⟨.mark (.extern f),false,true⟩):=fun P w es=>rfl
 rw[e,e];exact⟨ox hb (by simp[Qn]),.inl ⟨_,w,w',rfl,rfl,kl hS ⟨.mark (.extern f),false,true⟩,hw,rfl⟩⟩
end
end
section
structure lw(Q:AS)(β:Nat→Option Code):Prop where
 num:∀(f:Nat)(fn:Func),Q.funcs[f]?=some fn→(fn.name== "runtime.NumGoroutine")=false
 lib:∀(f:Nat)(fn:Func),Q.funcs[f]?=some fn→β f=none→fn.body.isNone=true→QJ fn=none∧∃e,Qy fn=some e∧∀σ Ro D,Fit Q σ→Lib Q β σ Ro D e
section
variable{σ:Nat→Nat}{Ro:Nat→Prop}{D:Known}{Q:AS}{β:Nat→Option Code}
theorem fN(f:Nat):(alt Q β).funcs[f]?=(Q.funcs[f]?).map (aw β f):=by
 show(Q.funcs.mapIdx (aw β))[f]?=_;rw[Array.getElem?_mapIdx]
theorem jo(f:Nat)(fn:Func):(aw β f fn).name=fn.name:=by unfold aw;split <;>rfl
theorem zt{cl:Bool}{f f':AS→Sem Next}(h:oF Q β σ Ro D cl (f (alt Q β)) (f' Q)):oF Q β σ Ro D cl (program>>=f) (program>>=f'):=h
theorem rh{cl:Bool}(A:lw Q β)(F:Fit Q σ)(f:Q9)(args:Array AI):oF Q β σ Ro D cl (PL f args) (PL f (args.map (a7 σ))):=by
 unfold PL;refine zt ?_;rw[fN];cases hf:Q.funcs[f]? with
 |none=>exact hY ai
 |some fn=>
  dsimp only[If];rw[jo,A.num f fn hf];rw[if_neg IN,if_neg IN];cases hb:β f with
  |some c=>
   have e:(aw β f fn).body.isNone=false:=by unfold aw;rw[hb];rfl
   rw[e,if_neg IN];intro w w' es es' hw hd hbig hS hF;exact .inr (.inl ⟨f,args,w,rfl,by rw[hb];rfl,hbig⟩)
  |none=>
   have e:aw β f fn=fn:=by unfold aw;rw[hb]
   rw[e];cases hn:fn.body.isNone with
   |false=>
    rw[if_neg IN,if_neg IN];exact hY (a8 rfl)
   |true=>
    rw[if_pos rfl,if_pos rfl];obtain⟨h1,ex,h2,h3⟩:=A.lib f fn hf hb hn;rw[h1,h2];refine Fg (wR f) fun _=> ?_
    exact hY (cH (h3 σ Ro D F args))
end
end
section
def nF(Q:AS)(c:Call):Bool:=match c.callee with
 | .value (.func _)=>true
 | .builtin .len=>match c.argTypes[0]? with
  |some t=>match Q.underlying t with
   |some .string=>true
   |some (.slice _)=>true
   |_=>false
  |none=>false
 | .builtin .recover=>true
 |_=>false
section
variable{σ:Nat→Nat}{Ro:Nat→Prop}{D:Known}{Q:AS}{β:Nat→Option Code}
theorem Ff{cl:Bool}(A:lw Q β)(F:Fit Q σ){ρ ρ':PM→AI}(hρ:∀x,ρ' x=a7 σ (ρ x))(hf:∀f,ρ (.func f)= .func (.func f) #[] #[]){o:Oper}{c:Call}(ho:o.op= .call c)(hc:nF Q c=true):oF Q β σ Ro D cl (PJ ρ o) (PJ ρ' o):=by
 unfold PJ;rw[ho];dsimp only;unfold resolve;unfold nF at hc;rw[qd hρ];cases hk:c.callee;case value x=>
  rw[hk]at hc;cases x;case func f=>
   have e:ρ' (.func f)= .func (.func f) #[] #[]:=by rw[hρ,hf];simp[l7]
   dsimp only;rw[hf,e];have:=rh (Ro:=Ro) (D:=D) (cl:=cl) A F f (#[]++c.args.map ρ++ #[]);rw[Qs,Qs,Array.map_empty]at this;exact this
  all_goals cases hc
 case builtin b=>
  rw[hk]at hc;cases b;case len=>
   dsimp only at hc;cases h0:c.argTypes[0]? with
   |none=>rw[h0]at hc;cases hc
   |some t=>
    rw[h0]at hc;dsimp only at hc;have ht:∀e,Q.underlying t=some e→e= .string∨∃k,e= .slice k:=fun e he=>by
     rw[he]at hc;cases e<;>first |exact .inl rfl|exact .inr ⟨_,rfl⟩|cases hc
    exact hY (cH (Kj ht c.argTypes h0 o.type (c.args.map ρ)))
  case recover=>exact hY (a8 rfl)
  all_goals cases hc
 all_goals(rw[hk]at hc;cases hc)
theorem Bs{ρ ρ':PM→AI}(hρ:∀x,ρ' x=a7 σ (ρ x))(c:Call)(t:BY):au Q β σ Ro D (resolve ρ c t) (resolve ρ' c t):=by
 unfold resolve;rw[qd hρ];cases c.callee;case builtin b=>exact a8 rfl
 case invoke recv name=>
  dsimp only;rw[hρ];refine a8 ?_;show _=km σ _;simp[km,wY,l7]
 case value x=>
  dsimp only;rw[hρ];unfold R5;cases ρ x;case func fn first captured=>
   rw[gy];refine a8 ?_;show _=km σ _;simp[km,wY]
  case nilFunc=>
   rw[eF];refine a8 ?_;show _=km σ _;simp[km,wY]
  all_goals exact ai
theorem Bz{ρ ρ':PM→AI}(hρ:∀x,ρ' x=a7 σ (ρ x)){o:Oper}{c:Call}(ho:o.op= .defer c):au Q β σ Ro D (PJ ρ o) (PJ ρ' o):=by
 unfold PJ;rw[ho];dsimp only;exact aj (Bs hρ c o.type) fun d=>a8 rfl
end
end
section
section
variable{P:AS}
def holds(w:AT)(a:Addr)(n:Nat):Bool:=match w.shape? a.block with
 |some (_,k)=>a.spot.isNone&&decide (a.off+n≤k)
 |none=>false
theorem xW(a:Addr)(n:Nat)(w:AT)(es:Array No):(QU a n).runT P w es=(.ok (holds w a n) w,es):=by
 unfold QU holds;rw[aN];have e:(shape a.block).runT P w es=(.ok (w.shape? a.block) w,es):=rfl;rw[e];dsimp only;cases w.shape? a.block with
 |none=>rfl
 |some x=>rfl
theorem Ea(a:Addr)(w:AT)(es:Array No):(frozen a).runT P w es=(.ok (w.frozen? a) w,es):=rfl
def shares(w:AT)(size sLen n:Nat)(base:Option Addr)(x:AI):Bool:=
 let there:=match base with
  |none=>true
  |some a=>holds w a (sLen*size)&& !(w.frozen? (a.add (sLen/2*size)))
 if there then match x with
  | .slice (some b) _ _=> !(holds w b (n*size))||base.any (·.block==b.block)
  |_=>false
 else true
theorem A1(size sLen n:Nat)(base:Option Addr)(x:AI)(w:AT)(es:Array No):(RI size sLen n base x).runT P w es=(.ok (shares w size sLen n base x) w,es):=by
 have h2:∀there:Bool,(if(!there)=true then(pure true:Sem Bool)else match x with
  | .slice (some b) _ _=>do pure (!(← QU b (n*size))||base.any (·.block==b.block))
  |_=>pure false).runT P w es=(.ok (if there then(match x with
  | .slice (some b) _ _=> !(holds w b (n*size))||base.any (·.block==b.block)
  |_=>false)else true) w,es):=fun there=>by
  cases there with
  |false=>rfl
  |true=>
   simp only[Bool.not_true,IT,if_false,if_true];cases x;case slice a l c=>
    cases a with
    |none=>rfl
    |some b=>
     dsimp only;rw[aN,xW];rfl
   all_goals rfl
 unfold RI shares;cases base with
 |none=>exact h2 true
 |some a=>
  dsimp only;rw[aN,xW];dsimp only;rw[aN,Ea];exact h2 _
end
end
section
section
variable{σ:Nat→Nat}{Ro:Nat→Prop}{D:Known}{Q:AS}{β:Nat→Option Code}
theorem F9(v:AI):au Q β σ Ro D (Rt v) (Rt (a7 σ v)):=by
 unfold Rt;cases v;case slice a n c=>rw[cU];exact a8 rfl
 case string s=>rw[bX];exact a8 rfl
 all_goals exact ai
theorem lC(size n:Nat)(v:AI):au Q β σ Ro D (Qa size n v) (Qa size n (a7 σ v)):=by
 unfold Qa;cases v;case slice a l c=>
  rw[cU];cases a with
  |none=>exact a8 (by simp[Ren.ren])
  |some a=>exact rf a (n*size)
 case string s=>
  rw[bX];refine a8 ?_;rw[Co,QA];congr 1
  funext b
  simp
 all_goals exact ai
theorem yg(z:Array AI)(n:Nat):Q7 (z.map (a7 σ)) n=(Q7 z n).map (a7 σ):=by
 unfold Q7;rw[QA,QP];congr 1
 funext i
 exact tV z _
theorem D6:au Q β σ Ro D (mark .noRoom) (mark .noRoom):=fun w w' es es' hw hb hS hF=>⟨hb,.inl ⟨(),w,w',rfl,rfl,kl hS ⟨.mark .noRoom,false,true⟩,hw,rfl⟩⟩
theorem BD(n:Nat):au Q β σ Ro D (askRoom n) (askRoom n):=by
 unfold askRoom;exact bn PR (fun _=>D6) fun _=>a8 rfl
theorem Db{α:Type}[Ren α]{s s':Sem α}(h:∀(w:AT) es,∃x w1,(s.runT (alt Q β) w es).1= .halt x w1∧Dead x):au Q β σ Ro D s s':=fun w w' es es' hw hb hS hF=>⟨hb,.inr (.inr (h w es))⟩
def qn(D:Known)(v:AI):Prop:=∀a l c,v= .slice (some a) l c→D a.block
theorem Fb(hz:lk Q σ)(elem:BY)(size sLen n need newCap:Nat)(s x:AI):au Q β σ Ro D (do
 let old ← Qa size sLen s
 let new ← Qa size n x
 let z ← zeroValue elem
 let r ← newRow elem (old++new++Q7 z.cells (newCap-need))
 pure (.slice (some r) need newCap):Sem AI)
 (do
  let old ← Qa size sLen (a7 σ s)
  let new ← Qa size n (a7 σ x)
  let z ← zeroValue elem
  let r ← newRow elem (old++new++Q7 z.cells (newCap-need))
  pure (.slice (some r) need newCap):Sem AI):=by
 refine aj (lC size sLen s) fun old=> ?_
 refine aj (lC size n x) fun new=> ?_
 refine aj (gn hz elem) fun z=> ?_
 have hr:au Q β σ Ro D (newRow elem (old++new++Q7 z.cells (newCap-need))) (newRow elem (Ren.ren σ old++Ren.ren σ new++Q7 (Ren.ren σ z:AI).cells (newCap-need))):=by
  have:=qy (P:=alt Q β) (P':=Q) (σ:=σ) (Ro:=Ro) (D:=D) elem (old++new++Q7 z.cells (newCap-need));rw[Qs,Qs,← yg,← gC]at this;exact this
 exact aj hr fun r=>a8 (by simp[Ren.ren])
theorem De(F:Fit Q σ){ats:Array BY}(h1:∀xt,ats[1]?=some xt→∀k,Q.underlying xt≠some (.int k))(ty:BY)(args:Array AI):
 au Q β σ Ro D (QK ats ty args) (QK ats ty (args.map (a7 σ))):=by
 unfold QK;rw[PO,PO];cases ha:ats[0]? with
 |none=>exact ai
 |some sType=>
 cases hs:args[0]? with
 |none=>exact ai
 |some s=>
 cases hx:args[1]? with
 |none=>exact ai
 |some x=>
 dsimp -zeta only [If];refine aj (q6 sType) fun d=> ?_
 rw[HR];cases d;case slice elem=>
  dsimp -zeta only;cases s;case slice base sLen sCap=>
   rw[cU];dsimp -zeta only;refine aj (fR elem) fun size=> ?_
   rw[nG];extract_lets j0 j1 j2;have hj:au Q β σ Ro D (j1 false) (j2 false):=by
    simp only[j0,j1,j2,IT,if_false,Bool.not_false,if_true,false_or];refine aj (F9 x) fun n=> ?_
    rw[nG];refine bn PR (fun _=> ?_) fun _=> ?_
    ·refine aj (lC size n x) fun new=> ?_
     cases base with
     |none=>exact a8 (by simp[Ren.ren])
     |some a=>
      dsimp only[If];refine aj ?_ fun _=>a8 (by simp[Ren.ren])
      have:=jD (Q:=Q) (β:=β) (σ:=σ) (Ro:=Ro) (D:=D) (a.add (sLen*size)) new.toList 0;rw[qH,← Qj]at this;exact this
    ·refine aj (kU elem) fun i=> ?_
     rw[un];refine bn PR (fun _=> ?_) fun _=> ?_
     ·exact co (α:=AI) F (.error "growslice: len out of range")
     refine aj (kU elem) fun i=> ?_
     rw[un];refine bn PR (fun _=> ?_) fun _=> ?_
     ·refine Db fun w es=> ?_
      rw[aN,aN,A1];dsimp only;cases shares w size sLen n base x<;>exact⟨_,_,rfl,trivial⟩
     refine aj (qB _) fun newCap=> ?_
     rw[nG];refine aj (kU elem) fun i=> ?_
     rw[un];have hg:=Fb (Q:=Q) (β:=β) (Ro:=Ro) (D:=D) F.zero elem size sLen n (sLen+n) newCap (.slice base sLen sCap) x;rw[cU]at hg;exact aj (BD _) fun _=>hg
   clear_value j1 j2;cases hxt:ats[1]? with
   |none=>exact hj
   |some xt=>
    dsimp only;refine bU xt fun d hd=> ?_
    cases d;case int k=>exact absurd hd (h1 xt hxt k)
    all_goals exact hj
  all_goals exact ai
 all_goals exact ai
theorem BG{cl:Bool}{s s':Sem AI}(h:au Q β σ Ro D s s'):oF Q β σ Ro D cl (do pure (.value (← s))) (do pure (.value (← s'))):=hY (aj h fun v=>a8 rfl)
end
end
section
def lD(Q:AS)(cl:Bool)(c:Call):Bool:=nF Q c||match c.callee with
 | .builtin .append=>match c.argTypes[1]? with
  |some t=> !cl&& !my Q t
  |none=> !cl
 | .builtin .min=>true
 |_=>false
abbrev be:=List (Nat×Nat)
def Mx(dt:be)(cl:Bool):Target→Prop
 | .fn (.func f) _=>dt.all (·.1 !=f)=true
 | .builtin .close _ _ _=>cl=true
 |_=>False
def iS(Q:AS)(dt:be)(cl:Bool)(f:Nat)(o:Oper):Bool:=
 (
  match o.op with
  | .call c=>lD Q cl c&& (match c.callee with | .value (.func g)=>dt.all (·.1 !=g)|_=>true)
  | .defer c=>match c.callee with
   | .value (.tmp t)=>dt.contains (f,t)
   | .builtin .close=>cl
   |_=>false
  | .send _ _=>cl
  | .recv _ _ _=> !cl
  |_=>ng Q o)&&
 (
  match o.dst with
  |some t=> !dt.contains (f,t)||(match o.op with | .makeFunc (.func h) _ _=>dt.all (·.1 !=h)|_=>false)
  |none=>true)
def NK(dt:be)(cl:Bool):Next→Prop
 | .value _=>True
 | .skip=>True
 | .recover=>True
 | .enter f _=>dt.all (·.1 !=f)=true
 | .defer d=>Mx dt cl d.target
 | .comm cs bl sh=>bl=true∧∃c,cs=#[c]∧((cl=true∧sh= .send∧c.send.isSome=true)∨(cl=false∧∃ok,sh= .recv ok∧c.send=none))
 |_=>False
def YP{α:Type}(P:AS)(T:α→Prop)(s:Sem α):Prop:=∀w es a w1 es1,s.runT P w es=(.ok a w1,es1)→T a
section
variable{P:AS}
theorem bW{α:Type}{T:α→Prop}{a:α}(h:T a):YP P T (pure a:Sem α):=fun w es b w1 es1 e=>by
 have e:((.ok a w,es):Result α×Array No)=(.ok b w1,es1):=e;simp only[Prod.mk.injEq,Result.ok.injEq]at e;rw[← e.1.1];exact h
theorem fH{α:Type}{T:α→Prop}{h:Halt}:YP P T (R0 h:Sem α):=fun w es b w1 es1 e=>by
 have e:((.halt h w,es):Result α×Array No)=(.ok b w1,es1):=e;cases e
theorem cS{α γ:Type}{T:γ→Prop}{s:Sem α}{f:α→Sem γ}(h:∀a,YP P T (f a)):YP P T (s>>=f):=fun w es b w1 es1 e=>by
 rw[aN]at e;generalize s.runT P w es=x at e;obtain⟨r,e1⟩:=x;cases r with
 |ok a w2=>exact h a _ _ _ _ _ e
 |halt k w2=>cases e
theorem uM{α:Type}{T:α→Prop}{f:AS→Sem α}(h:YP P T (f P)):YP P T (program>>=f):=h
theorem nM{dt:be}{cl:Bool}{s:Sem AI}:YP P (NK dt cl) (do pure (.value (← s)):Sem Next):=cS fun v=>bW trivial
theorem K8{dt:be}{cl:Bool}{s:Sem Unit}:YP P (NK dt cl) (do s;pure .skip:Sem Next):=cS fun v=>bW trivial
end
section
variable{σ:Nat→Nat}{Ro:Nat→Prop}{D:Known}{Q:AS}{β:Nat→Option Code}
theorem HE(x y:AI):au Q β σ Ro D (Qw x y) (Qw (a7 σ x) (a7 σ y)):=by
 cases x;case int k a=>
  cases y;case int k' b=>rw[bQ,bQ];exact a8 (by simp[Ren.ren])
  case pointer p=>cases p with
   |none=>exact ai
   |some p=>exact dr trivial
  all_goals exact ai
 case float k a=>
  cases y;case float k' b=>
   rw[dO,dO];refine mq ?_;unfold Qw;dsimp only;split
   ·exact aW (T:=fun _=>True) (jU fun n=>trivial) fun n _=>cj (fa _ _)
   all_goals exact cj (fa _ _)
  case pointer p=>cases p with
   |none=>exact ai
   |some p=>exact dr trivial
  all_goals exact ai
 case string a=>
  cases y;case string b=>
   rw[bX,bX];unfold Qw;dsimp only;refine aj (rN .leq a b) fun v=> ?_
   refine aj (ve v) fun c=>a8 ?_
   rw[qE];simp[Ren.ren]
  case pointer p=>cases p with
   |none=>exact ai
   |some p=>exact dr trivial
  all_goals exact ai
 case pointer q=>
  cases q with
  |some q=>cases y<;>exact dr trivial
  |none=>
   cases y;case pointer p=>cases p with
    |none=>exact ai
    |some p=>exact dr trivial
   all_goals exact ai
 all_goals
  cases y;case pointer p=>cases p with
   |none=>exact ai
   |some p=>exact dr trivial
  all_goals exact ai
theorem tJ:∀(l:List AI)(x:AI),au Q β σ Ro D (l.foldlM Qw x) ((l.map (a7 σ)).foldlM Qw (a7 σ x))
 |[],x=>a8 rfl
 |y::l,x=>by
  rw[PV,QC,QC];exact aj (HE x y) fun v=>tJ l v
theorem Ki(ats:Array BY)(t:BY)(args:Array AI):au Q β σ Ro D (R6 ats t args) (R6 ats t (args.map (a7 σ))):=by
 unfold R6;rw[Qj];cases args.toList with
 |nil=>exact ai
 |cons x l=>exact tJ l x
theorem Df{cl:Bool}(A:lw Q β)(F:Fit Q σ){ρ ρ':PM→AI}(hρ:∀x,ρ' x=a7 σ (ρ x))(hf:∀f,ρ (.func f)= .func (.func f) #[] #[])(hS:∀x,qn D (ρ x)){o:Oper}{c:Call}(ho:o.op= .call c)(hc:lD Q cl c=true):oF Q β σ Ro D cl (PJ ρ o) (PJ ρ' o):=by
 unfold lD at hc;rw[Ra]at hc;rcases hc with hc|hc
 ·exact Ff A F hρ hf ho hc
 ·unfold PJ;rw[ho];dsimp only;unfold resolve;rw[qd hρ];cases hk:c.callee;case builtin b=>
   rw[hk]at hc;cases b;case append=>
    dsimp only at hc;obtain rfl:cl=false:=by
     cases hxt:c.argTypes[1]? with
     |none=>rw[hxt]at hc;simpa using hc
     |some xt=>
      rw[hxt]at hc;dsimp only at hc;rw[PD]at hc;simpa using hc.1
    refine BG (De F ?_ o.type (c.args.map ρ));intro xt hxt k hu;rw[hxt]at hc;dsimp only at hc;unfold my at hc;rw[hu]at hc;simp at hc
   case min=>exact hY (cH (Ki c.argTypes o.type (c.args.map ρ)))
   all_goals cases hc
  all_goals(rw[hk]at hc;cases hc)
theorem Kl(A:lw Q β)(F:Fit Q σ){dt:be}{cl:Bool}{f:Nat}{ρ ρ':PM→AI}(hρ:∀x,ρ' x=a7 σ (ρ x))(hc:ρ (.const (.pointer none))= .pointer none∧ρ (.const .nilIface)= .nilIface)(hf:∀f,ρ (.func f)= .func (.func f) #[] #[])(hk:∀x,jC D (ρ x))(hS:∀x,qn D (ρ x)){o:Oper}
 (ho:iS Q dt cl f o=true):oF Q β σ Ro D cl (PJ ρ o) (PJ ρ' o):=by
 unfold iS at ho;rw[PD]at ho;have ho:=ho.1;cases hop:o.op;case call c=>
  rw[hop]at ho;dsimp only at ho;rw[PD]at ho;exact Df A F hρ hf hS hop ho.1
 case defer c=>exact hY (Bz hρ hop)
 case send ch x=>exact hY (qA F hρ hc hk (by unfold ng;rw[hop]))
 case recv t ch ok=>exact hY (qA F hρ hc hk (by unfold ng;rw[hop]))
 all_goals
  rw[hop]at ho;dsimp only at ho;exact hY (qA F hρ hc hk ho)
theorem Ba(A:lw Q β){dt:be}{cl:Bool}{f:Nat}(hd:dt.all (·.1 !=f)=true)(args:Array AI):YP (alt Q β) (NK dt cl) (PL f args):=by
 unfold PL;refine uM ?_;rw[fN];cases hf:Q.funcs[f]? with
 |none=>exact fH
 |some fn=>
  dsimp only[If];rw[jo,A.num f fn hf,if_neg IN];cases hb:β f with
  |some c=>
   have e:(aw β f fn).body.isNone=false:=by unfold aw;rw[hb];rfl
   rw[e,if_neg IN];exact bW hd
  |none=>
   have e:aw β f fn=fn:=by unfold aw;rw[hb]
   rw[e];cases hn:fn.body.isNone with
   |false=>
    rw[if_neg IN];exact bW hd
   |true=>
    rw[if_pos rfl];obtain⟨h1,ex,h2,h3⟩:=A.lib f fn hf hb hn;rw[h1,h2];exact cS fun _=>nM
theorem KG(A:lw Q β){dt:be}{cl:Bool}{f:Nat}{ρ:PM→AI}(hf:∀f,ρ (.func f)= .func (.func f) #[] #[])(hd:∀t,(f,t)∈dt→∀fn a b,ρ (.tmp t)= .func fn a b→∃h,fn= .func h∧dt.all (·.1 !=h)=true)(hn:∀t,(f,t)∈dt→ρ (.tmp t)≠.nilFunc){o:Oper}
 (ho:iS Q dt cl f o=true):YP (alt Q β) (NK dt cl) (PJ ρ o):=by
 unfold iS at ho;rw[PD]at ho;have ho:=ho.1;cases hop:o.op;case call c=>
  rw[hop]at ho;dsimp only at ho;rw[PD]at ho;obtain⟨h1,h2⟩:=ho;unfold PJ;rw[hop];dsimp only;unfold resolve;unfold lD nF at h1;cases hk:c.callee;case value x=>
   rw[hk]at h1 h2;cases x;case func g=>
    dsimp only at h2 ⊢;rw[hf];exact Ba A h2 _
   all_goals cases h1
  case builtin b=>
   rw[hk]at h1;cases b;case len=>exact nM
   case recover=>exact bW trivial
   case append=>exact nM
   case min=>exact nM
   all_goals cases h1
  all_goals(rw[hk]at h1;cases h1)
 case defer c=>
  rw[hop]at ho;dsimp only at ho;unfold PJ;rw[hop];dsimp only;unfold resolve;cases hk:c.callee;case value x=>
   rw[hk]at ho;cases x;case tmp t=>
    dsimp only at ho ⊢;have hm:(f,t)∈dt:=by simpa using ho
    unfold R5;cases hv:ρ (.tmp t);case func fn a b=>
     obtain⟨h,rfl,hh⟩:=hd t hm fn a b hv;exact bW hh
    case nilFunc=>exact absurd hv (hn t hm)
    all_goals exact fH
   all_goals cases ho
  case builtin b=>
   rw[hk]at ho;cases b;case close=>exact bW ho
   all_goals cases ho
  all_goals(rw[hk]at ho;cases ho)
 case send ch x=>
  rw[hop]at ho;unfold PJ;rw[hop];exact bW ⟨rfl,_,rfl,.inl ⟨ho,rfl,rfl⟩⟩
 case recv t ch ok=>
  rw[hop]at ho;unfold PJ;rw[hop];refine cS fun d=> ?_
  cases d;case chan dir e=>exact cS fun z=>bW ⟨rfl,_,rfl,.inr ⟨by simpa using ho,_,rfl,rfl⟩⟩
  all_goals exact fH
 all_goals
  rw[hop]at ho;dsimp only at ho;unfold ng at ho;rw[hop]at ho;try dsimp only at ho
 all_goals try(exact absurd ho IN)
 all_goals
  unfold PJ;rw[hop];dsimp only
 case nilCheck x=>
  cases ρ x;case pointer a=>cases a with
   |none=>exact cS (s:=program) fun p=>fH
   |some a=>exact bW trivial
  case nilIface=>exact cS (s:=program) fun p=>fH
  case nilFunc=>exact cS (s:=program) fun p=>fH
  case func fn first captured=>
   cases fn;case method name=>
    dsimp only;split
    ·exact cS (s:=program) fun p=>fH
    ·exact cS fun p=>cS fun b=>by
      split
      ·exact fH
      ·exact bW trivial
    ·exact bW trivial
   all_goals exact bW trivial
  all_goals exact bW trivial
 all_goals first
  |exact nM
  |exact K8
  |exact bW trivial
  |exact cS fun _=>bW trivial
end
end
theorem xH{α:Type}(P:AS)(s:Sem α){x:No}:∀(w:AT)(es:Array No),x∈es→x∈(s.runT P w es).2:=by
 induction s with
 |pure a=>exact fun w es h=>h
 |halt y=>exact fun w es h=>h
 |load m a k ih=>
  intro w es h;simp only[OF];split
  ·exact ih _ _ _ (PN.2 (.inl h))
  ·split
   ·exact ih _ _ _ (Qr.2 (.inl h))
   ·exact h
 |store m a v k ih=>
  intro w es h;cases v;all_goals simp only[OF]
  case agg=>exact h
  case tuple=>exact h
  all_goals
   split
   ·split
    ·exact h
    ·exact ih _ _ (PN.2 (.inl h))
   ·split
    ·exact ih _ _ (Qr.2 (.inl h))
    ·exact h
 |new o k ih=>exact fun w es h=>ih _ _ _ h
 |shape r k ih=>exact fun w es h=>ih _ _ _ h
 |freeze a n k ih=>exact fun w es h=>ih _ _ h
 |frozen a k ih=>exact fun w es h=>ih _ _ _ h
 |getObj r k ih=>
  intro w es h;simp only[OF];split
  ·exact h
  ·exact ih _ _ _ (PN.2 (.inl h))
  ·exact h
 |setObj r o k ih=>
  intro w es h;simp only[OF];split
  ·exact h
  ·exact ih _ _ (PN.2 (.inl h))
  ·exact h
 |choose q k ih=>
  intro w es h;simp only[OF];split
  ·exact ih _ _ _ h
  ·exact ih _ _ _ h
 |sys c k ih=>exact fun w es h=>ih _ _ _ (PN.2 (.inl h))
 |program k ih=>exact fun w es h=>ih _ _ _ h
 |mark m k ih=>exact fun w es h=>ih _ _ (PN.2 (.inl h))
theorem sD{P:AS}{w w1:AT}{a:Addr}{v:AI}{b:Bool}{l:List Addr}(h:w.farStore P a v b= .ok (w1,l)):∀r,w1.heap[r]?≠w.heap[r]?→∃x∈l,x.block=r:=by
 intro r hr;unfold Qm at h;split at h
 ·rename_i at_ u hv;split at h
  ·rename_i y hy;simp only[Except.ok.injEq]at h;subst h;unfold QE at hy;cases hs:w.seen P at_ u a b with
   |error e=>
    rw[hs]at hy;simp only[bind,Qc,pure,Qb,throw,throwThe,PX]at hy;split at hy<;>cases hy
   |ok z=>
    obtain⟨c,e,fz,first,like,cells⟩:=z;rw[hs]at hy;have hblk:w.heap[at_.block]?=some (.cells c e fz):=by
     unfold RJ at hs;simp only[bind,Qc,pure,Qb,throw,throwThe,PX]at hs;repeat' split at hs
     all_goals first
      |(cases hs;done)
      |(
       simp only[Except.ok.injEq,Prod.mk.injEq]at hs;obtain⟨rfl,rfl,rfl,_⟩:=hs;assumption)
    simp only[bind,Qc,pure,Qb,throw,throwThe,PX]at hy;split at hy
    ·cases hy
    split at hy
    ·split at hy
     ·cases hy
     ·split at hy
      ·cases hy
      ·rename_i c2 hf;simp only[Except.ok.injEq,Prod.mk.injEq]at hy;obtain⟨rfl,rfl⟩:=hy;dsimp only at hr;rw[QQ]at hr;split at hr
       ·rename_i hb;subst hb;cases cells with
        |nil=>
         have e:c2=c:=by
          have e2:(Except.ok c:Except String (Array AI))= .ok c2:=hf;simpa using e2.symm
         subst e;exfalso;apply hr;rw[hblk];have:=(PE.1 hblk).1;simp[this]
        |cons x xs=>exact⟨_,Rw.2 ⟨x,.head _,rfl⟩,rfl⟩
       ·exact absurd rfl hr
    ·cases hy
  ·cases h
 ·cases h
def qk(es:Array No)(b:Nat):Prop:=∃e∈es,e.write=true∧∃a,e.loc= .cell a∧a.block=b
theorem qk.mono{es es':Array No}{b:Nat}(h:qk es b)(hs:∀e∈es,e∈es'):qk es' b:=let⟨e,he,h⟩:=h;⟨e,hs e he,h⟩
theorem vl{α:Type}(P:AS)(s:Sem α):bF P s→∀(w:AT)(es:Array No)(b:Nat),b<w.heap.size→(di (s.runT P w es).1).heap[b]?≠w.heap[b]?→qk (s.runT P w es).2 b:=by
 induction s with
 |pure a=>exact fun _ w es b hb h=>absurd rfl h
 |halt y=>exact fun _ w es b hb h=>absurd rfl h
 |load m a k ih=>
  intro hn w es b hb h;simp only[OF]at h ⊢;split at h
  ·exact ih _ (hn _) _ _ b hb h
  ·split at h
   ·exact ih _ (hn _) _ _ b hb h
   ·exact absurd rfl h
 |store m a v k ih=>
  intro hn w es b hb h;have key:∀v:AI,(∀cs,v≠.agg cs)→(∀cs,v≠.tuple cs)→(di ((Qf m a v k).runT P w es).1).heap[b]?≠w.heap[b]?→qk ((Qf m a v k).runT P w es).2 b:=fun v h1 h2 h=>by
   have e:(Qf m a v k).runT P w es=(match w.cell? a with
    |some _=>if w.frozen? a then(.halt (.unsupported (.unsafePointer "a write to bytes that a string shares")) w,es)else k.runT P (w.setCell a v) (es.push ⟨.cell a,true,m== .atomic⟩)
    |none=>match w.farStore P a v (m== .atomic)with
     | .ok (w,touched)=>k.runT P w (es++touched.toArray.map (⟨.cell ·,true,m== .atomic⟩))
     | .error h=>(.halt h w,es)):=by
    cases v<;>first |rfl|exact absurd rfl (h1 _)|exact absurd rfl (h2 _)
   rw[e]at h ⊢;split at h
   ·split at h
    ·exact absurd rfl h
    ·rename_i hz;rw[if_neg hz];by_cases h0:a.block=b
     ·exact⟨⟨.cell a,true,m== .atomic⟩,xH P k _ _ (PN.2 (.inr rfl)),rfl,a,rfl,h0⟩
     ·refine ih hn _ _ b (by simpa[Q2]using hb) ?_;have e2:(w.setCell a v).heap[b]?=w.heap[b]?:=by
       simp[Q2,PW,h0]
      rw[e2];exact h
   ·split at h
    ·rename_i w1 l hf;by_cases hc:w1.heap[b]?=w.heap[b]?
     ·refine ih hn _ _ b (by rw[mJ hf];exact hb) ?_;rw[hc];exact h
     ·obtain⟨x,hx,hxb⟩:=sD hf b hc;exact⟨⟨.cell x,true,m== .atomic⟩,xH P k _ _ (Qr.2 (.inr (Ru.2 ⟨x,by simpa using hx,rfl⟩))),rfl,x,rfl,hxb⟩
    ·exact absurd rfl h
  cases v;case agg cs=>exact absurd rfl h
  case tuple cs=>exact absurd rfl h
  all_goals exact key _ (fun _ h=>by cases h) (fun _ h=>by cases h) h
 |new o k ih=>
  intro hn w es b hb h;refine ih _ (hn.2 _) _ es b (by simp;omega) ?_;have e:(w.heap.push o)[b]?=w.heap[b]?:=by
   rw[PP,if_neg (by omega)]
  show(di ((k w.heap.size).runT P {w with heap:=w.heap.push o} es).1).heap[b]?≠(w.heap.push o)[b]?;rw[e];exact h
 |shape r k ih=>exact fun hn w es b hb h=>ih _ (hn _) _ _ b hb h
 |freeze a n k ih=>exact fun hn=>hn.elim
 |frozen a k ih=>exact fun hn w es b hb h=>ih _ (hn _) _ _ b hb h
 |getObj r k ih=>
  intro hn w es b hb h;simp only[OF]at h ⊢;split at h
  ·exact absurd rfl h
  ·exact ih _ (hn _) _ _ b hb h
  ·exact absurd rfl h
 |setObj r o k ih=>exact fun hn=>hn.elim
 |choose q k ih=>
  intro hn w es b hb h;simp only[OF]at h ⊢;by_cases hq:q.forced=true
  ·rw[if_pos hq]at h ⊢;exact ih _ (hn _) _ _ b hb h
  ·rw[if_neg hq]at h ⊢;exact ih _ (hn _) {w with drawn:=w.drawn+1} _ b hb h
 |sys c k ih=>
  intro hn w es b hb h;have e:(w.sys c).2.heap=w.heap:=by
   unfold R8;obtain⟨k0,_,_,h3,_⟩:=nL (Q5 c w.os) w;generalize w.ask (Q5 c w.os)=x at h3 ⊢;obtain⟨⟨r,os⟩,w1⟩:=x;cases r<;>first |rfl|exact h3
  refine ih _ (hn _) (w.sys c).2 _ b (by rw[e];exact hb) ?_;rw[e];exact h
 |program k ih=>exact fun hn w es b hb h=>ih _ hn _ _ b hb h
 |mark m k ih=>exact fun hn w es b hb h=>ih hn.2 _ _ b hb h
def aM(w:AT)(b:Nat):Prop:=∃c t f,w.heap[b]?=some (.cells c t f)
def mV(w:AT)(b:Nat):Prop:=∃c t,w.heap[b]?=some (.cells c t (0,c.size))
theorem qV{w:AT}{a:Addr}{v:AI}(h:w.cell? a=some v):aM w a.block∧∃c t f,w.heap[a.block]?=some (.cells c t f)∧a.off<c.size:=by
 unfold World.cell? at h;cases ho:w.heap[a.block]? with
 |none=>rw[ho]at h;cases h
 |some o=>
  rw[ho]at h;cases o;case cells c e fz=>
   dsimp only at h;split at h
   ·cases h
   ·exact⟨⟨c,e,fz,ho⟩,c,e,fz,rfl,(PE.1 h).1⟩
  all_goals cases h
theorem oZ{P:AS}{w w1:AT}{a:Addr}{v:AI}{b:Bool}{l:List Addr}(h:w.farStore P a v b= .ok (w1,l)):(∀r,aM w r→aM w1 r)∧(∀r,mV w r→w1.heap[r]?=w.heap[r]?)∧∀x∈l,aM w1 x.block∧¬ mV w x.block∧aM w x.block:=by
 unfold Qm at h;split at h
 ·rename_i at_ u hv;split at h
  ·rename_i y hy;simp only[Except.ok.injEq]at h;subst h;unfold QE at hy;cases hs:w.seen P at_ u a b with
   |error e=>
    rw[hs]at hy;simp only[bind,Qc,pure,Qb,throw,throwThe,PX]at hy;split at hy<;>cases hy
   |ok z=>
    obtain⟨c,e,fz,first,like,cells⟩:=z;rw[hs]at hy;have hblk:w.heap[at_.block]?=some (.cells c e fz):=by
     unfold RJ at hs;simp only[bind,Qc,pure,Qb,throw,throwThe,PX]at hs;repeat' split at hs
     all_goals first
      |(cases hs;done)
      |(
       simp only[Except.ok.injEq,Prod.mk.injEq]at hs;obtain⟨rfl,rfl,rfl,_⟩:=hs;assumption)
    have hlt:=(PE.1 hblk).1;simp only[bind,Qc,pure,Qb,throw,throwThe,PX]at hy;split at hy
    ·cases hy
    split at hy
    ·split at hy
     ·cases hy
     ·split at hy
      ·cases hy
      ·rename_i c2 hf;simp only[Except.ok.injEq,Prod.mk.injEq]at hy;obtain⟨rfl,rfl⟩:=hy;have h1:mV w at_.block→cells=[]:=by
        rintro⟨c3,t3,h3⟩;rw[hblk]at h3;simp only[Option.some.injEq,Obj.cells.injEq]at h3;obtain⟨rfl,rfl,rfl⟩:=h3;cases cells with
        |nil=>rfl
        |cons x xs=>
         exfalso;obtain⟨i,s,bs⟩:=x;rw[QC]at hf;simp only[bind,Qc,pure,Qb,throw,throwThe,PX]at hf;split at hf
         ·cases hf
         ·rename_i h0;split at h0
          ·cases h0
          ·split at h0
           ·cases h0
           ·rename_i hno;split at h0
            ·rename_i old hold;have:=(PE.1 hold).1;simp at hno;omega
            ·cases h0
       refine⟨fun r hr=> ?_,fun r hr=> ?_,fun x hx=> ?_⟩
       ·by_cases hb:at_.block=r
        ·subst hb;exact⟨c2,e,fz,by simp[hlt]⟩
        ·obtain⟨c4,t4,f4,h4⟩:=hr;exact⟨c4,t4,f4,by dsimp only;rw[QD hb];exact h4⟩
       ·by_cases hb:at_.block=r
        ·subst hb;have:=h1 hr;subst this;have e:c2=c:=by
          have e2:(Except.ok c:Except String (Array AI))= .ok c2:=hf;simpa using e2.symm
         subst e;rw[hblk];simp[hlt]
        ·dsimp only;rw[QD hb]
       ·obtain⟨y,hy,rfl⟩:=Rw.1 hx;refine⟨⟨c2,e,fz,by simp[hlt]⟩,fun hz=> ?_,⟨c,e,fz,hblk⟩⟩;rw[h1 hz]at hy;cases hy
    ·cases hy
  ·cases h
 ·cases h
theorem GE{P:AS}{w:AT}{a:Addr}{v:AI}{b:Bool}{l:List Addr}(h:w.farLoad P a b= .ok (v,l)):∀x∈l,aM w x.block:=by
 unfold Rj at h;split at h
 ·rename_i at_ u hv;split at h
  ·rename_i y hy;simp only[Except.ok.injEq]at h;subst h;unfold World.viewLoad at hy;cases hs:w.seen P at_ u a b with
   |error e=>
    rw[hs]at hy;cases hy
   |ok z=>
    obtain⟨c,e,fz,first,like,cells⟩:=z;rw[hs]at hy;have hblk:w.heap[at_.block]?=some (.cells c e fz):=by
     unfold RJ at hs;simp only[bind,Qc,pure,Qb,throw,throwThe,PX]at hs;repeat' split at hs
     all_goals first
      |(cases hs;done)
      |(
       simp only[Except.ok.injEq,Prod.mk.injEq]at hs;obtain⟨rfl,rfl,rfl,_⟩:=hs;assumption)
    simp only[bind,Qc,pure,Qb,throw,throwThe,PX]at hy;split at hy
    ·simp only[Except.ok.injEq,Prod.mk.injEq]at hy;obtain⟨_,rfl⟩:=hy;intro x hx;obtain⟨y,_,rfl⟩:=Rw.1 hx;exact⟨c,e,fz,hblk⟩
    ·cases hy
  ·cases h
 ·cases h
def kK(w w1:AT)(e:No):Prop:=match e.loc with
 | .cell a=>aM w1 a.block∧(e.write=true→¬ mV w a.block)
 | .obj _=>e.write=false
 | .mark m=>Meek m∧e.write=false∧e.sync=true
 |_=>True
theorem kK.back{w w0 w1:AT}{e:No}(h:kK w w1 e)(hf:∀b,mV w0 b→mV w b):kK w0 w1 e:=by
 obtain⟨loc,wr,sy⟩:=e;cases loc;case cell a=>exact⟨h.1,fun hw hz=>h.2 hw (hf _ hz)⟩
 all_goals exact h
theorem IR{w:AT}{a:Addr}{v:AI}{b:Nat}(h:mV w b):mV (w.setCell a v) b:=by
 obtain⟨c,t,hc⟩:=h;unfold Q2;by_cases h0:a.block=b
 ·subst h0;refine⟨if a.spot.isSome then c else c.setIfInBounds a.off v,t,?_⟩;simp only[PW,if_true,hc,If];split <;>simp
 ·exact⟨c,t,by simp[PW,h0,hc]⟩
theorem y7{w:AT}{a:Addr}{v:AI}{b:Nat}(h:aM w b):aM (w.setCell a v) b:=by
 obtain⟨c,t,f,hc⟩:=h;unfold Q2;by_cases h0:a.block=b
 ·subst h0;exact⟨if a.spot.isSome then c else c.setIfInBounds a.off v,t,f,by simp[PW,hc]⟩
 ·exact⟨c,t,f,by simp[PW,h0,hc]⟩
theorem uf(w:AT)(c:Sys):(w.sys c).2.heap=w.heap:=by
 unfold R8;obtain⟨k0,_,_,h3,_⟩:=nL (Q5 c w.os) w;generalize w.ask (Q5 c w.os)=x at h3 ⊢;obtain⟨⟨r,os⟩,w1⟩:=x;cases r<;>first |rfl|exact h3
theorem ni{α:Type}(P:AS)(s:Sem α):bF P s→∀(w:AT)(es:Array No)(b:Nat),aM w b→aM (di (s.runT P w es).1) b:=by
 induction s with
 |pure a=>exact fun _ w es b h=>h
 |halt y=>exact fun _ w es b h=>h
 |load m a k ih=>
  intro hn w es b h;simp only[OF];split
  ·exact ih _ (hn _) _ _ b h
  ·split
   ·exact ih _ (hn _) _ _ b h
   ·exact h
 |store m a v k ih=>
  intro hn w es b h;have key:∀v:AI,(∀cs,v≠.agg cs)→(∀cs,v≠.tuple cs)→aM (di ((Qf m a v k).runT P w es).1) b:=fun v h1 h2=>by
   have e:(Qf m a v k).runT P w es=(match w.cell? a with
    |some _=>if w.frozen? a then(.halt (.unsupported (.unsafePointer "a write to bytes that a string shares")) w,es)else k.runT P (w.setCell a v) (es.push ⟨.cell a,true,m== .atomic⟩)
    |none=>match w.farStore P a v (m== .atomic)with
     | .ok (w,touched)=>k.runT P w (es++touched.toArray.map (⟨.cell ·,true,m== .atomic⟩))
     | .error h=>(.halt h w,es)):=by
    cases v<;>first |rfl|exact absurd rfl (h1 _)|exact absurd rfl (h2 _)
   rw[e];split
   ·split
    ·exact h
    ·exact ih hn _ _ b (y7 h)
   ·split
    ·rename_i hf;exact ih hn _ _ b ((oZ hf).1 b h)
    ·exact h
  cases v;case agg cs=>exact h
  case tuple cs=>exact h
  all_goals exact key _ (fun _ h=>by cases h) (fun _ h=>by cases h)
 |new o k ih=>
  intro hn w es b h;refine ih _ (hn.2 _) _ es b ?_;obtain⟨c,t,f,hc⟩:=h;have hlt:=(PE.1 hc).1;exact⟨c,t,f,by dsimp only;rw[PP,if_neg (by omega)];exact hc⟩
 |shape r k ih=>exact fun hn w es b h=>ih _ (hn _) _ _ b h
 |freeze a n k ih=>exact fun hn=>hn.elim
 |frozen a k ih=>exact fun hn w es b h=>ih _ (hn _) _ _ b h
 |getObj r k ih=>
  intro hn w es b h;simp only[OF];split
  ·exact h
  ·exact ih _ (hn _) _ _ b h
  ·exact h
 |setObj r o k ih=>exact fun hn=>hn.elim
 |choose q k ih=>
  intro hn w es b h;simp only[OF];split
  ·exact ih _ (hn _) _ _ b h
  ·exact ih _ (hn _) {w with drawn:=w.drawn+1} _ b h
 |sys c k ih=>
  intro hn w es b h;refine ih _ (hn _) (w.sys c).2 _ b ?_;unfold aM;rw[uf];exact h
 |program k ih=>exact fun hn w es b h=>ih _ hn _ _ b h
 |mark m k ih=>exact fun hn w es b h=>ih hn.2 _ _ b h
theorem vj{α:Type}(P:AS)(s:Sem α):bF P s→∀(w:AT)(es:Array No)(e:No),e∈(s.runT P w es).2→e∈es∨kK w (di (s.runT P w es).1) e:=by
 induction s with
 |pure a=>exact fun _ w es e h=>.inl h
 |halt y=>exact fun _ w es e h=>.inl h
 |load m a k ih=>
  intro hn w es e h;simp only[OF]at h ⊢;cases hc:w.cell? a with
  |some v=>
   rw[hc]at h;dsimp only at h ⊢;rcases ih _ (hn _) _ _ e h with h1|h1
   ·rcases PN.1 h1 with h1|rfl
    ·exact .inl h1
    ·exact .inr ⟨ni P _ (hn _) _ _ _ (qV hc).1,fun hw=>by cases hw⟩
   ·exact .inr h1
  |none=>
   rw[hc]at h;dsimp only at h ⊢;cases hl:w.farLoad P a (m== .atomic)with
   |ok r=>
    obtain⟨v,l⟩:=r;rw[hl]at h;dsimp only at h ⊢;rcases ih _ (hn _) _ _ e h with h1|h1
    ·rcases Qr.1 h1 with h1|h1
     ·exact .inl h1
     ·obtain⟨x,hx,rfl⟩:=Ru.1 h1;exact .inr ⟨ni P _ (hn _) _ _ _ (GE hl x (by simpa using hx)),fun hw=>by cases hw⟩
    ·exact .inr h1
   |error e2=>rw[hl]at h;exact .inl h
 |store m a v k ih=>
  intro hn w es e h;have key:∀v:AI,(∀cs,v≠.agg cs)→(∀cs,v≠.tuple cs)→e∈((Qf m a v k).runT P w es).2→e∈es∨kK w (di ((Qf m a v k).runT P w es).1) e:=fun v h1 h2 h=>by
   have e0:(Qf m a v k).runT P w es=(match w.cell? a with
    |some _=>if w.frozen? a then(.halt (.unsupported (.unsafePointer "a write to bytes that a string shares")) w,es)else k.runT P (w.setCell a v) (es.push ⟨.cell a,true,m== .atomic⟩)
    |none=>match w.farStore P a v (m== .atomic)with
     | .ok (w,touched)=>k.runT P w (es++touched.toArray.map (⟨.cell ·,true,m== .atomic⟩))
     | .error h=>(.halt h w,es)):=by
    cases v<;>first |rfl|exact absurd rfl (h1 _)|exact absurd rfl (h2 _)
   rw[e0]at h ⊢;cases hc:w.cell? a with
   |some v0=>
    rw[hc]at h;dsimp only at h ⊢;by_cases hz:w.frozen? a=true
    ·rw[if_pos hz]at h;exact .inl h
    ·rw[if_neg hz]at h ⊢;rcases ih hn _ _ e h with h1|h1
     ·rcases PN.1 h1 with h1|rfl
      ·exact .inl h1
      ·refine .inr ⟨ni P k hn _ _ _ (y7 (qV hc).1),fun _ hf=>hz ?_⟩;obtain⟨_,c,t,f,h2,h3⟩:=qV hc;obtain⟨c',t',h4⟩:=hf;rw[h2]at h4;simp only[Option.some.injEq,Obj.cells.injEq]at h4;obtain⟨rfl,rfl,rfl⟩:=h4;unfold Ri;rw[h2];simp[h3]
     ·exact .inr (h1.back fun b=>IR)
   |none=>
    rw[hc]at h;dsimp only at h ⊢;cases hl:w.farStore P a v (m== .atomic)with
    |ok r=>
     obtain⟨w1,l⟩:=r;rw[hl]at h;dsimp only at h ⊢;obtain⟨k1,k2,k3⟩:=oZ hl;rcases ih hn _ _ e h with h1|h1
     ·rcases Qr.1 h1 with h1|h1
      ·exact .inl h1
      ·obtain⟨x,hx,rfl⟩:=Ru.1 h1;have:=k3 x (by simpa using hx);exact .inr ⟨ni P k hn _ _ _ this.1,fun _=>this.2.1⟩
     ·exact .inr (h1.back fun b ⟨c,t,hb⟩=>⟨c,t,by rw[k2 b ⟨c,t,hb⟩];exact hb⟩)
    |error e2=>rw[hl]at h;exact .inl h
  cases v;case agg cs=>exact .inl h
  case tuple cs=>exact .inl h
  all_goals exact key _ (fun _ h=>by cases h) (fun _ h=>by cases h) h
 |new o k ih=>
  intro hn w es e h;refine(ih _ (hn.2 _) _ es e h).imp id fun h1=>h1.back fun b ⟨c,t,hb⟩=>⟨c,t,?_⟩
  have hlt:=(PE.1 hb).1;dsimp only;rw[PP,if_neg (by omega)];exact hb
 |shape r k ih=>exact fun hn w es e h=>ih _ (hn _) _ _ e h
 |freeze a n k ih=>exact fun hn=>hn.elim
 |frozen a k ih=>exact fun hn w es e h=>ih _ (hn _) _ _ e h
 |getObj r k ih=>
  intro hn w es e h;simp only[OF]at h ⊢;cases ho:w.heap[r]? with
  |none=>rw[ho]at h;exact .inl h
  |some o=>
   rw[ho]at h;cases o;case cells c t f=>exact .inl h
   all_goals
    dsimp only at h ⊢;rcases ih _ (hn _) _ _ e h with h1|h1
    ·rcases PN.1 h1 with h1|rfl
     ·exact .inl h1
     ·exact .inr rfl
    ·exact .inr h1
 |setObj r o k ih=>exact fun hn=>hn.elim
 |choose q k ih=>
  intro hn w es e h;simp only[OF]at h ⊢;by_cases hq:q.forced=true
  ·rw[if_pos hq]at h ⊢;exact ih _ (hn _) _ _ e h
  ·rw[if_neg hq]at h ⊢;exact ih _ (hn _) {w with drawn:=w.drawn+1} _ e h
 |sys c k ih=>
  intro hn w es e h;rcases ih _ (hn _) (w.sys c).2 _ e h with h1|h1
  ·rcases PN.1 h1 with h1|rfl
   ·exact .inl h1
   ·exact .inr trivial
  ·exact .inr (h1.back fun b hb=>by unfold mV;rw[uf];exact hb)
 |program k ih=>exact fun hn w es e h=>ih _ hn _ _ e h
 |mark m k ih=>
  intro hn w es e h;rcases ih hn.2 _ _ e h with h1|h1
  ·rcases PN.1 h1 with h1|rfl
   ·exact .inl h1
   ·exact .inr ⟨hn.1,rfl,rfl⟩
  ·exact .inr h1
def iw(w:AT)(i:Nat)(o:Obj):Prop:=(w.heap.size≤i∧iR o)∨(aM w i∧∃c t f,o= .cells c t f)∨w.heap[i]?=some o
theorem DY{w:AT}{i:Nat}{o x:Obj}(hx:iR x)(h:iw {w with heap:=w.heap.push x} i o):iw w i o:=by
 rcases h with⟨h1,h2⟩|⟨⟨c,t,f,h1⟩,h2⟩|h
 ·exact .inl ⟨by simp at h1;omega,h2⟩
 ·dsimp only at h1;rw[PP]at h1;split at h1
  ·obtain⟨c,t,f,rfl⟩:=h2;exact .inl ⟨by omega,trivial⟩
  ·exact .inr (.inl ⟨⟨c,t,f,h1⟩,h2⟩)
 ·dsimp only at h;rw[PP]at h;split at h
  ·cases h;exact .inl ⟨by omega,hx⟩
  ·exact .inr (.inr h)
theorem DW{w:AT}{a:Addr}{v:AI}{i:Nat}{o:Obj}(h:iw (w.setCell a v) i o):iw w i o:=by
 have hc:aM (w.setCell a v) i→aM w i:=fun⟨c,t,f,h⟩=>by
  unfold Q2 at h;dsimp only at h;rw[PW]at h;split at h
  ·cases hi:w.heap[i]? with
   |none=>rw[hi]at h;cases h
   |some x=>
    rw[hi]at h;cases x;case cells c e f=>exact⟨c,e,f,hi⟩
    all_goals(simp at h)
  ·exact⟨c,t,f,h⟩
 rcases h with⟨h1,h2⟩|⟨h1,h2⟩|h
 ·exact .inl ⟨by simpa[Q2]using h1,h2⟩
 ·exact .inr (.inl ⟨hc h1,h2⟩)
 ·unfold Q2 at h;dsimp only at h;rw[PW]at h;split at h
  ·cases hi:w.heap[i]? with
   |none=>rw[hi]at h;cases h
   |some x=>
    rw[hi]at h;cases x;case cells c e f=>simp only[If,Option.some.injEq]at h;subst h;exact .inr (.inl ⟨⟨c,e,f,hi⟩,_,_,_,rfl⟩)
    all_goals
     simp only[If,Option.some.injEq]at h;subst h;exact .inr (.inr hi)
  ·exact .inr (.inr h)
theorem DZ{P:AS}{w w1:AT}{a:Addr}{v:AI}{b:Bool}{l:List Addr}(hf:w.farStore P a v b= .ok (w1,l)){i:Nat}{o:Obj}(h:iw w1 i o):iw w i o:=by
 rcases h with⟨h1,h2⟩|⟨h1,h2⟩|h
 ·exact .inl ⟨by rw[← mJ hf];exact h1,h2⟩
 ·by_cases hc:w1.heap[i]?=w.heap[i]?
  ·obtain⟨c,t,f,h3⟩:=h1;exact .inr (.inl ⟨⟨c,t,f,hc▸h3⟩,h2⟩)
  ·obtain⟨x,hx,rfl⟩:=sD hf i hc;exact .inr (.inl ⟨((oZ hf).2.2 x hx).2.2,h2⟩)
 ·by_cases hc:w1.heap[i]?=w.heap[i]?
  ·exact .inr (.inr (hc▸h))
  ·obtain⟨x,hx,rfl⟩:=sD hf i hc;obtain⟨⟨c,t,f,hx2⟩,_,h0⟩:=(oZ hf).2.2 x hx;rw[hx2]at h;cases h;exact .inr (.inl ⟨h0,_,_,_,rfl⟩)
theorem vk{α:Type}(P:AS)(s:Sem α):bF P s→∀(w:AT)(es:Array No)(i:Nat)(o:Obj),(di (s.runT P w es).1).heap[i]?=some o→iw w i o:=by
 induction s with
 |pure a=>exact fun _ w es i o h=>.inr (.inr h)
 |halt y=>exact fun _ w es i o h=>.inr (.inr h)
 |load m a k ih=>
  intro hn w es i o h;simp only[OF]at h;split at h
  ·exact ih _ (hn _) _ _ i o h
  ·split at h
   ·exact ih _ (hn _) _ _ i o h
   ·exact .inr (.inr h)
 |store m a v k ih=>
  intro hn w es i o h;have key:∀v:AI,(∀cs,v≠.agg cs)→(∀cs,v≠.tuple cs)→(di ((Qf m a v k).runT P w es).1).heap[i]?=some o→iw w i o:=fun v h1 h2 h=>by
   have e:(Qf m a v k).runT P w es=(match w.cell? a with
    |some _=>if w.frozen? a then(.halt (.unsupported (.unsafePointer "a write to bytes that a string shares")) w,es)else k.runT P (w.setCell a v) (es.push ⟨.cell a,true,m== .atomic⟩)
    |none=>match w.farStore P a v (m== .atomic)with
     | .ok (w,touched)=>k.runT P w (es++touched.toArray.map (⟨.cell ·,true,m== .atomic⟩))
     | .error h=>(.halt h w,es)):=by
    cases v<;>first |rfl|exact absurd rfl (h1 _)|exact absurd rfl (h2 _)
   rw[e]at h;split at h
   ·split at h
    ·exact .inr (.inr h)
    ·exact DW (ih hn _ _ i o h)
   ·split at h
    ·rename_i hf;exact DZ hf (ih hn _ _ i o h)
    ·exact .inr (.inr h)
  cases v;case agg cs=>exact .inr (.inr h)
  case tuple cs=>exact .inr (.inr h)
  all_goals exact key _ (fun _ h=>by cases h) (fun _ h=>by cases h) h
 |new x k ih=>exact fun hn w es i o h=>DY hn.1 (ih _ (hn.2 _) _ es i o h)
 |shape r k ih=>exact fun hn w es i o h=>ih _ (hn _) _ _ i o h
 |freeze a n k ih=>exact fun hn=>hn.elim
 |frozen a k ih=>exact fun hn w es i o h=>ih _ (hn _) _ _ i o h
 |getObj r k ih=>
  intro hn w es i o h;simp only[OF]at h;split at h
  ·exact .inr (.inr h)
  ·exact ih _ (hn _) _ _ i o h
  ·exact .inr (.inr h)
 |setObj r o k ih=>exact fun hn=>hn.elim
 |choose q k ih=>
  intro hn w es i o h;simp only[OF]at h;split at h
  ·exact ih _ (hn _) _ _ i o h
  ·exact ih _ (hn _) {w with drawn:=w.drawn+1} _ i o h
 |sys c k ih=>
  intro hn w es i o h;have:=ih _ (hn _) (w.sys c).2 _ i o h;unfold iw aM at this ⊢;rw[uf]at this;exact this
 |program k ih=>exact fun hn w es i o h=>ih _ hn _ _ i o h
 |mark m k ih=>exact fun hn w es i o h=>ih hn.2 _ _ i o h
theorem rS{α:Type}(P:AS)(s:Sem α):bF P s→∀(w:AT)(es:Array No)(h:Halt)(w1:AT)(es1:Array No),s.runT P w es=(.halt h w1,es1)→ql h∨∃g,h= .unsupported (.initOrder g)∧∃c t,w1.heap[g]?=some (.pending c t):=by
 have hfar:∀(w:AT)(a:Addr)(b:Bool)(h:Halt),w.farLoad P a b= .error h→ql h∨∃g,h= .unsupported (.initOrder g)∧∃c t,w.heap[g]?=some (.pending c t):=fun w a b h e=>by
  unfold Rj QZ at e;repeat' split at e
  all_goals first
   |(cases e;done)
   |(
    simp only[Except.error.injEq]at e;subst e;first |exact .inl (.inr (.inr trivial))|exact .inr ⟨_,rfl,_,_,(by assumption)⟩)
 have hfarS:∀(w:AT)(a:Addr)(v:AI)(b:Bool)(h:Halt),w.farStore P a v b= .error h→ql h∨∃g,h= .unsupported (.initOrder g)∧∃c t,w.heap[g]?=some (.pending c t):=fun w a v b h e=>by
  unfold Qm QZ at e;repeat' split at e
  all_goals first
   |(cases e;done)
   |(
    simp only[Except.error.injEq]at e;subst e;first |exact .inl (.inr (.inr trivial))|exact .inr ⟨_,rfl,_,_,(by assumption)⟩)
 induction s with
 |pure a=>intro _ w es h w1 es1 e;cases e
 |halt y=>
  intro hn w es h w1 es1 e;have e:((.halt y w,es):Result α×Array No)=(.halt h w1,es1):=e;cases e;exact .inl hn
 |load m a k ih=>
  intro hn w es h w1 es1 e;simp only[OF]at e;cases hc:w.cell? a with
  |some v=>rw[hc]at e;exact ih _ (hn _) _ _ _ _ _ e
  |none=>
   rw[hc]at e;dsimp only at e;cases hl:w.farLoad P a (m== .atomic)with
   |ok r=>rw[hl]at e;exact ih _ (hn _) _ _ _ _ _ e
   |error y=>rw[hl]at e;cases e;exact hfar _ _ _ _ hl
 |store m a v k ih=>
  intro hn w es h w1 es1 e;have key:∀v:AI,(∀cs,v≠.agg cs)→(∀cs,v≠.tuple cs)→(Qf m a v k).runT P w es=(.halt h w1,es1)→ql h∨∃g,h= .unsupported (.initOrder g)∧∃c t,w1.heap[g]?=some (.pending c t):=fun v h1 h2 e=>by
   have e0:(Qf m a v k).runT P w es=(match w.cell? a with
    |some _=>if w.frozen? a then(.halt (.unsupported (.unsafePointer "a write to bytes that a string shares")) w,es)else k.runT P (w.setCell a v) (es.push ⟨.cell a,true,m== .atomic⟩)
    |none=>match w.farStore P a v (m== .atomic)with
     | .ok (w,touched)=>k.runT P w (es++touched.toArray.map (⟨.cell ·,true,m== .atomic⟩))
     | .error h=>(.halt h w,es)):=by
    cases v<;>first |rfl|exact absurd rfl (h1 _)|exact absurd rfl (h2 _)
   rw[e0]at e;cases hc:w.cell? a with
   |some v0=>
    rw[hc]at e;dsimp only at e;split at e
    ·cases e;exact .inl (.inr (.inr trivial))
    ·exact ih hn _ _ _ _ _ e
   |none=>
    rw[hc]at e;dsimp only at e;cases hl:w.farStore P a v (m== .atomic)with
    |ok r=>rw[hl]at e;exact ih hn _ _ _ _ _ e
    |error y=>rw[hl]at e;cases e;exact hfarS _ _ _ _ _ hl
  cases v;case agg cs=>simp only[OF]at e;cases e;exact .inl (.inr (.inr trivial))
  case tuple cs=>simp only[OF]at e;cases e;exact .inl (.inr (.inr trivial))
  all_goals exact key _ (fun _ h=>by cases h) (fun _ h=>by cases h) e
 |new x k ih=>exact fun hn w es h w1 es1 e=>ih _ (hn.2 _) _ es h w1 es1 e
 |shape r k ih=>exact fun hn w es h w1 es1 e=>ih _ (hn _) _ _ h w1 es1 e
 |freeze a n k ih=>exact fun hn=>hn.elim
 |frozen a k ih=>exact fun hn w es h w1 es1 e=>ih _ (hn _) _ _ h w1 es1 e
 |getObj r k ih=>
  intro hn w es h w1 es1 e;simp only[OF]at e;cases ho:w.heap[r]? with
  |none=>rw[ho]at e;cases e;exact .inl (.inr (.inr trivial))
  |some o=>
   rw[ho]at e;cases o;case cells c t f=>cases e;exact .inl (.inr (.inr trivial))
   all_goals exact ih _ (hn _) _ _ _ _ _ e
 |setObj r o k ih=>exact fun hn=>hn.elim
 |choose q k ih=>
  intro hn w es h w1 es1 e;simp only[OF]at e;by_cases hq:q.forced=true
  ·rw[if_pos hq]at e;exact ih _ (hn _) _ _ _ _ _ e
  ·rw[if_neg hq]at e;exact ih _ (hn _) {w with drawn:=w.drawn+1} _ _ _ _ e
 |sys c k ih=>exact fun hn w es h w1 es1 e=>ih _ (hn _) (w.sys c).2 _ h w1 es1 e
 |program k ih=>exact fun hn w es h w1 es1 e=>ih _ hn _ _ h w1 es1 e
 |mark m k ih=>exact fun hn w es h w1 es1 e=>ih hn.2 _ _ h w1 es1 e
theorem Cv{α:Type}{P:AS}{s:Sem α}(hn:bF P s){w:AT}(hp:∀(i:Nat)(c:Array AI)(t:BY),w.heap[i]?≠some (Obj.pending c t)){es es1:Array No}{g:Nat}{w1:AT}(h:s.runT P w es=(.halt (.unsupported (.initOrder g)) w1,es1)):False:=by
 rcases rS P s hn w es _ _ _ h with(⟨v,e⟩|e|e)|⟨g',e,c,t,hg⟩
 ·cases e
 ·cases e
 ·exact e
 ·cases e;have hk:=vk P s hn w es g (.pending c t) (by rw[h];exact hg);rcases hk with⟨_,h2⟩|⟨_,_,_,_,h2⟩|h2
  ·exact h2
  ·cases h2
  ·exact hp _ _ _ h2
section
structure EM(Q:AS)(β:Nat→Option Code):Prop where
 nf:∀(f:Nat)(fn:Func),Q.funcs[f]?=some fn→β f=none→fn.body.isNone=true→∀e,Qy fn=some e→∀P args,Nf P (e args)
section
variable{Q P:AS}{β:Nat→Option Code}
theorem vF(A:lw Q β)(N:EM Q β)(f:Q9)(args:Array AI):Nf (alt Q β) (PL f args):=by
 unfold PL;refine⟨?_⟩;show bF (alt Q β) (match(alt Q β).funcs[f]? with
  |none=>_
  |some fn=>_)
 rw[fN];cases hf:Q.funcs[f]? with
 |none=>exact .inr (.inr trivial)
 |some fn=>
  dsimp only[If];rw[jo,A.num f fn hf,if_neg IN];cases hb:β f with
  |some c=>
   have e:(aw β f fn).body.isNone=false:=by unfold aw;rw[hb];rfl
   rw[e,if_neg IN];exact trivial
  |none=>
   have e:aw β f fn=fn:=by unfold aw;rw[hb]
   rw[e];cases hn:fn.body.isNone with
   |false=>rw[if_neg IN];exact trivial
   |true=>
    rw[if_pos rfl];obtain⟨h1,ex,h2,h3⟩:=A.lib f fn hf hb hn;rw[h1,h2];exact(@dk _ _ _ _ _ (zZ _ f) fun _=> @dk _ _ _ _ _ (N.nf f fn hf hb hn ex h2 _ args) fun _=>fW).nf
theorem tS(A:lw Q β)(N:EM Q β)(f:Q9)(hb:β f=none)(args:Array AI):Nf Q (PL f args):=by
 unfold PL;refine⟨?_⟩;show bF Q (match Q.funcs[f]? with
  |none=>_
  |some fn=>_)
 cases hf:Q.funcs[f]? with
 |none=>exact .inr (.inr trivial)
 |some fn=>
  dsimp only;rw[A.num f fn hf,if_neg IN];cases hn:fn.body.isNone with
  |false=>rw[if_neg IN];exact trivial
  |true=>
   rw[if_pos rfl];obtain⟨h1,ex,h2,h3⟩:=A.lib f fn hf hb hn;rw[h1,h2];exact(@dk _ _ _ _ _ (zZ _ f) fun _=> @dk _ _ _ _ _ (N.nf f fn hf hb hn ex h2 _ args) fun _=>fW).nf
theorem zY{α:Type}(t:BY){f:TypeDesc→Sem α}(h:∀d,P.underlying t=some d→Nf P (f d)):Nf P (underlying t>>=f):=by
 refine⟨?_⟩;show bF P (Qi (match P.underlying t with
  |some d=>pure d
  |none=>stuck "no such type") f)
 cases hd:P.underlying t with
 |none=>exact .inr (.inr trivial)
 |some d=>exact(h d hd).nf
theorem BS(hU:∀t,P.underlying t=Q.underlying t){s d:BY}(hs:my Q s=true)(hd:my Q d=true)(x:AI):Nf P (convert s d x):=by
 unfold convert;refine zY s fun e he=>zY d fun e' he'=> ?_
 obtain⟨k,rfl⟩:=oW hs e (hU s▸he);obtain⟨k',rfl⟩:=oW hd e' (hU d▸he');cases x;case pointer a=>cases a<;>(dsimp only;exact zq2)
 all_goals(dsimp only;exact zq2)
theorem G1(hU:∀t,P.underlying t=Q.underlying t){dt:be}{cl:Bool}{f:Nat}{ρ:PM→AI}(hf:∀f,ρ (.func f)= .func (.func f) #[] #[]){o:Oper}(ho:iS Q dt cl f o=true)
 (hc:∀(g:Nat) c,o.op= .call c→c.callee= .value (.func g)→∀args,Nf P (PL g args)):Nf P (PJ ρ o):=by
 unfold iS at ho;rw[PD]at ho;have ho:=ho.1;cases hop:o.op;case call c=>
  rw[hop]at ho;dsimp only at ho;rw[PD]at ho;obtain⟨h1,h2⟩:=ho;unfold PJ;rw[hop];dsimp only;unfold resolve;unfold lD nF at h1;cases hk:c.callee;case value x=>
   rw[hk]at h1 h2;cases x;case func g=>
    dsimp only at h2 ⊢;rw[hf];exact hc g c hop hk _
   all_goals cases h1
  case builtin b=>
   rw[hk]at h1;cases b;case len=>exact(show Nf P (do pure (Rh (← R7 c.argTypes o.type (c.args.map ρ))):Sem Next)from @dk _ _ _ _ _ zq2 fun _=>fW)
   case recover=>exact(show Nf P (pure Next.recover:Sem Next)from fW)
   case append=>exact(show Nf P (do pure (Rh (← QK c.argTypes o.type (c.args.map ρ))):Sem Next)from @dk _ _ _ _ _ zq2 fun _=>fW)
   case min=>exact(show Nf P (do pure (Rh (← R6 c.argTypes o.type (c.args.map ρ))):Sem Next)from @dk _ _ _ _ _ zq2 fun _=>fW)
   all_goals cases h1
  all_goals(rw[hk]at h1;cases h1)
 case defer c=>
  unfold PJ;rw[hop];dsimp only;refine @dk _ _ _ _ _ ?_ fun _=>fW
  unfold resolve;cases c.callee;case value x=>unfold R5;dsimp only;split <;>exact zq2
  all_goals exact zq2
 case send ch x=>
  unfold PJ;rw[hop];exact fW
 case recv t ch ok=>
  unfold PJ;rw[hop];dsimp only;refine @dk _ _ _ _ _ zq2 (fun d=> ?_);cases d<;>exact zq2
 all_goals
  rw[hop]at ho;dsimp only at ho;unfold ng at ho;rw[hop]at ho;try dsimp only at ho
 all_goals try(exact absurd ho IN)
 all_goals
  unfold PJ;rw[hop];dsimp only
 case convert s d x=>
  rw[PD]at ho;exact @dk _ _ _ _ _ (BS hU ho.1 ho.2 _) fun _=>fW
 all_goals repeat' (first
  |exact zq2
  |(refine @dk _ _ _ _ _ ?_ (fun _=> ?_))
  |(refine @G3 _ _ _ _ _ _ ?_ ?_)
  |split
  |dsimp only)
end
end
section
def jG(σ:Nat→Nat)(e:PanicEntry):PanicEntry:= {e with v:=a7 σ e.v}
def lG(σ:Nat→Nat):FrameMode→FrameMode
 | .panicking chain=>.panicking (chain.map (jG σ))
 |m=>m
def aH(σ:Nat→Nat)(fr:By):By:= {fr with tmps:=fr.tmps.map (a7 σ),defers:=fr.defers.map (km σ),mode:=lG σ fr.mode}
section
variable{σ:Nat→Nat}
@[simp] theorem Cp(fr:By):(aH σ fr).fn=fr.fn:=rfl
@[simp] theorem rY(fr:By):(aH σ fr).todo=fr.todo:=rfl
@[simp] theorem oO(fr:By):(aH σ fr).kind=fr.kind:=rfl
@[simp] theorem se(fr:By):(aH σ fr).roundOf=fr.roundOf:=rfl
@[simp] theorem rZ(fr:By):(aH σ fr).tmps=fr.tmps.map (a7 σ):=rfl
@[simp] theorem jS(fr:By):(aH σ fr).defers=fr.defers.map (km σ):=rfl
@[simp] theorem fv(fr:By):(aH σ fr).mode=lG σ fr.mode:=rfl
theorem J0(fr:By){x:PM}(hc:∀v,x= .const v→a7 σ v=v)(hg:∀g,x= .global g→σ g=g):(aH σ fr).eval x=a7 σ (fr.eval x):=by
 cases x with
 |tmp t=>
  simp only[Qk,rZ,Q8,PO];cases fr.tmps[t]? <;>simp
 |const v=>simp only[Qk];exact(hc v rfl).symm
 |global g=>simp[Qk,bh,hg g rfl]
 |func f=>simp[Qk,l7]
theorem Ij(fr:By):(aH σ fr).oper?=fr.oper?:=rfl
theorem Bb(ops:Array Oper)(tmps:Array AI)(j:Nat):yielded ops (tmps.map (a7 σ)) j=yielded ops tmps j:=by
 unfold yielded;cases(ops[j]?).bind (·.dst)with
 |none=>rfl
 |some d=>
  simp only[R1,PO];cases tmps[d]? with
  |none=>rfl
  |some v=>cases v<;>simp
theorem gG{fr:By}(ht:∀d w r s k,fr.todo≠.call d w r s::k)(he:∀r a k,fr.todo≠.extern r a::k)(v:AI):aH σ (fr.finish v)=(aH σ fr).finish (a7 σ v):=by
 unfold Q3;rw[rY];split
 ·rename_i ops i rest k heq;cases(ops[i]?).bind (·.dst)with
  |none=>rfl
  |some d=>simp only[aH,Qx]
 ·rfl
 ·rfl
 ·rename_i d w r s k heq;exact absurd heq (ht d w r s k)
 ·rename_i r a k heq;exact absurd heq (he r a k)
 ·rfl
theorem jn(fr:By)(vs:List PanicEntry):aH σ (fr.raise vs)=(aH σ fr).raise (vs.map (jG σ)):=by
 unfold Qt;rw[fv];cases fr.mode with
 |panicking chain=>simp[lG,aH]
 |run=>simp[lG,aH]
 |returning=>simp[lG,aH]
theorem rX:jG σ goexitEntry=goexitEntry:=by simp[jG,goexitEntry]
end
def qa:AI→Bool
 | .bool _| .int _ _| .float _ _| .complex _ _ _| .string _| .nilFunc| .nilIface=>true
 | .pointer none| .slice none _ _| .map none| .chan none=>true
 | .iface _ (.int _ _)| .iface _ (.string _)| .iface _ (.bool _)=>true
 | .agg cs=>cs.all fun v=>match v with
  | .bool _| .int _ _| .float _ _| .complex _ _ _| .string _| .nilFunc| .nilIface=>true
  | .pointer none| .slice none _ _| .map none| .chan none=>true
  |_=>false
 | .tuple cs=>cs.isEmpty
 |_=>false
theorem vu{v:AI}(h:qa v=true)(σ:Nat→Nat):a7 σ v=v:=by
 cases v;case agg cs=>
  rw[dw];congr 1
  unfold qa at h;rw[QX]at h;apply Array.ext
  ·simp
  ·intro i h1 h2;rw[Array.getElem_map];have:=h i h2;generalize cs[i]=x at this ⊢;cases x;case pointer a=>cases a<;>first |(simp;done)|cases this
   case slice a n c=>cases a<;>first |(simp;done)|cases this
   case map a=>cases a<;>first |(simp;done)|cases this
   case chan a=>cases a<;>first |(simp;done)|cases this
   all_goals first |(simp;done)|cases this
 case pointer a=>cases a<;>first |(simp;done)|cases h
 case slice a n c=>cases a<;>first |(simp;done)|cases h
 case map a=>cases a<;>first |(simp;done)|cases h
 case chan a=>cases a<;>first |(simp;done)|cases h
 case iface t v=>cases v<;>first |(simp;done)|cases h
 case tuple cs=>
  unfold qa at h;have:cs=#[]:=by simpa using h
  subst this;simp
 all_goals first |(simp;done)|cases h
def LQ(Q:AS):PM→Bool
 | .const v=>qa v
 | .global g=>decide (g≤Q.globals.size)
 |_=>true
def mN(Q:AS)(dt:be)(cl:Bool)(f:Nat)(o:Oper):Bool:=iS Q dt cl f o&&o.op.operands.all (LQ Q)
def codeOk(Q:AS)(dt:be)(cl:Bool)(f:Nat):Code→Bool
 | .region _ ops _=>ops.all (mN Q dt cl f ·)
 | .seq a b=>codeOk Q dt cl f a&&codeOk Q dt cl f b
 | .cond c a b=>LQ Q c&& (codeOk Q dt cl f a&&codeOk Q dt cl f b)
 | .block _ b=>codeOk Q dt cl f b
 | .loop b=>codeOk Q dt cl f b
 | .scope b=>codeOk Q dt cl f b
 | .rangeFunc _ _ _ _=>false
 |_=>true
def g7(Q:AS)(dt:be)(cl:Bool)(f:Nat):Item→Prop
 | .code c=>codeOk Q dt cl f c=true
 | .inBlock _=>True
 | .inLoop c=>codeOk Q dt cl f c=true
 | .inScope c=>codeOk Q dt cl f c=true
 | .inRegion ops is=>∀i∈is,∀o,ops[i]?=some o→mN Q dt cl f o=true
 |_=>False
theorem pK{Q:AS}{dt:be}{cl:Bool}{f:Nat}{ops:Array Oper}(h:ops.all (mN Q dt cl f ·)=true)(is:List Nat):g7 Q dt cl f (.inRegion ops is):=fun i _ o ho=>by
 rw[QX]at h;obtain⟨hi,rfl⟩:=PE.1 ho;exact h i hi
def qZ(dt:be)(v:AI):Prop:=(∀fn a b,v= .func fn a b→∃h,fn= .func h∧dt.all (·.1 !=h)=true)∧v≠.nilFunc
theorem jT{dt:be}:qZ dt undef:=⟨fun fn a b h=>by simp[undef]at h,by simp[undef]⟩
structure ck(Q:AS)(dt:be)(cl:Bool)(fr:By):Prop where
 round:fr.roundOf=none
 items:∀i∈fr.todo,g7 Q dt cl fr.fn i
 regs:∀t,(fr.fn,t)∈dt→qZ dt (fr.tmps.getD t undef)
 defs:∀d∈fr.defers,Mx dt cl d.target
 kind:fr.kind= .normal∨fr.kind= .deferred
 init:Q.inits.idxOf? fr.fn=none
section
variable{Q:AS}{dt:be}{cl:Bool}
theorem ck.todo{fr:By}(h:ck Q dt cl fr){t:List Item}(ht:∀i∈t,g7 Q dt cl fr.fn i):ck Q dt cl {fr with todo:=t}:=⟨h.round,ht,h.regs,h.defs,h.kind,h.init⟩
theorem ck.mode{fr:By}(h:ck Q dt cl fr)(m:FrameMode):ck Q dt cl {fr with mode:=m}:=⟨h.round,h.items,h.regs,h.defs,h.kind,h.init⟩
theorem ck.raise{fr:By}(h:ck Q dt cl fr)(vs:List PanicEntry):ck Q dt cl (fr.raise vs):=by
 unfold Qt;split <;>exact h.mode _
theorem ck.dE{fr:By}(h:ck Q dt cl fr):(∀d w r s k,fr.todo≠.call d w r s::k)∧∀r a k,fr.todo≠.extern r a::k:=by
 constructor
 ·intro d w r s k e;have:=h.items (.call d w r s) (by rw[e];exact .head _);exact this
 ·intro r a k e;have:=h.items (.extern r a) (by rw[e];exact .head _);exact this
theorem IQ(a:Array AI)(d t:Nat)(v:AI)(h:qZ dt (a.getD t undef))(hv:d=t→qZ dt v):qZ dt ((a.setIfInBounds d v).getD t undef):=by
 simp only[Q8]at h ⊢;rw[QQ];split
 ·rename_i hd;split
  ·exact hv hd
  ·exact jT
 ·exact h
theorem ck.finish{fr:By}(h:ck Q dt cl fr){v:AI}(hv:∀o t,fr.oper?=some o→o.dst=some t→(fr.fn,t)∈dt→qZ dt v):ck Q dt cl (fr.finish v):=by
 have hk:(fr.finish v).kind=fr.kind:=by unfold Q3;split <;>rfl
 have hf:(fr.finish v).fn=fr.fn:=by unfold Q3;split <;>rfl
 have hr:(fr.finish v).roundOf=fr.roundOf:=by unfold Q3;split <;>rfl
 have hd:(fr.finish v).defers=fr.defers:=by unfold Q3;split <;>rfl
 refine⟨hr.trans h.round,?_,?_,by rw[hd];exact h.defs,by rw[hk];exact h.kind,by rw[hf];exact h.init⟩
 ·rw[hf];intro i hi;unfold Q3 at hi;split at hi
  ·rename_i ops j rest k heq;have h0:=h.items (.inRegion ops (j::rest)) (by rw[heq];exact .head _);rcases Qg.1 hi with rfl|hi
   ·exact fun j hj o ho=>h0 j (.tail _ hj) o ho
   ·exact h.items i (by rw[heq];exact .tail _ hi)
  ·rename_i l k heq;exact absurd (h.items (.inRangeFunc l) (by rw[heq];exact .head _)) id
  ·rename_i k heq;exact h.items i (by rw[heq];exact .tail _ hi)
  ·rename_i d w r s k heq;exact absurd heq (h.dE.1 d w r s k)
  ·rename_i r a k heq;exact absurd heq (h.dE.2 r a k)
  ·exact h.items i hi
 ·intro t ht;rw[hf]at ht;unfold Q3;split
  ·rename_i ops j rest k heq;have ho:fr.oper?=ops[j]?:=by unfold Frame.oper?;rw[heq]
   dsimp only;cases hx:(ops[j]?).bind (·.dst)with
   |none=>exact h.regs t ht
   |some d=>
    obtain⟨o,ho2,h1⟩:=Option.bind_eq_some_iff.1 hx;refine IQ _ _ _ _ (h.regs t ht) fun h2=> ?_
    subst h2;exact hv o d (ho.trans ho2) h1 ht
  ·exact h.regs t ht
  ·exact h.regs t ht
  ·rename_i d w r s k heq;exact absurd heq (h.dE.1 d w r s k)
  ·rename_i r a k heq;exact absurd heq (h.dE.2 r a k)
  ·exact h.regs t ht
theorem pO{f:Nat}(id:Nat):∀(k t:List Item),(∀i∈k,g7 Q dt cl f i)→exitTo id k=some t→∀i∈t,g7 Q dt cl f i
 |[],t,_,h=>by cases h
 |x::k,t,hk,h=>by
  have hk':∀i∈k,g7 Q dt cl f i:=fun i hi=>hk i (.tail _ hi)
  cases x;case inBlock id'=>
   unfold exitTo at h;split at h
   ·cases h;exact hk'
   ·exact pO id k t hk' h
  all_goals exact pO id k t hk' h
theorem lQ{f:Nat}:∀(c:Code)(l:Nat)(r:Code),codeOk Q dt cl f c=true→findLabel c l=some r→codeOk Q dt cl f r=true
 | .seq a b,l,r,hc,h=>by
  unfold codeOk at hc;rw[PD]at hc;unfold findLabel at h;split at h
  ·rename_i rest hr;cases h;unfold codeOk;rw[PD];exact⟨lQ a l rest hc.1 hr,hc.2⟩
  ·exact lQ b l r hc.2 h
 | .label l',l,r,hc,h=>by
  unfold findLabel at h;split at h
  ·cases h;rfl
  ·cases h
 | .skip,_,_,_,h=>by cases h
 | .region _ _ _,_,_,_,h=>by cases h
 | .cond _ _ _,_,_,_,h=>by cases h
 | .block _ _,_,_,_,h=>by cases h
 | .loop _,_,_,_,h=>by cases h
 | .rangeFunc _ _ _ _,_,_,_,h=>by cases h
 | .exit _,_,_,_,h=>by cases h
 | .scope _,_,_,_,h=>by cases h
 | .goto _,_,_,_,h=>by cases h
 | .ret,_,_,_,h=>by cases h
 | .refuse _,_,_,_,h=>by cases h
theorem pN{f:Nat}(l:Nat):∀(k t:List Item),(∀i∈k,g7 Q dt cl f i)→gotoIn l k=some t→∀i∈t,g7 Q dt cl f i
 |[],t,_,h=>by cases h
 |x::k,t,hk,h=>by
  have hk':∀i∈k,g7 Q dt cl f i:=fun i hi=>hk i (.tail _ hi)
  cases x;case inScope body=>
   have hb:codeOk Q dt cl f body=true:=hk (.inScope body) (.head _);unfold gotoIn at h;split at h
   ·rename_i rest hr;cases h;intro i hi;rcases Qg.1 hi with rfl|hi
    ·exact lQ body l rest hb hr
    ·rcases Qg.1 hi with rfl|hi
     ·exact hb
     ·exact hk' i hi
   ·exact pN l k t hk' h
  all_goals exact pN l k t hk' h
end
end
section
theorem EC{α:Type}(x:Ask α)(w:AT):(w.ask x).2.output=w.output:=let⟨_,_,_,_,_,h,_⟩:=nL x w;h
theorem CS(w:AT)(c:Sys):(w.sys c).2.output=w.output:=by
 unfold R8;have h3:=EC (Q5 c w.os) w;generalize w.ask (Q5 c w.os)=x at h3 ⊢;obtain⟨⟨r,os⟩,w1⟩:=x;cases r<;>first |rfl|exact h3
theorem Eh{P:AS}{w w1:AT}{a:Addr}{v:AI}{b:Bool}{l:List Addr}(h:w.farStore P a v b= .ok (w1,l)):w1.output=w.output:=by
 unfold Qm at h;split at h
 ·split at h
  ·rename_i hv;simp only[Except.ok.injEq]at h;subst h;unfold QE at hv;simp only[bind,Qc,pure,Qb]at hv;repeat' split at hv
   all_goals first
    |(cases hv;done)
    |(simp only[Except.ok.injEq,Prod.mk.injEq]at hv;obtain⟨rfl,_⟩:=hv;rfl)
  ·cases h
 ·cases h
theorem BJ{α:Type}(P:AS)(s:Sem α):∀(w:AT)(es:Array No),(di (s.runT P w es).1).output=w.output:=by
 induction s with
 |pure a=>exact fun w es=>rfl
 |halt x=>exact fun w es=>rfl
 |load m a k ih=>
  intro w es;simp only[OF];split
  ·exact ih _ _ _
  ·split
   ·exact ih _ _ _
   ·rfl
 |store m a v k ih=>
  intro w es;cases v;all_goals simp only[OF]
  case agg=>rfl
  case tuple=>rfl
  all_goals
   split
   ·split
    ·rfl
    ·exact(ih _ _).trans rfl
   ·split
    ·rename_i hf;exact(ih _ _).trans (Eh hf)
    ·rfl
 |new o k ih=>exact fun w es=>(ih _ _ _).trans rfl
 |shape r k ih=>exact fun w es=>ih _ _ _
 |freeze a n k ih=>exact fun w es=>(ih _ _).trans (by unfold World.freeze;split <;>rfl)
 |frozen a k ih=>exact fun w es=>ih _ _ _
 |getObj r k ih=>
  intro w es;simp only[OF];split
  ·rfl
  ·exact ih _ _ _
  ·rfl
 |setObj r o k ih=>
  intro w es;simp only[OF];split
  ·rfl
  ·exact(ih _ _).trans rfl
  ·rfl
 |choose q k ih=>
  intro w es;simp only[OF];split
  ·exact ih _ _ _
  ·exact(ih _ _ _).trans rfl
 |sys c k ih=>exact fun w es=>(ih _ _ _).trans (CS w c)
 |program k ih=>exact fun w es=>ih _ _ _
 |mark m k ih=>exact fun w es=>ih _ _
theorem FC{α:Type}{P:AS}{s:Sem α}(hn:bF P s){w:AT}{b:Nat}(h:mV w b):(di (s.runT P w #[]).1).heap[b]?=w.heap[b]?:=by
 refine Qu fun hne=> ?_
 have hlt:b<w.heap.size:=by
  obtain⟨c,t,h⟩:=h;exact(PE.1 h).1
 obtain⟨e,he,hw,a,hl,rfl⟩:=vl P s hn w #[] b hlt hne;rcases vj P s hn w #[] e he with h1|h1
 ·simp at h1
 ·unfold kK at h1;rw[hl]at h1;exact h1.2 hw h
def pj(Ro:Nat→Prop)(w:AT):Prop:=∀i,Ro i→mV w i
structure Mv(σ:Nat→Nat)(Ro:Nat→Prop)(w1:AT)(e:No):Prop where
 cell:∀a',e.loc= .cell a'→∃a,a'=bh σ a∧aM w1 a.block∧(e.write=true→¬ Ro a.block)
 obj:∀r,e.loc= .obj r→e.write=false
 mark:∀m,e.loc= .mark m→Meek m∧e.write=false∧e.sync=true
structure iq(σ:Nat→Nat)(Ro:Nat→Prop)(D:Known)(w w' w1 w1':AT)(es':Array No):Prop where
 rel:ew σ Ro D w1 w1'
 size:w1'.heap.size+w.heap.size=w'.heap.size+w1.heap.size
 le:w.heap.size≤w1.heap.size
 ro:pj Ro w1
 frame:∀b,b<w'.heap.size→w1'.heap[b]?≠w'.heap[b]?→∃i,σ i=b∧aM w1 i∧¬ Ro i
 events:∀e∈es',Mv σ Ro w1 e
 output:w1'.output=w'.output
 kinds:∀(i:Nat)(o:Obj),w1.heap[i]?=some o→iw w i o
section
variable{σ:Nat→Nat}{Ro:Nat→Prop}{D:Known}{Q:AS}{β:Nat→Option Code}
theorem iq.refl{w w':AT}(h:ew σ Ro D w w')(hr:pj Ro w):iq σ Ro D w w' w w' #[]:=⟨h,rfl,IS _,hr,fun b _ h=>absurd rfl h,fun e he=>(by simp at he),rfl,fun i o h=>.inr (.inr h)⟩
theorem iq.less{w w' w1 w1':AT}{es es2:Array No}(h:iq σ Ro D w w' w1 w1' es)(hs:∀e∈es2,e∈es):iq σ Ro D w w' w1 w1' es2:=⟨h.rel,h.size,h.le,h.ro,h.frame,fun e he=>h.events e (hs e he),h.output,h.kinds⟩
theorem sV{α:Type}{s s':Sem α}(hn:bF (alt Q β) s)(hn':bF Q s'){w w' w1 w1':AT}(hR:pj Ro w)(h1:di (s.runT (alt Q β) w #[]).1=w1)(h1':di (s'.runT Q w' #[]).1=w1')
 (hS:Sub (σ:=σ) (s.runT (alt Q β) w #[]).2 (s'.runT Q w' #[]).2) (hrel:ew σ Ro D w1 w1') (hz:w1'.heap.size+w.heap.size=w'.heap.size+w1.heap.size):iq σ Ro D w w' w1 w1' (s'.runT Q w' #[]).2:=by
 have touch:∀e∈(s.runT (alt Q β) w #[]).2,kK w w1 e:=fun e he=>by
  rcases vj _ s hn w #[] e he with h|h
  ·simp at h
  ·rw[h1]at h;exact h
 have ev:∀e'∈(s'.runT Q w' #[]).2,Mv σ Ro w1 e':=fun e' he'=>by
  obtain⟨e,he,rfl⟩:=hS e' he';have ht:=touch e he;obtain⟨loc,wr,sy⟩:=e;unfold kK at ht;cases loc with
  |cell a=>exact⟨fun a' h=>by simp only[iF,Loc.cell.injEq]at h;exact⟨a,h.symm,ht.1,fun hw hr=>ht.2 hw (hR _ hr)⟩,fun r h=>by simp[iF]at h,fun m h=>by simp[iF]at h⟩
  |obj r=>exact⟨fun a' h=>by simp[iF]at h,fun r _=>ht,fun m h=>by simp[iF]at h⟩
  |mark m=>
   cases m;case extern f=>exact⟨fun a' h=>by simp[iF]at h,fun r h=>by simp[iF]at h,fun m h=>by simp only[iF,Loc.mark.injEq]at h;subst h;exact ht⟩
   case noRoom=>exact⟨fun a' h=>by simp[iF]at h,fun r h=>by simp[iF]at h,fun m h=>by simp only[iF,Loc.mark.injEq]at h;subst h;exact ht⟩
   all_goals exact absurd ht.1 id
  |output=>exact⟨fun a' h=>by simp[iF]at h,fun r h=>by simp[iF]at h,fun m h=>by simp[iF]at h⟩
  |goroutines=>exact⟨fun a' h=>by simp[iF]at h,fun r h=>by simp[iF]at h,fun m h=>by simp[iF]at h⟩
 refine⟨hrel,hz,?_,fun i hi=> ?_,fun b hb hne=> ?_,ev,?_,by rw[← h1];exact vk _ s hn w #[]⟩
 ·rw[← h1];exact runT_size _ s w #[]
 ·have:=FC hn (hR i hi);rw[h1]at this;obtain⟨c,t,h⟩:=hR i hi;exact⟨c,t,this.trans h⟩
 ·rw[← h1']at hne;obtain⟨e,he,hw,a',hl,rfl⟩:=vl Q s' hn' w' #[] b hb hne;obtain⟨a,rfl,h2,h3⟩:=(ev e he).cell a' hl;exact⟨a.block,rfl,h2,h3 hw⟩
 ·rw[← h1'];exact BJ Q s' w' #[]
end
def mh(dt:be)(fr:By):Prop:=∀o t,fr.oper?=some o→o.dst=some t→(fr.fn,t)∉dt
def eu(dt:be)(fr:By):List By→Prop
 |[]=>fr.kind= .normal
 |c::cs=>(fr.kind= .normal→mh dt c)∧eu dt c cs
structure B7(D0:By):Prop where
 todo:∃why,D0.todo=[.code (.refuse why)]
 mode:D0.mode= .run
structure ud(Q:AS)(D0:By)(dt:be)(cl:Bool)(g:Q4):Prop where
 frame:ck Q dt cl g.frame
 callers:∀c∈g.callers.dropLast,ck Q dt cl c
 stack:eu dt g.frame g.callers.dropLast
 last:g.callers=g.callers.dropLast++[D0]
structure mU(σ:Nat→Nat)(rest:List By)(g g':Q4):Prop where
 frame:g'.frame=aH σ g.frame
 callers:g'.callers=g.callers.dropLast.map (aH σ)++rest
 dying:g.dying=none∧g'.dying=none
 status:g.status= .running∧g'.status= .running
def ti(D0:By):GStep→Prop
 | .ended _ _ _=>True
 | .go g _ _=>g.status≠.running∨(g.status= .running∧g.dying=none∧g.callers=[]∧(g.frame=D0∨∃chain,g.frame= {D0 with mode:=.panicking chain}))
 |_=>False
theorem p9(cs:List By)(D0:By):(cs++[D0]).dropLast=cs:=by simp
theorem il{Q:AS}{D0:By}{dt:be}{cl:Bool}{fr:By}{cs:List By}{st:GoStatus}{dy:Option Dying}(h1:ck Q dt cl fr)(h2:∀c∈cs,ck Q dt cl c)(h3:eu dt fr cs):ud Q D0 dt cl {frame:=fr,callers:=cs++[D0],status:=st,dying:=dy}:=
 ⟨h1,by rw[p9];exact h2,by rw[p9];exact h3,by rw[p9]⟩
theorem fU{σ:Nat→Nat}{rest:List By}{fr:By}{cs:List By}{D0:By}:mU σ rest {frame:=fr,callers:=cs++[D0],status:=.running,dying:=none} {frame:=aH σ fr,callers:=cs.map (aH σ)++rest,status:=.running,dying:=none}:=
 ⟨rfl,by dsimp only;rw[p9],⟨rfl,rfl⟩,⟨rfl,rfl⟩⟩
def stepW:GStep→AT
 | .go _ w _=>w
 | .comm _ _ _ _ w _=>w
 | .spawn _ _ w _=>w
 | .count _ w _=>w
 | .timer _ _ w _=>w
 | .alone _ _ w _=>w
 | .newcoro _ _ _ w _=>w
 | .coroswitch _ _ _ w _=>w
 | .collect _ w _=>w
 | .watch _ w _=>w
 | .ended _ w _=>w
theorem fS(es:Array No)(x:GStep):stepW (PK es x)=stepW x:=by cases x<;>rfl
end
section
variable[aJ]
section
variable{Q:AS}{β:Nat→Option Code}{σ:Nat→Nat}{Ro:Nat→Prop}{D:Known}{dt:be}{cl:Bool}{D0:By}{rest:List By}
def qm(cl:Bool)(cs:Array CommCase)(bl:Bool)(sh:CommShape):Prop:=bl=true∧∃c,cs=#[c]∧((cl=true∧sh= .send∧c.send.isSome=true)∨(cl=false∧∃ok,sh= .recv ok∧c.send=none))
def eo(Q:AS)(β:Nat→Option Code)(σ:Nat→Nat)(Ro:Nat→Prop)(D:Known)(dt:be)(cl:Bool)(D0:By)(rest:List By)(w w':AT)(x x':GStep):Prop:=
 (∃g1 w1 es g1' w1' es',x= .go g1 w1 es∧x'= .go g1' w1' es'∧mU σ rest g1 g1'∧ud Q D0 dt cl g1∧iq σ Ro D w w' w1 w1' es'∧¬ Big x.es)∨
 (∃g1 cs bl sh w1 es g1' w1' es',x= .comm g1 cs bl sh w1 es∧x'= .comm g1' (cs.map (kn σ)) bl sh w1' es'∧qm cl cs bl sh∧mU σ rest g1 g1'∧ud Q D0 dt cl g1∧mh dt g1.frame∧iq σ Ro D w w' w1 w1' es'∧¬ Big x.es)∨
 (∃g w es,x= .go g w es∧pU Q β g∧¬ Big x.es)∨(cl=false∧Big x.es∧Big x'.es)∨(ti D0 x∧¬ Big x.es)
theorem cL{fr fr2:By}(cs:List By)(h:fr2.kind=fr.kind)(hs:eu dt fr cs):eu dt fr2 cs:=by
 cases cs with
 |nil=>exact h.trans hs
 |cons c cs=>exact⟨fun hk=>hs.1 (h▸hk),hs.2⟩
theorem wE{fr:By}{cs:List By}(hf:ck Q dt cl fr)(hb:eu dt fr cs):tryRecover (aH σ fr) (cs.map (aH σ)++rest)=(tryRecover fr cs).map fun x=>(a7 σ x.1,x.2.map (aH σ)++rest):=by
 unfold tryRecover;rw[oO];rcases hf.kind with hk|hk
 ·rw[hk];rfl
 ·rw[hk];cases cs with
  |nil=>
   have:fr.kind= .normal:=hb;rw[hk]at this;cases this
  |cons c cs=>
   rw[PV,Qo];dsimp only;rw[fv];cases hm:c.mode with
   |panicking chain=>
    cases chain with
    |nil=>rfl
    |cons e older=>
     obtain⟨v,r,gx⟩:=e;cases r<;>cases gx<;>simp[lG,jG,aH]
   |run=>rfl
   |returning=>rfl
theorem uS{fr:By}{cs:List By}(hf:ck Q dt cl fr)(hb:eu dt fr cs):tryRecover fr (cs++[D0])=(tryRecover fr cs).map fun x=>(x.1,x.2++[D0]):=by
 unfold tryRecover;rcases hf.kind with hk|hk
 ·rw[hk];rfl
 ·rw[hk];cases cs with
  |nil=>
   have:fr.kind= .normal:=hb;rw[hk]at this;cases this
  |cons c cs=>
   rw[Qo];dsimp only;cases hm:c.mode with
   |panicking chain=>
    cases chain with
    |nil=>rfl
    |cons e older=>
     obtain⟨v,r,gx⟩:=e;cases r<;>cases gx<;>simp
   |run=>rfl
   |returning=>rfl
theorem yh{fr:By}{cs:List By}(hc:∀c∈cs,ck Q dt cl c){v:AI}{cs2:List By}(h:tryRecover fr cs=some (v,cs2))(hk:fr.kind= .normal∨fr.kind= .deferred)(hb:eu dt fr cs):
 (∀c∈cs2,ck Q dt cl c)∧eu dt fr cs2:=by
 unfold tryRecover at h;rcases hk with hk|hk
 ·rw[hk]at h;cases h
 ·rw[hk]at h;cases cs with
  |nil=>cases h
  |cons c cs=>
   dsimp only at h;split at h
   ·simp only[Option.some.injEq,Prod.mk.injEq]at h;obtain⟨_,rfl⟩:=h;refine⟨fun x hx=> ?_,?_⟩
    ·rcases Qg.1 hx with rfl|hx
     ·exact(hc c (.head _)).mode _
     ·exact hc x (.tail _ hx)
    ·exact⟨fun hk2=>hb.1 hk2,cL (fr:=c) cs rfl hb.2⟩
   ·cases h
theorem tX(A:lw Q β){f:Nat}(hb:β f=none)(args:Array AI)(k:CallKind):aH σ (PU (alt Q β) f args k)=PU Q f (args.map (a7 σ)) k:=by
 unfold PU;rw[fN];cases hf:Q.funcs[f]? with
 |none=>simp[aH,lG]
 |some fn=>
  have e:aw β f fn=fn:=by unfold aw;rw[hb]
  simp[aH,lG,e]
structure sP(Q:AS)(β:Nat→Option Code)(dt:be)(cl:Bool):Prop where
 code:∀f fn c,Q.funcs[f]?=some fn→β f=none→fn.body=some c→dt.all (·.1 !=f)=true→codeOk Q dt cl f c=true
 init:∀f,β f=none→Q.inits.idxOf? f=none
theorem Ar(G:sP Q β dt cl){f:Nat}(hb:β f=none)(hd:dt.all (·.1 !=f)=true)(args:Array AI){k:CallKind}(hk:k= .normal∨k= .deferred):ck Q dt cl (PU (alt Q β) f args k):=by
 refine⟨rfl,fun i hi=> ?_,fun t ht=> ?_,fun d hd=>(by cases hd),hk,G.init f hb⟩
 ·unfold PU at hi;rw[fN]at hi;dsimp only at hi;have:i= .code (((((Q.funcs[f]?).map (aw β f)).bind (·.body))).getD (.refuse "unsupported: a function without a Go body is entered")):=by simpa using hi
  subst this;show codeOk Q dt cl f _=true;cases hf:Q.funcs[f]? with
  |none=>rfl
  |some fn=>
   have e:aw β f fn=fn:=by unfold aw;rw[hb]
   simp only[If,R1,e];cases hc:fn.body with
   |none=>rfl
   |some c=>exact G.code f fn c hf hb hc hd
 ·exfalso;rw[List.all_eq_true]at hd;have:=hd _ ht;simp[PU]at this
def Nm(r:Result Next)(es:Array No):Array No:=match r with
 | .halt .blocked _| .halt .waiting _| .halt (.unsupported (.initOrder _)) _=> #[]
 |_=>es
def Lp(P:AS)(dt:be)(fr:By)(s:Sem Next):Prop:=∀o t,fr.oper?=some o→o.dst=some t→(fr.fn,t)∈dt→YP P (fun n=>∃fn a b,n= .value (.func (.func fn) a b)∧dt.all (·.1 !=fn)=true) s
theorem bg{es:Array No}{y:GStep}(h:¬ Big es)(hy:¬ Big y.es):¬ Big (PK es y).es:=fun h=>h
theorem FZ{r:Result Next}{es:Array No}(h:¬ Big es):¬ Big (Nm r es):=fun h=>h
theorem uj{α:Type}(P:AS)(s:Sem α)(w:AT):w.heap.size≤(di (s.run P w)).heap.size:=by
 rw[← Sem.runT_fst P s w #[]];exact runT_size P s w #[]
theorem qh(P:AS)(fr:By)(cs:List By)(m:String)(w:AT):w.heap.size≤(stepW (endFatal P fr cs none m w)).heap.size∧(endFatal P fr cs none m w).es=#[]:=by
 refine⟨?_,C6 m⟩
 ·unfold endFatal;dsimp only;split
  ·rename_i w1 h;have:=congrArg (fun r=>(di r).heap.size) h;dsimp only[di]at this;show w.heap.size≤w1.heap.size;rw[← this];exact uj _ _ _
  ·rename_i w1 h;have:=congrArg (fun r=>(di r).heap.size) h;dsimp only[di]at this;show w.heap.size≤w1.heap.size;rw[← this];exact uj _ _ _
  ·rename_i w1 hne h;have:=congrArg (fun r=>(di r).heap.size) h;dsimp only[di]at this;show w.heap.size≤w1.heap.size;rw[← this];exact uj _ _ _
theorem GZ(A:lw Q β)(G:sP Q β dt cl){fr:By}{cs:List By}{s s':Sem Next}{w w':AT}(hg:ck Q dt cl fr)(hcs:∀c∈cs,ck Q dt cl c)(hbot:eu dt fr cs)
 (hs:oF Q β σ Ro D cl s s') (hy:YP (alt Q β) (NK dt cl) s) (hn:bF (alt Q β) s) (hn':¬ tj β (s.runT (alt Q β) w #[])→bF Q s') (hfin:Lp (alt Q β) dt fr s)
 (hw:ew σ Ro D w w') (hD:Dom D w) (hR:pj Ro w) (hF:gd σ w w' (stepW (stepG.apply (alt Q β) true fr (cs++[D0]) none s w)).heap.size):
 eo Q β σ Ro D dt cl D0 rest w w' (stepG.apply (alt Q β) true fr (cs++[D0]) none s w) (stepG.apply Q true (aH σ fr) (cs.map (aH σ)++rest) none s' w'):=by
 have hni:∀x w1 es,s.runT (alt Q β) w #[]=(.halt x w1,es)→∀g,x= .unsupported (.initOrder g)→False:=fun x w1 es h g e=>by
  subst e;exact Cv hn (fun i c t hi=>hw.blk i _ hi) h
 have hkind:∀k:CallKind,k≠.early→(k==S4)=false:=fun k hk=>by cases k<;>first |rfl|exact absurd rfl hk
 have hke:(fr.kind==S4)=false:=hkind _ (by rcases hg.kind with h|h<;>rw[h]<;>simp);have hWsz:(di (s.runT (alt Q β) w #[]).1).heap.size≤(stepW (stepG.apply (alt Q β) true fr (cs++[D0]) none s w)).heap.size:=by
  unfold stepG.apply;simp only[if_true,hke,IT,if_false,hg.round];have h8:=hy w #[];have hi0:=hni;generalize s.runT (alt Q β) w #[]=x at h8 hi0 ⊢;obtain⟨r,es⟩:=x;cases r with
  |ok n w1=>
   have:=h8 n w1 es rfl;cases n;case value v=>exact IS _
   case skip=>exact IS _
   case enter f a=>exact IS _
   case defer d=>exact IS _
   case comm c b sh=>exact IS _
   case recover=>
    dsimp only;cases tryRecover fr (cs++[D0])with
    |none=>exact IS _
    |some x=>exact IS _
   all_goals exact this.elim
  |halt h w1=>
   cases h;case panic v=>exact IS _
   case goexit=>exact IS _
   case blocked=>exact IS _
   case waiting=>exact IS _
   case exit c=>exact IS _
   case throw m=>exact IS _
   case stuck m=>exact IS _
   case fatal m=>
    rw[fS];exact(qh _ _ _ _ _).1
   case unsupported u=>
    cases u;case initOrder g=>exact(hi0 _ _ _ rfl _ rfl).elim
    all_goals exact IS _
 by_cases hfoul:tj β (s.runT (alt Q β) w #[])
 ·obtain⟨f,args,w1,h1,h2,h3⟩:=hfoul;refine .inr (.inr (.inl ?_));unfold stepG.apply;simp only[if_true,hke,IT,if_false,hg.round];generalize s.runT (alt Q β) w #[]=x at h1 h3 ⊢;obtain⟨r,es⟩:=x;dsimp only at h1 h3;subst h1;dsimp only;split
  ·rename_i d r sv k heq;exact absurd heq (hg.dE.1 d true r sv k)
  ·exact⟨_,_,_,rfl,⟨f,args,.normal,rfl,h2,rfl,fun d hd=>by cases hd⟩,bg (aV h3) av⟩
 have hj:=hn' hfoul;have hS:=hs w w' #[] #[] hw hD av sX (kt hF hWsz);have h0:=fun(w1 w1':AT)=>sV (σ:=σ) (Ro:=Ro) (D:=D) hn hj (w:=w) (w':=w') (w1:=w1) (w1':=w1') hR
 have ha:=rS _ s hn w #[];have h8:=hy w #[];have hf:∀o t,fr.oper?=some o→o.dst=some t→(fr.fn,t)∈dt→∀n w1 es1,s.runT (alt Q β) w #[]=(.ok n w1,es1)→∃fn a b,n= .value (.func (.func fn) a b)∧dt.all (·.1 !=fn)=true:=fun o t h1 h2 h3=>hfin o t h1 h2 h3 w #[]
 unfold stepG.apply;simp only[if_true,hke,rY,oO,se,Cp,IT,if_false,hg.round];generalize s.runT (alt Q β) w #[]=x at hS h0 h8 hf hni hfoul ha ⊢;generalize s'.runT Q w' #[]=x' at hS h0 ⊢;obtain⟨r,es⟩:=x;obtain⟨r',es'⟩:=x';rcases hS with⟨hnb,hS⟩|hS|hS
 ·rcases hS with⟨n,w1,w1',h1,h2,h3,h4,h5⟩|⟨h,w1,w1',h1,h2,h3,h4,h5,h6⟩|⟨h,w1,h1,h2⟩
  ·dsimp only at h1 h2;subst h1 h2;have hW:iq σ Ro D w w' w1 w1' es':=h0 w1 w1' rfl rfl h3 h4 h5;have h7:iq σ Ro D w w' w1 w1' (seen Q fr.fn es'):=hW.less (lF _ _ _);have h9:=h8 n w1 es rfl;have hf1:=fun o t h1 h2 h3=>hf o t h1 h2 h3 n w1 es rfl
   have hto:∀fr2:By,fr2.kind=fr.kind→ck Q dt cl fr2→(∃g1 w1_1 es_1 g1' w1'_1 es'_1,PK (seen (alt Q β) fr.fn es) (.go {frame:=fr2,callers:=cs++[D0],status:=.running,dying:=none} w1)= .go g1 w1_1 es_1∧
    PK (seen Q fr.fn es') (.go {frame:=aH σ fr2,callers:=cs.map (aH σ)++rest,status:=.running,dying:=none} w1')= .go g1' w1'_1 es'_1∧mU σ rest g1 g1'∧ud Q D0 dt cl g1∧iq σ Ro D w w' w1_1 w1'_1 es'_1∧¬ Big (PK (seen (alt Q β) fr.fn es) (.go {frame:=fr2,callers:=cs++[D0],status:=.running,dying:=none} w1)).es):=fun fr2 hk2 h2=>
    ⟨{frame:=fr2,callers:=cs++[D0],status:=.running,dying:=none},_,_,_,_,_,rfl,rfl,fU,il h2 hcs (cL cs hk2 hbot),by rw[PZ];exact h7,bg (aV hnb) av⟩
   have hfk:∀v,(fr.finish v).kind=fr.kind:=fun v=>by unfold Q3;split <;>rfl
   cases n;case value v=>
    refine .inl ?_;have:=hto (fr.finish v) (hfk v) (hg.finish fun o t h1 h2 h3=>by
     obtain⟨f,a,b,e,he⟩:=hf1 o t h1 h2 h3;cases e;exact⟨fun fn a b e=>(by cases e;exact⟨_,rfl,he⟩),by simp⟩)
    rw[gG hg.dE.1 hg.dE.2]at this;exact this
   case skip=>
    refine .inl ?_;have:=hto (fr.finish undef) (hfk _) (hg.finish fun o t h1 h2 h3=>jT);rw[gG hg.dE.1 hg.dE.2,iC]at this;exact this
   case enter f args=>
    refine .inl ?_;have hh:β f=none:=by
     cases hb:β f with
     |none=>rfl
     |some c=>exact absurd ⟨f,args,w1,rfl,by rw[hb];rfl,hnb⟩ hfoul
    dsimp only[Ren.ren,pH];split
    ·rename_i d r sv k heq;exact absurd heq (hg.dE.1 d true r sv k)
    refine⟨{frame:=PU (alt Q β) f args .normal,callers:=(fr::cs)++[D0],status:=.running,dying:=none},_,_,{frame:=PU Q f (args.map (a7 σ)) .normal,callers:=(fr::cs).map (aH σ)++rest,status:=.running,dying:=none},_,_,rfl,rfl,?_,il (Ar G hh h9 args (.inl rfl)) (fun c hc=> ?_) ⟨fun _ o t h1 h2 h3=> ?_,hbot⟩,by rw[PZ];exact h7,bg (aV hnb) av⟩
    ·rw[← tX A hh args .normal];exact fU
    ·rcases Qg.1 hc with rfl|hc
     ·exact hg
     ·exact hcs c hc
    ·obtain⟨f,a,b,e,he⟩:=hf1 o t h1 h2 h3;cases e
   case defer d=>
    refine .inl ?_;have hd2:ck Q dt cl {fr with defers:=d::fr.defers,roundOf:=none}:=⟨rfl,hg.items,hg.regs,fun x hx=>(by
     rcases Qg.1 hx with rfl|hx
     ·exact h9
     ·exact hg.defs x hx),hg.kind,hg.init⟩
    have:=hto ({fr with defers:=d::fr.defers,roundOf:=none}.finish undef) (by unfold Q3;split <;>rfl) (hd2.finish fun o t h1 h2 h3=>jT);rw[gG hd2.dE.1 hd2.dE.2,iC]at this;exact this
   case comm c b sh=>
    refine .inr (.inl ⟨{frame:=fr,callers:=cs++[D0],status:=.running,dying:=none},_,_,_,_,_,{frame:=aH σ fr,callers:=cs.map (aH σ)++rest,status:=.running,dying:=none},_,_,rfl,rfl,h9,fU,il hg hcs hbot,fun o t h1 h2 h3=> ?_,by rw[PZ];exact h7,bg (aV hnb) av⟩);obtain⟨f,a,b,e,he⟩:=hf1 o t h1 h2 h3;cases e
   case recover=>
    refine .inl ?_;dsimp only;show∃g1 w1_1 es_1 g1' w1'_1 es'_1,PK _ (match tryRecover fr (cs++[D0])with |some (v,callers)=>_|none=>_)=_∧PK _ (match tryRecover (aH σ fr) (cs.map (aH σ)++rest)with |some (v,callers)=>_|none=>_)=_∧_;rw[wE hg hbot,uS hg hbot];cases hr:tryRecover fr cs with
    |none=>
     have:=hto (fr.finish .nilIface) (hfk _) (hg.finish fun o t h1 h2 h3=>by
      obtain⟨f,a,b,e,he⟩:=hf1 o t h1 h2 h3;cases e)
     rw[gG hg.dE.1 hg.dE.2,cw]at this;exact this
    |some x=>
     obtain⟨v,cs2⟩:=x;obtain⟨k1,k2⟩:=yh hcs hr hg.kind hbot;refine⟨{frame:=fr.finish v,callers:=cs2++[D0],status:=.running,dying:=none},_,_,{frame:=(aH σ fr).finish (a7 σ v),callers:=cs2.map (aH σ)++rest,status:=.running,dying:=none},_,_,rfl,rfl,?_,il (hg.finish fun o t h1 h2 h3=> ?_) k1 ?_,by rw[PZ];exact h7,bg (aV hnb) av⟩
     ·rw[← gG hg.dE.1 hg.dE.2 v];exact fU
     ·obtain⟨f,a,b,e,he⟩:=hf1 o t h1 h2 h3;cases e
     ·exact cL cs2 (hfk v) k2
   all_goals exact h9.elim
  ·dsimp only at h1 h3;subst h1 h3;have h7:iq σ Ro D w w' w1 w1' (seen Q fr.fn es'):=(h0 w1 w1' rfl rfl h4 h5 h6).less (lF _ _ _);have hto:∀fr2:By,fr2.kind=fr.kind→ck Q dt cl fr2→(∃g1 w1_1 es_1 g1' w1'_1 es'_1,PK (seen (alt Q β) fr.fn es) (.go {frame:=fr2,callers:=cs++[D0],status:=.running,dying:=none} w1)= .go g1 w1_1 es_1∧
    PK (seen Q fr.fn es') (.go {frame:=aH σ fr2,callers:=cs.map (aH σ)++rest,status:=.running,dying:=none} w1')= .go g1' w1'_1 es'_1∧mU σ rest g1 g1'∧ud Q D0 dt cl g1∧iq σ Ro D w w' w1_1 w1'_1 es'_1∧¬ Big (PK (seen (alt Q β) fr.fn es) (.go {frame:=fr2,callers:=cs++[D0],status:=.running,dying:=none} w1)).es):=fun fr2 hk2 h2=>
    ⟨{frame:=fr2,callers:=cs++[D0],status:=.running,dying:=none},_,_,_,_,_,rfl,rfl,fU,il h2 hcs (cL cs hk2 hbot),by rw[PZ];exact h7,bg (aV hnb) av⟩
   have hrk:∀vs,(fr.raise vs).kind=fr.kind:=fun v=>by unfold Qt;split <;>rfl
   have hplain:(∀v,h≠.panic v)→h≠.goexit→¬ Dead h→(∀g,h≠.unsupported (.initOrder g))→False:=fun q1 q2 q3 q4=>by
    rcases ha h w1 es rfl with(⟨v,e⟩|e|e)|⟨g,e,_⟩
    ·exact q1 v e
    ·exact q2 e
    ·exact q3 e
    ·exact q4 g e
   cases h;case panic v=>
    refine .inl ?_;have:=hto (fr.raise [{v,recovered:=false}]) (hrk _) (hg.raise _);rw[jn]at this;exact this
   case goexit=>
    refine .inl ?_;have:=hto (fr.raise [goexitEntry]) (hrk _) (hg.raise _);rw[jn,PV,rX]at this;exact this
   case exit c=>exact(hplain (by simp) (by simp) (by simp[Dead]) (by simp)).elim
   case throw m=>exact(hplain (by simp) (by simp) (by simp[Dead]) (by simp)).elim
   case fatal m=>exact(hplain (by simp) (by simp) (by simp[Dead]) (by simp)).elim
   case unsupported u=>
    cases u;case initOrder g=>exact(hni _ _ _ rfl _ rfl).elim
    all_goals exact absurd trivial h2
   all_goals exact absurd trivial h2
  ·dsimp only at h1;subst h1;refine .inr (.inr (.inr (.inr ?_)));have hnw:∀r,¬ Big (Nm r es):=fun r=>FZ hnb
   cases h;case blocked=>exact⟨.inl (by simp),bg (aV av) av⟩
   case waiting=>exact⟨.inl (by simp),bg (aV av) av⟩
   case stuck m=>exact⟨trivial,bg (aV hnb) av⟩
   case unsupported u=>
    cases u;case initOrder g=>exact h2.elim
    all_goals exact⟨trivial,bg (aV hnb) av⟩
   all_goals exact h2.elim
 ·exact absurd hS hfoul
 ·exact hS.2.1.elim
end
end
section
variable[aJ]
section
variable{Q:AS}{β:Nat→Option Code}{σ:Nat→Nat}{Ro:Nat→Prop}{D:Known}{dt:be}{cl:Bool}{D0:By}{rest:List By}
def g8(Q:AS)(fr:By)(x:PM):AI:=if LQ Q x then fr.eval x else undef
theorem y3(F:Fit Q σ)(fr:By)(x:PM):g8 Q (aH σ fr) x=a7 σ (g8 Q fr x):=by
 unfold g8;split
 ·rename_i h;refine J0 fr (fun v hv=> ?_) fun g hg=> ?_
  ·subst hv;exact vu h σ
  ·subst hg;exact F.low g (of_decide_eq_true h)
 ·rw[iC]
theorem BR{f:Nat}{o:Oper}(h:mN Q dt cl f o=true):∀cs b,o.op≠.select cs b:=fun cs b e=>by
 unfold mN iS ng at h;rw[e]at h;simp at h
theorem Aq{f:Nat}{o:Oper}(h:mN Q dt cl f o=true)(fr:By):PJ fr.eval o=PJ (g8 Q fr) o:=by
 refine execOp_congr o (BR h) fun x hx=> ?_
 unfold mN at h;rw[PD,QX]at h;obtain⟨i,hi,rfl⟩:=Re.1 hx;have:=h.2 i hi;unfold g8;rw[if_pos this]
def Hg(Q:AS)(D:Known)(fr:By):Prop:=(∀v∈fr.tmps,jC D v∧qn D v)∧∀g,g≤Q.globals.size→D g
theorem zN{v:AI}(h:qa v=true):jC D v∧qn D v:=by
 refine⟨fun a e=> ?_,fun a l c e=> ?_⟩
 ·subst e;cases h
 ·subst e;cases h
theorem tW{fr:By}(hK:Hg Q D fr)(x:PM):jC D (g8 Q fr x)∧qn D (g8 Q fr x):=by
 have hu:jC D undef∧qn D undef:=⟨fun a e=>by simp[undef]at e,fun a l c e=>by simp[undef]at e⟩;unfold g8;split
 ·rename_i h;cases x with
  |tmp t=>
   simp only[Qk,Q8];cases ht:fr.tmps[t]? with
   |none=>exact hu
   |some v=>exact hK.1 v (Array.mem_of_getElem? ht)
  |const v=>exact zN h
  |global g=>exact⟨fun a e=>by simp[Qk]at e;subst e;exact hK.2 g (of_decide_eq_true h),fun a l c e=>by simp[Qk]at e⟩
  |func f=>exact⟨fun a e=>by simp[Qk]at e,fun a l c e=>by simp[Qk]at e⟩
 ·exact hu
structure Env(Q:AS)(β:Nat→Option Code)(σ:Nat→Nat)(dt:be)(cl:Bool):Prop where
 apt:lw Q β
 nf:EM Q β
 prog:sP Q β dt cl
 fit:Fit Q σ
 tame:bw (alt Q β)
theorem vI{P:AS}{ρ:PM→AI}{o:Oper}{h:Nat}{a b:Array PM}(ho:o.op= .makeFunc (.func h) a b)(hd:dt.all (·.1 !=h)=true):YP P (fun n=>∃fn a b,n= .value (.func (.func fn) a b)∧dt.all (·.1 !=fn)=true) (PJ ρ o):=by
 unfold PJ;rw[ho];dsimp only;unfold QN;exact bW ⟨_,_,_,rfl,hd⟩
theorem vN{fr:By}{cs:List By}{w w':AT}(hg:ck Q dt cl fr)(hcs:∀c∈cs,ck Q dt cl c)(hbot:eu dt fr cs)(hw:ew σ Ro D w w')(hR:pj Ro w):
 eo Q β σ Ro D dt cl D0 rest w w' (.go {frame:=fr,callers:=cs++[D0],status:=.running,dying:=none} w) (.go {frame:=aH σ fr,callers:=cs.map (aH σ)++rest,status:=.running,dying:=none} w'):=
 .inl ⟨{frame:=fr,callers:=cs++[D0],status:=.running,dying:=none},_,_,_,_,_,rfl,rfl,fU,il hg hcs hbot,iq.refl hw hR,av⟩
theorem lK{x x':GStep}{w w':AT}(h:ti D0 x)(hb:x.es=#[]):eo Q β σ Ro D dt cl D0 rest w w' x x':=.inr (.inr (.inr (.inr ⟨h,by rw[hb];exact av⟩)))
theorem sq(P:AS)(fn id:Nat)(w:AT):(choose (.order fn id)).run P w= .ok (w.tape w.drawn (.order fn id)) {w with drawn:=w.drawn+1}:=by
 simp[choose,Sem.run,Question.forced,Question.cut]
theorem GL{w w':AT}(hw:ew σ Ro D w w')(hR:pj Ro w):iq σ Ro D w w' {w with drawn:=w.drawn+1} {w' with drawn:=w'.drawn+1} #[]:=
 ⟨⟨hw.inj,hw.tape,by show w'.drawn+1=w.drawn+1;rw[hw.drawn],hw.ro,hw.blk,hw.num,hw.os⟩,rfl,IS _,hR,fun b _ h=>absurd rfl h,fun e he=>(by simp at he),rfl,fun i o h=>.inr (.inr h)⟩
theorem Gz(A:lw Q β){ρ:PM→AI}(hf:∀f,ρ (.func f)= .func (.func f) #[] #[]){o:Oper}{c:Call}{g:Nat}{code:Code}{fn:Func}(ho:o.op= .call c)(hk:c.callee= .value (.func g))(hb:β g=some code)(hfn:Q.funcs[g]?=some fn)(w:AT):
 tj β ((PJ ρ o).runT (alt Q β) w #[]):=by
 have e:(PJ ρ o).runT (alt Q β) w #[]=(PL g (#[]++c.args.map ρ++ #[])).runT (alt Q β) w #[]:=by
  unfold PJ;rw[ho];dsimp only;unfold resolve;rw[hk];dsimp only;rw[hf];rfl
 rw[e];unfold PL;have e2:∀args,(do
  match(← program).funcs[g]? with
  |none=>stuck "call: no such function"
  |some fn=>
   if fn.name== "runtime.NumGoroutine" then pure .numGoroutine
   else if fn.body.isNone then
    mark (.extern g)
    if let some e:=QJ fn then return← e args
    match Qy fn with
    |some e=>pure (.value (← e args))
    |none=>
     if fn.name.endsWith ".init" && !fn.name.startsWith "(" && !fn.name.startsWith "gosem." then pure (.value (.tuple #[]))
     else unsupported (.extern fn.name)
   else pure (.enter g args):Sem Next).runT (alt Q β) w #[]=(.ok (.enter g args) w,#[]):=fun args=>by
  rw[aN];show(match(alt Q β).funcs[g]? with
   |none=>stuck "call: no such function"
   |some fn=>_:Sem Next).runT (alt Q β) w #[]=_
  rw[fN,hfn];dsimp only[If];rw[jo,A.num g fn hfn,if_neg IN];have e:(aw β g fn).body.isNone=false:=by unfold aw;rw[hb];rfl
  rw[e,if_neg IN];rfl
 exact⟨g,_,w,congrArg Prod.fst (e2 _),by rw[hb];rfl,av⟩
theorem Ii(E:Env Q β σ dt cl){fr:By}{cs:List By}{w w':AT}(hg:ck Q dt cl fr)(hcs:∀c∈cs,ck Q dt cl c)(hbot:eu dt fr cs)(hK:Hg Q D fr)(hH:am w)
 (hw:ew σ Ro D w w') (hD:Dom D w) (hR:pj Ro w) (hF:gd σ w w' (stepW (stepG.oper (alt Q β) true fr (cs++[D0]) none w)).heap.size):
 eo Q β σ Ro D dt cl D0 rest w w' (stepG.oper (alt Q β) true fr (cs++[D0]) none w) (stepG.oper Q true (aH σ fr) (cs.map (aH σ)++rest) none w'):=by
 unfold stepG.oper at hF ⊢;rw[Ij];cases ho:fr.oper? with
 |none=>exact lK trivial rfl
 |some o=>
  rw[ho]at hF;dsimp only at hF ⊢;have hop:mN Q dt cl fr.fn o=true:=by
   unfold Frame.oper? at ho;split at ho
   ·rename_i ops i is k heq;exact hg.items (.inRegion ops (i::is)) (by rw[heq];exact .head _) i (.head _) o ho
   ·cases ho
  have hsim:iS Q dt cl fr.fn o=true:=by
   unfold mN at hop;rw[PD]at hop;exact hop.1
  have hround:(aH σ fr).roundOf=none:=hg.round;have key:stepG.apply (alt Q β) true fr (cs++[D0]) none (PJ fr.eval o) w=stepG.apply (alt Q β) true fr (cs++[D0]) none (PJ (g8 Q fr) o) w:=by rw[Aq hop]
  have key':stepG.apply Q true (aH σ fr) (cs.map (aH σ)++rest) none (PJ (aH σ fr).eval o) w'=stepG.apply Q true (aH σ fr) (cs.map (aH σ)++rest) none (PJ (g8 Q (aH σ fr)) o) w':=by rw[Aq hop]
  have hρ:∀x,g8 Q (aH σ fr) x=a7 σ (g8 Q fr x):=y3 E.fit fr;have hf:∀fr:By,∀f,g8 Q fr (.func f)= .func (.func f) #[] #[]:=fun fr f=>rfl
  have hreg:∀t,(fr.fn,t)∈dt→qZ dt (g8 Q fr (.tmp t)):=fun t ht=>hg.regs t ht
  have hmain:eo Q β σ Ro D dt cl D0 rest w w' (stepG.apply (alt Q β) true fr (cs++[D0]) none (PJ (g8 Q fr) o) w) (stepG.apply Q true (aH σ fr) (cs.map (aH σ)++rest) none (PJ (g8 Q (aH σ fr)) o) w'):=by
   have hF2:gd σ w w' (stepW (stepG.apply (alt Q β) true fr (cs++[D0]) none (PJ (g8 Q fr) o) w)).heap.size:=by
    rw[← key];rw[hg.round]at hF;exact hF
   refine GZ E.apt E.prog hg hcs hbot (Kl E.apt E.fit hρ ⟨rfl,rfl⟩ (hf fr) (fun x=>(tW hK x).1) (fun x=>(tW hK x).2) hsim) (KG E.apt (hf fr) (fun t ht=>(hreg t ht).1) (fun t ht=>(hreg t ht).2) hsim) ?_ ?_ ?_ hw hD hR hF2
   ·exact(G1 (P:=alt Q β) (fun t=>rfl) (hf fr) hsim fun g c _ _ args=>vF E.apt E.nf g args).nf
   ·intro hfoul;refine(G1 (P:=Q) (fun t=>rfl) (hf _) hsim fun g c hc hk args=> ?_).nf;cases hb:β g with
    |none=>exact tS E.apt E.nf g hb args
    |some code=>
     cases hfn:Q.funcs[g]? with
     |none=>
      refine⟨?_⟩;show bF Q (match Q.funcs[g]? with |none=>_|some fn=>_);rw[hfn];exact .inr (.inr trivial)
     |some fn=>exact absurd (Gz E.apt (hf fr) hc hk hb hfn w) hfoul
   ·intro o' t h1 h2 h3;rw[ho]at h1;cases h1;have h4:=hsim;unfold iS at h4;rw[PD]at h4;have h5:=h4.2;rw[h2]at h5;dsimp only at h5;have h6:dt.contains (fr.fn,t)=true:=by simpa using h3
    rw[h6]at h5;cases h0:o.op;case makeFunc fn a b=>
     rw[h0]at h5;cases fn;case func h=>exact vI h0 (by simpa using h5)
     all_goals(simp at h5)
    all_goals(rw[h0]at h5;simp at h5)
  split
  ·rename_i l c h1 h2;rw[hg.round]at h1;cases h1
  ·split
   ·rename_i l c h1 h2;rw[hround]at h1;cases h1
   ·rw[key,key'];exact hmain
end
end
section
variable[aJ]
section
variable{Q:AS}{β:Nat→Option Code}{σ:Nat→Nat}{Ro:Nat→Prop}{D:Known}{dt:be}{cl:Bool}{D0:By}{rest:List By}
theorem IX(E:Env Q β σ dt cl){fr:By}{cs:List By}{w w':AT}(m m':Bool)(hg:ck Q dt cl fr)(hcs:∀c∈cs,ck Q dt cl c)(hbot:eu dt fr cs)(hK:Hg Q D fr)(hH:am w)
 (hw:ew σ Ro D w w') (hD:Dom D w) (hR:pj Ro w) (hF:gd σ w w' (stepW (stepG.exec (alt Q β) m true fr (cs++[D0]) none w)).heap.size):
 eo Q β σ Ro D dt cl D0 rest w w' (stepG.exec (alt Q β) m true fr (cs++[D0]) none w) (stepG.exec Q m' true (aH σ fr) (cs.map (aH σ)++rest) none w'):=by
 obtain⟨fn,tmps,todo,defers,mode,kind,roundOf⟩:=fr;obtain rfl:roundOf=none:=hg.round;have hto:∀t:List Item,(∀i∈t,g7 Q dt cl fn i)→eo Q β σ Ro D dt cl D0 rest w w' (.go {frame:=({fn,tmps,todo:=t,defers,mode,kind,roundOf:=none}:By),callers:=cs++[D0],status:=.running,dying:=none} w) (.go {frame:=aH σ {fn,tmps,todo:=t,defers,mode,kind,roundOf:=none},callers:=cs.map (aH σ)++rest,status:=.running,dying:=none} w'):=fun t ht=>
  vN (hg.todo ht) hcs (cL (fr:= {fn,tmps,todo,defers,mode,kind,roundOf:=none}) cs rfl hbot) hw hR
 have hret:eo Q β σ Ro D dt cl D0 rest w w' (.go {frame:=({fn,tmps,todo,defers,mode:=.returning,kind,roundOf:=none}:By),callers:=cs++[D0],status:=.running,dying:=none} w) (.go {frame:=aH σ {fn,tmps,todo,defers,mode:=.returning,kind,roundOf:=none},callers:=cs.map (aH σ)++rest,status:=.running,dying:=none} w'):=
  vN (hg.mode .returning) hcs (cL (fr:= {fn,tmps,todo,defers,mode,kind,roundOf:=none}) cs rfl hbot) hw hR
 have hitem:∀it k,todo=it::k→g7 Q dt cl fn it∧∀i∈k,g7 Q dt cl fn i:=fun it k h=>by
  subst h;exact⟨hg.items it (.head _),fun i hi=>hg.items i (.tail _ hi)⟩
 have hcons:∀(i:Item)(k:List Item),g7 Q dt cl fn i→(∀i∈k,g7 Q dt cl fn i)→∀j∈i::k,g7 Q dt cl fn j:=fun i k h1 h2 j hj=>by
  rcases Qg.1 hj with rfl|hj
  ·exact h1
  ·exact h2 j hj
 unfold stepG.exec at hF ⊢;dsimp only[rY,se]at hF ⊢;cases todo with
 |nil=>exact hret
 |cons it k=>
  obtain⟨hi,hk⟩:=hitem it k rfl;cases it with
  |code c=>
   cases c with
   |ret=>exact hret
   |skip=>exact hto k hk
   |label l=>exact hto k hk
   |seq a b=>
    have hi:codeOk Q dt cl fn (.seq a b)=true:=hi;unfold codeOk at hi;rw[PD]at hi;exact hto _ (hcons _ _ hi.1 (hcons _ _ hi.2 hk))
   |cond c a b=>
    have hi:codeOk Q dt cl fn (.cond c a b)=true:=hi;unfold codeOk at hi;rw[PD,PD]at hi;have he:(aH σ ({fn:=fn,tmps:=tmps,todo:=.code (.cond c a b)::k,defers:=defers,mode:=mode,kind:=kind,roundOf:=none}:By)).eval c=a7 σ (({fn:=fn,tmps:=tmps,todo:=.code (.cond c a b)::k,defers:=defers,mode:=mode,kind:=kind,roundOf:=none}:By).eval c):=by
     have:=y3 E.fit ({fn:=fn,tmps:=tmps,todo:=.code (.cond c a b)::k,defers:=defers,mode:=mode,kind:=kind,roundOf:=none}:By) c;unfold g8 at this;rw[if_pos hi.1,if_pos hi.1]at this;exact this
    dsimp only;rw[he];cases({fn:=fn,tmps:=tmps,todo:=.code (.cond c a b)::k,defers:=defers,mode:=mode,kind:=kind,roundOf:=none}:By).eval c;case bool v=>
     rw[eN];cases v
     ·exact hto _ (hcons _ _ hi.2.2 hk)
     ·exact hto _ (hcons _ _ hi.2.1 hk)
    all_goals exact lK trivial rfl
   |block id body=>exact hto _ (hcons _ _ hi (hcons _ _ trivial hk))
   |loop body=>exact hto _ (hcons _ _ hi (hcons _ _ hi hk))
   |scope body=>exact hto _ (hcons _ _ hi (hcons _ _ hi hk))
   |exit id=>
    dsimp only;cases he:exitTo id k with
    |some t=>exact hto t (pO id k t hk he)
    |none=>
     exact lK trivial rfl
   |goto l=>
    dsimp only;cases he:gotoIn l k with
    |some t=>exact hto t (pN l k t hk he)
    |none=>
     exact lK trivial rfl
   |rangeFunc f params a b=>
    have hi:codeOk Q dt cl fn (.rangeFunc f params a b)=true:=hi;cases hi
   |refuse why=>exact lK trivial rfl
   |region id ops draw=>
    have hi:ops.all (mN Q dt cl fn ·)=true:=hi;dsimp only;cases draw with
    |false=>exact hto _ (hcons _ _ (pK hi _) hk)
    |true=>
     simp only[Bool.not_true,IT,if_false];rw[sq,sq];dsimp only;have e:w'.tape w'.drawn (.order fn id)=w.tape w.drawn (.order fn id):=by rw[hw.tape,hw.drawn]
     have e2:w'.tape w'.drawn (.order (aH σ {fn,tmps,todo:=.code (.region id ops true)::k,defers,mode,kind,roundOf:=none}).fn id)=w.tape w.drawn (.order fn id):=e;rw[e2];have:=GL hw hR;exact .inl ⟨{frame:= {fn,tmps,todo:=_,defers,mode,kind,roundOf:=none},callers:=cs++[D0],status:=.running,dying:=none},_,_,_,_,_,rfl,rfl,fU,il (hg.todo (hcons _ _ (pK hi _) hk)) hcs (cL (fr:= {fn,tmps,todo:=.code (.region id ops true)::k,defers,mode,kind,roundOf:=none}) cs rfl hbot),this,av⟩
  |inBlock id=>exact hto k hk
  |inScope c=>exact hto k hk
  |inLoop body=>exact hto _ (hcons _ _ hi (hcons _ _ hi hk))
  |inRegion ops todo=>
   cases todo with
   |nil=>exact hto k hk
   |cons i is=>
    dsimp only at hF ⊢;have h0:(((ops[i]?).map (Qz · (yielded ops (aH σ {fn,tmps,todo:=.inRegion ops (i::is)::k,defers,mode,kind,roundOf:=none}).tmps))).getD false)=(((ops[i]?).map (Qz · (yielded ops tmps))).getD false):=by
     have:yielded ops (aH σ {fn,tmps,todo:=.inRegion ops (i::is)::k,defers,mode,kind,roundOf:=none}).tmps=yielded ops tmps:=funext fun j=>Bb ops tmps j
     rw[this]
    by_cases hb:((ops[i]?).map (Qz · (yielded ops tmps))).getD false=true
    ·have hb':=h0.trans hb;rw[if_pos hb]at hF;rw[if_pos hb,if_pos hb'];exact Ii E hg hcs hbot hK hH hw hD hR hF
    ·have hb':¬ ((ops[i]?).map (Qz · (yielded ops (aH σ {fn,tmps,todo:=.inRegion ops (i::is)::k,defers,mode,kind,roundOf:=none}).tmps))).getD false=true:=fun h=>hb (h0.symm.trans h)
     rw[if_neg hb,if_neg hb'];have:=vN (D0:=D0) (Q:=Q) (β:=β) (σ:=σ) (Ro:=Ro) (D:=D) (rest:=rest) (fr:=Q3 {fn:=fn,tmps:=tmps,todo:=.inRegion ops (i::is)::k,defers:=defers,mode:=mode,kind:=kind,roundOf:=none} undef) (cs:=cs) (w:=w) (w':=w') (hg.finish fun o t h1 h2 h3=>jT) hcs (cL cs (by unfold Q3;rfl) hbot) hw hR;rw[gG hg.dE.1 hg.dE.2,iC]at this;exact this
  |inRangeFunc l=>exact hi.elim
  |endRangeFunc l=>exact hi.elim
  |beginRound=>exact hi.elim
  |call d a b c=>exact hi.elim
  |extern r a=>exact hi.elim
end
end
section
variable[aJ]
section
variable{Q:AS}{β:Nat→Option Code}{σ:Nat→Nat}{Ro:Nat→Prop}{D:Known}{dt:be}{cl:Bool}{D0:By}{rest:List By}
def AtClose(g:Q4):Prop:=(∀h:g.frame.mode= .run,False)∧∃d ds a t c r,g.frame.defers=d::ds∧d.target= .builtin .close a t c∧d.args=#[.chan (some r)]
theorem Br(F:Fit Q σ)(fn:Func)(tmps:Array AI):au Q β σ Ro D (results fn tmps) (results fn (tmps.map (a7 σ))):=by
 unfold results;have hget:∀t,(tmps.map (a7 σ)).getD t undef=a7 σ (tmps.getD t undef):=fun t=>by
  simp only[Q8,PO];cases tmps[t]? <;>simp
 refine aj (α:=Array AI) (zo (fun x=> ?_) fn.results) fun vs=>a8 ?_
 ·cases x with
  |tmp t=>
   dsimp only;rw[hget];exact a8 rfl
  |cell a t=>
   dsimp only;rw[hget];exact aj (Dd F _) fun x=>tK t x
 ·rw[Co];by_cases h:vs.size=1
  ·rw[dif_pos h,dif_pos (by simpa using h)];simp[Ren.ren]
  ·rw[dif_neg h,dif_neg (by simpa using h)];simp[Ren.ren]
theorem vD{P:AS}(fn:Func)(tmps:Array AI):Nf P (results fn tmps):=by
 unfold results;refine @dk _ _ _ _ _ (@KL _ _ _ _ (fun x=> ?_) _) fun vs=>fW
 cases x with
 |tmp t=>exact fW
 |cell a t=>exact @dk _ _ _ _ _ zq2 fun x=>zq2
theorem BK(f:Nat)(fn:Func)(tmps:Array AI):results (aw β f fn) tmps=results fn tmps:=by
 unfold results aw;split <;>rfl
theorem ru:∀l:List PanicEntry,(l.map (jG σ)).dropWhile (!·.goexit)=(l.dropWhile (!·.goexit)).map (jG σ)
 |[]=>rfl
 |x::l=>by
  rw[PV,List.dropWhile_cons,List.dropWhile_cons];have:(jG σ x).goexit=x.goexit:=rfl;rw[this];split
  ·exact ru l
  ·rfl
theorem sI(h4:B7 D0){fr:By}{cs:List By}{w w' w1 w1':AT}{es es':Array No}(m m':Bool)(hg:ck Q dt cl fr)(hcs:∀c∈cs,ck Q dt cl c)(hbot:eu dt fr cs)(v:AI)(hW:iq σ Ro D w w' w1 w1' es')(hb:¬ Big es):
 eo Q β σ Ro D dt cl D0 rest w w' (PK es (doReturn (alt Q β) m fr (cs++[D0]) none v w1)) (PK es' (doReturn Q m' (aH σ fr) (cs.map (aH σ)++rest) none (a7 σ v) w1')):=by
 cases cs with
 |nil=>
  have hk:fr.kind= .normal:=hbot;refine .inr (.inr (.inr (.inr ?_)));unfold doReturn;dsimp only;rw[RP,hk];dsimp only;have hfin:D0.finish v=D0:=by
   obtain⟨why,h⟩:=h4.todo;unfold Q3;rw[h]
  rw[hfin];exact⟨.inr ⟨rfl,rfl,rfl,.inl rfl⟩,bg hb av⟩
 |cons c cs=>
  have hc:=hcs c (.head _);have h0:∀x∈cs,ck Q dt cl x:=fun x hx=>hcs x (.tail _ hx)
  have hto:∀fr2:By,fr2.kind=c.kind→ck Q dt cl fr2→eo Q β σ Ro D dt cl D0 rest w w' (PK es (.go {frame:=fr2,callers:=cs++[D0],status:=.running,dying:=none} w1)) (PK es' (.go {frame:=aH σ fr2,callers:=cs.map (aH σ)++rest,status:=.running,dying:=none} w1')):=fun fr2 hk2 h2=>
   .inl ⟨{frame:=fr2,callers:=cs++[D0],status:=.running,dying:=none},_,_,_,_,_,rfl,rfl,fU,il h2 h0 (cL cs hk2 hbot.2),by rw[PZ];exact hW,bg hb av⟩
  rw[PV,Qo,Qo];unfold doReturn;dsimp only;rw[oO];rcases hg.kind with hk|hk
  ·rw[hk];have:=hto (c.finish v) (by unfold Q3;split <;>rfl) (hc.finish fun o t h1 h2 h3=>absurd h3 (hbot.1 hk o t h1 h2));rw[gG hc.dE.1 hc.dE.2]at this;exact this
  ·rw[hk];dsimp only;rw[fv];cases hm:c.mode with
   |run=>exact hto c rfl hc
   |returning=>exact hto c rfl hc
   |panicking chain=>
    cases chain with
    |nil=>exact hto c rfl hc
    |cons e older=>
     obtain⟨ev,er,eg⟩:=e;cases er with
     |false=>exact hto c rfl hc
     |true=>
      have e1:lG σ (.panicking (⟨ev,true,eg⟩::older))= .panicking (⟨a7 σ ev,true,eg⟩::older.map (jG σ)):=rfl;rw[e1];dsimp only;rw[ru];cases hd:older.dropWhile (!·.goexit)with
      |nil=>exact hto {c with mode:=.returning} rfl (hc.mode _)
      |cons x l=>exact hto {c with mode:=.panicking (x::l)} rfl (hc.mode _)
theorem rC(A:lw Q β)(f:Q9)(args:Array AI):YP (alt Q β) (fun n=>(∃v,n= .value v)∨n= .enter f args) (PL f args):=by
 unfold PL;refine uM ?_;rw[fN];cases hf:Q.funcs[f]? with
 |none=>exact fH
 |some fn=>
  dsimp only[If];rw[jo,A.num f fn hf,if_neg IN];cases hb:β f with
  |some c=>
   have e:(aw β f fn).body.isNone=false:=by unfold aw;rw[hb];rfl
   rw[e,if_neg IN];exact bW (.inr rfl)
  |none=>
   have e:aw β f fn=fn:=by unfold aw;rw[hb]
   rw[e];cases hn:fn.body.isNone with
   |false=>
    rw[if_neg IN];exact bW (.inr rfl)
   |true=>
    rw[if_pos rfl];obtain⟨h1,ex,h2,h3⟩:=A.lib f fn hf hb hn;rw[h1,h2];exact cS fun _=>cS fun v=>bW (.inl ⟨v,rfl⟩)
section
variable{P:AS}{fr:By}{cs:List By}{f:Nat}{args cap:Array AI}{w w1:AT}{es:Array No}{D0:By}
theorem uE{v:AI}(h:(PL f (args++cap)).runT P w #[]=(.ok (.value v) w1,es)):PG P fr cs none ⟨.fn (.func f) cap,args⟩ w=PK (seen P fr.fn es) (.go {frame:=fr,callers:=cs,status:=.running,dying:=none} w1):=by
 have e:(invoke (.fn (.func f) cap) args).runT P w #[]=(.ok (.value v) w1,es):=h;unfold PG;simp only[Qd,IT,if_false,e]
theorem ow{g:Nat}{a:Array AI}(h:(PL f (args++cap)).runT P w #[]=(.ok (.enter g a) w1,es)):PG P fr cs none ⟨.fn (.func f) cap,args⟩ w=PK (seen P fr.fn es) (.go {frame:=PU P g a .deferred,callers:=fr::cs,status:=.running,dying:=none} w1):=by
 have e:(invoke (.fn (.func f) cap) args).runT P w #[]=(.ok (.enter g a) w1,es):=h;unfold PG;simp only[Qd,IT,if_false,e]
theorem uF{v:AI}(h:(PL f (args++cap)).runT P w #[]=(.halt (.panic v) w1,es)):PG P fr cs none ⟨.fn (.func f) cap,args⟩ w=PK (seen P fr.fn es) (.go {frame:=fr.raise [{v,recovered:=false}],callers:=cs,status:=.running,dying:=none} w1):=by
 have e:(invoke (.fn (.func f) cap) args).runT P w #[]=(.halt (.panic v) w1,es):=h;unfold PG;simp only[Qd,IT,if_false,e]
theorem sK(h:(PL f (args++cap)).runT P w #[]=(.halt .goexit w1,es)):PG P fr cs none ⟨.fn (.func f) cap,args⟩ w=PK (seen P fr.fn es) (.go {frame:=fr.raise [goexitEntry],callers:=cs,status:=.running,dying:=none} w1):=by
 have e:(invoke (.fn (.func f) cap) args).runT P w #[]=(.halt .goexit w1,es):=h;unfold PG;simp only[Qd,IT,if_false,e]
theorem Lf{h:Halt}(hr:(PL f (args++cap)).runT P w #[]=(.halt h w1,es))(h1:Dead h)(hb:¬ Big es∨h= .blocked∨h= .waiting):ti D0 (PG P fr cs none ⟨.fn (.func f) cap,args⟩ w)∧¬ Big (PG P fr cs none ⟨.fn (.func f) cap,args⟩ w).es:=by
 have e:(invoke (.fn (.func f) cap) args).runT P w #[]=(.halt h w1,es):=hr;unfold PG;simp only[Qd,IT,if_false,e];have hb2:(h≠.blocked∧h≠.waiting)→¬ Big es:=fun hh=>by
  rcases hb with hb|hb|hb
  ·exact hb
  ·exact absurd hb hh.1
  ·exact absurd hb hh.2
 cases h;case blocked=>exact⟨.inl (by simp),bg (aV av) av⟩
 case waiting=>exact⟨.inl (by simp),bg (aV av) av⟩
 case stuck m=>exact⟨trivial,bg (aV (hb2 ⟨by simp,by simp⟩)) av⟩
 case unsupported u=>exact⟨trivial,bg (aV (hb2 ⟨by simp,by simp⟩)) av⟩
 all_goals exact h1.elim
end
theorem Le{P:AS}{fr:By}{cs:List By}{f:Nat}{args cap:Array AI}{w w1:AT}{es:Array No}{r:Result Next}(hr:(PL f (args++cap)).runT P w #[]=(r,es))(hy:(∃h,r= .halt h w1)):w1.heap.size≤(stepW (PG P fr cs none ⟨.fn (.func f) cap,args⟩ w)).heap.size:=by
 obtain⟨h,rfl⟩:=hy;have e:(invoke (.fn (.func f) cap) args).runT P w #[]=(.halt h w1,es):=hr;unfold PG;simp only[Qd,IT,if_false,e];rw[fS];cases h;case fatal m=>exact(qh P fr cs m w1).1
 all_goals exact IS _
theorem Md(E:Env Q β σ dt cl){fr:By}{cs:List By}{w w':AT}{f:Nat}{args cap:Array AI}(hg:ck Q dt cl fr)(hcs:∀c∈cs,ck Q dt cl c)(hbot:eu dt fr cs)(hH:am w)
 (hdf:dt.all (·.1 !=f)=true) (hw:ew σ Ro D w w') (hD:Dom D w) (hR:pj Ro w) (hF:gd σ w w' (stepW (PG (alt Q β) fr (cs++[D0]) none ⟨.fn (.func f) cap,args⟩ w)).heap.size):
 eo Q β σ Ro D dt cl D0 rest w w' (PG (alt Q β) fr (cs++[D0]) none ⟨.fn (.func f) cap,args⟩ w) (PG Q (aH σ fr) (cs.map (aH σ)++rest) none ⟨.fn (.func f) (cap.map (a7 σ)),args.map (a7 σ)⟩ w'):=by
 have hs:=rh (Ro:=Ro) (D:=D) (cl:=cl) E.apt E.fit f (args++cap);have hy:=rC E.apt f (args++cap) w #[];have hn:=(vF E.apt E.nf f (args++cap)).nf;rw[Qs]at hs;by_cases hfoul:tj β ((PL f (args++cap)).runT (alt Q β) w #[])
 ·obtain⟨g,a,w1,h1,h2,h8⟩:=hfoul;refine .inr (.inr (.inl ?_));cases hx:(PL f (args++cap)).runT (alt Q β) w #[]with
  |mk r es=>
   rw[hx]at h1 h8;dsimp only at h1 h8;subst h1;rw[ow hx];exact⟨_,_,_,rfl,⟨g,a,.deferred,rfl,h2,rfl,fun d hd=>by cases hd⟩,bg (aV h8) av⟩
 have hn':bF Q (PL f (args.map (a7 σ)++cap.map (a7 σ))):=by
  cases hb:β f with
  |none=>exact(tS E.apt E.nf f hb _).nf
  |some code=>
   cases hfn:Q.funcs[f]? with
   |none=>
    show bF Q (match Q.funcs[f]? with |none=>_|some fn=>_);rw[hfn];exact .inr (.inr trivial)
   |some fn=>
    exfalso;apply hfoul;have e2:∀args,(PL f args).runT (alt Q β) w #[]=(.ok (.enter f args) w,#[]):=fun args=>by
     unfold PL;rw[aN];show(match(alt Q β).funcs[f]? with
      |none=>stuck "call: no such function"
      |some fn=>_:Sem Next).runT (alt Q β) w #[]=_
     rw[fN,hfn];dsimp only[If];rw[jo,E.apt.num f fn hfn,if_neg IN];have e:(aw β f fn).body.isNone=false:=by unfold aw;rw[hb];rfl
     rw[e,if_neg IN];rfl
    exact⟨f,_,w,congrArg Prod.fst (e2 _),by rw[hb];rfl,av⟩
 have hto:∀(es es':Array No)(w1 w1':AT)(fr2:By),fr2.kind=fr.kind→ck Q dt cl fr2→iq σ Ro D w w' w1 w1' es'→¬ Big es→eo Q β σ Ro D dt cl D0 rest w w' (PK (seen (alt Q β) fr.fn es) (.go {frame:=fr2,callers:=cs++[D0],status:=.running,dying:=none} w1)) (PK (seen Q fr.fn es') (.go {frame:=aH σ fr2,callers:=cs.map (aH σ)++rest,status:=.running,dying:=none} w1')):=fun es es' w1 w1' fr2 hk2 h2 hW hnb=>
  .inl ⟨{frame:=fr2,callers:=cs++[D0],status:=.running,dying:=none},_,_,_,_,_,rfl,rfl,fU,il h2 hcs (cL cs hk2 hbot),by rw[PZ];exact hW.less (lF _ _ _),bg (aV hnb) av⟩
 cases hx:(PL f (args++cap)).runT (alt Q β) w #[]with
 |mk r es=>
 cases hx':(PL f (args.map (a7 σ)++cap.map (a7 σ))).runT Q w' #[]with
 |mk r' es'=>
 have h7:=fun(w1 w1':AT)=>sV (σ:=σ) (Ro:=Ro) (D:=D) hn hn' (w:=w) (w':=w') (w1:=w1) (w1':=w1') hR
 rw[hx,hx']at h7;have hsim:gd σ w w' (di r).heap.size→B9 σ Ro D w w' (r,es) (r',es')∨tj β (r,es)∨(cl=false∧Big es∧Big es'∧AR r'):=fun h=>by
  have:=hs w w' #[] #[] hw hD av sX (by rw[hx];exact h);rw[hx,hx']at this;exact this
 rw[hx]at hfoul hy;have hbig:cl=false→Big es→Big es'→AR r'→eo Q β σ Ro D dt cl D0 rest w w' (PG (alt Q β) fr (cs++[D0]) none ⟨.fn (.func f) cap,args⟩ w) (PG Q (aH σ fr) (cs.map (aH σ)++rest) none ⟨.fn (.func f) (cap.map (a7 σ)),args.map (a7 σ)⟩ w'):=fun _ k1 _ _=>k1.elim
 cases r with
 |ok n w1=>
  rcases hy n w1 es rfl with⟨v,rfl⟩|rfl
  ·rw[uE hx,fS]at hF;rcases hsim hF with⟨hnb,hS⟩|h|⟨hcl,k1,k2,k3⟩
   ·rcases hS with⟨n,v1,v1',h1,h2,h3,h4,h5⟩|⟨h,v1,v1',h1,_⟩|⟨h,v1,h1,_⟩
    ·dsimp only at h1 h2;cases h1;subst h2;rw[uE hx,uE hx'];exact hto es es' w1 v1' fr rfl hg (h7 w1 v1' rfl rfl h3 h4 h5) hnb
    ·cases h1
    ·cases h1
   ·exact absurd h hfoul
   ·exact hbig hcl k1 k2 k3
  ·rw[ow hx,fS]at hF;rcases hsim hF with⟨hnb,hS⟩|h|⟨hcl,k1,k2,k3⟩
   ·rcases hS with⟨n,v1,v1',h1,h2,h3,h4,h5⟩|⟨h,v1,v1',h1,_⟩|⟨h,v1,h1,_⟩
    ·dsimp only at h1 h2;cases h1;subst h2;rw[ow hx,ow hx'];have ha:β f=none:=by
      cases hb:β f with
      |none=>rfl
      |some c=>exact absurd ⟨f,_,w1,rfl,by rw[hb];rfl,hnb⟩ hfoul
     refine .inl ⟨{frame:=PU (alt Q β) f (args++cap) .deferred,callers:=(fr::cs)++[D0],status:=.running,dying:=none},_,_,{frame:=PU Q f ((args++cap).map (a7 σ)) .deferred,callers:=(fr::cs).map (aH σ)++rest,status:=.running,dying:=none},_,_,rfl,rfl,?_,il (Ar E.prog ha hdf _ (.inr rfl)) (fun c hc=> ?_) ⟨fun hk=>(by cases hk),hbot⟩,by rw[PZ];exact(h7 w1 v1' rfl rfl h3 h4 h5).less (lF _ _ _),bg (aV hnb) av⟩
     ·rw[← tX E.apt ha _ .deferred];exact fU
     ·rcases Qg.1 hc with rfl|hc
      ·exact hg
      ·exact hcs c hc
    ·cases h1
    ·cases h1
   ·exact absurd h hfoul
   ·exact hbig hcl k1 k2 k3
 |halt h w1=>
  by_cases hp:(∃v,h= .panic v)∨h= .goexit
  ·have hF2:gd σ w w' w1.heap.size:=by
    rcases hp with⟨v,rfl⟩|rfl
    ·rw[uF hx,fS]at hF;exact hF
    ·rw[sK hx,fS]at hF;exact hF
   have hrk:∀vs,(fr.raise vs).kind=fr.kind:=fun v=>by unfold Qt;split <;>rfl
   rcases hsim hF2 with⟨hnb,hS⟩|hh|⟨hcl,k1,k2,k3⟩
   ·rcases hS with⟨n,v1,v1',h1,_⟩|⟨h0,v1,v1',h1,h2,h3,h4,h5,h6⟩|⟨h0,v1,h1,h2⟩
    ·cases h1
    ·dsimp only at h1 h3;cases h1;subst h3;have hW:=h7 w1 v1' rfl rfl h4 h5 h6;rcases hp with⟨v,rfl⟩|rfl
     ·rw[uF hx,uF (by rw[hx'];rfl)];have:=hto es es' w1 v1' (fr.raise [{v,recovered:=false}]) (hrk _) (hg.raise _) hW hnb;rw[jn]at this;exact this
     ·rw[sK hx,sK (by rw[hx'];rfl)];have:=hto es es' w1 v1' (fr.raise [goexitEntry]) (hrk _) (hg.raise _) hW hnb;rw[jn,PV,rX]at this;exact this
    ·dsimp only at h1;cases h1;rcases hp with⟨v,rfl⟩|rfl<;>exact h2.elim
   ·exact absurd hh hfoul
   ·exact hbig hcl k1 k2 k3
  ·have h9:Dead h:=by
    rcases rS _ _ hn w #[] h w1 es hx with(⟨v,e⟩|e|e)|⟨g,e,_⟩
    ·exact absurd (.inl ⟨v,e⟩) hp
    ·exact absurd (.inr e) hp
    ·exact e
    ·exfalso;subst e;exact Cv hn (fun i c t hi=>hw.blk i _ hi) hx
   have hF2:gd σ w w' w1.heap.size:=by
    refine kt hF ?_;exact Le hx ⟨_,rfl⟩
   rcases hsim hF2 with⟨hnb,hS⟩|hh|⟨hcl,k1,k2,k3⟩
   ·exact .inr (.inr (.inr (.inr (Lf hx h9 (.inl hnb)))))
   ·exact absurd hh hfoul
   ·exact hbig hcl k1 k2 k3
theorem C9{args:Array AI}(h1:args≠#[.chan none])(h2:∀r,args≠#[.chan (some r)])(a:Array BY)(t:BY):QO a t args=stuck "close: one channel expected" :=by
 obtain⟨l⟩:=args;cases l with
 |nil=>rfl
 |cons x l=>
  cases l with
  |nil=>
   cases x;case chan o=>
    cases o with
    |none=>exact absurd rfl h1
    |some r=>exact absurd rfl (h2 r)
   all_goals rfl
  |cons y l=>rfl
theorem CD{P:AS}{fr:By}{cs:List By}{a:Array BY}{t:BY}{c:Array Bool}{args:Array AI}{h:Halt}{w:AT}{es:Array No}(hr:(QO a t args).runT P w #[]=(.halt h w,es)):(invoke (.builtin .close a t c) args).runT P w #[]=(.halt h w,es):=by
 show((QO a t args)>>=fun v=>pure (Rh v)).runT P w #[]=_;rw[aN,hr]
theorem Ld(E:Env Q β σ dt cl){fr:By}{cs:List By}{w w':AT}{a:Array BY}{t:BY}{c:Array Bool}{args:Array AI}(hg:ck Q dt cl fr)(hcs:∀c∈cs,ck Q dt cl c)(hbot:eu dt fr cs)(hch:∀r,args≠#[.chan (some r)])(hw:ew σ Ro D w w')(hR:pj Ro w):
 eo Q β σ Ro D dt cl D0 rest w w' (PG (alt Q β) fr (cs++[D0]) none ⟨.builtin .close a t c,args⟩ w) (PG Q (aH σ fr) (cs.map (aH σ)++rest) none ⟨.builtin .close a t c,args.map (a7 σ)⟩ w'):=by
 by_cases h1:args=#[.chan none]
 ·subst h1;have hp:∀(P:AS)(w:AT),(QO a t #[.chan none]).runT P w #[]=(.halt (.panic (.iface P.rt.plainError (strVal "close of nil channel"))) w,#[]):=fun P w=>rfl
  have hcd:∀(P:AS)(fr:By)(cs:List By)(w:AT),PG P fr cs none ⟨.builtin .close a t c,#[.chan none]⟩ w=PK (seen P fr.fn #[]) (.go {frame:=fr.raise [{v:=.iface P.rt.plainError (strVal "close of nil channel"),recovered:=false}],callers:=cs,status:=.running,dying:=none} w):=fun P fr cs w=>by
   unfold PG;simp only[Qd,IT,if_false,CD (c:=c) (fr:=fr) (cs:=cs) (hp P w)]
  have e1:(#[.chan none]:Array AI).map (a7 σ)=#[.chan none]:=by simp
  rw[e1,hcd,hcd];have hrk:(fr.raise [{v:=.iface Q.rt.plainError (strVal "close of nil channel"),recovered:=false}]).kind=fr.kind:=by unfold Qt;split <;>rfl
  have hW:=sV (σ:=σ) (Ro:=Ro) (D:=D) (Q:=Q) (β:=β) (s:=(R0 (.panic .nilIface):Sem Unit)) (s':=(R0 (.panic .nilIface):Sem Unit)) (.inl ⟨_,rfl⟩) (.inl ⟨_,rfl⟩) (w:=w) (w':=w') hR rfl rfl sX hw rfl;have h0:(aH σ fr).raise [{v:=.iface Q.rt.plainError (strVal "close of nil channel"),recovered:=false}]=aH σ (fr.raise [{v:=.iface Q.rt.plainError (strVal "close of nil channel"),recovered:=false}]):=by
   rw[jn];simp[jG,strVal]
  refine .inl ⟨{frame:=fr.raise [{v:=.iface Q.rt.plainError (strVal "close of nil channel"),recovered:=false}],callers:=cs++[D0],status:=.running,dying:=none},_,_,_,_,_,rfl,rfl,?_,il (hg.raise _) hcs (cL cs hrk hbot),?_,bg (aV av) av⟩
  ·rw[h0];exact fU
  ·rw[PZ];exact hW.less (lF _ _ _)
 ·have hs:=C9 h1 hch a t;have hcd:PG (alt Q β) fr (cs++[D0]) none ⟨.builtin .close a t c,args⟩ w=PK (seen (alt Q β) fr.fn #[]) (.ended (.stuck "close: one channel expected" (fr.pos (alt Q β))) w):=by
   unfold PG;simp only[Qd,IT,if_false,CD (P:=alt Q β) (c:=c) (fr:=fr) (cs:=cs) (w:=w) (h:=.stuck "close: one channel expected") (es:=#[]) (by rw[hs];rfl)]
  rw[hcd];exact .inr (.inr (.inr (.inr ⟨trivial,bg (aV av) av⟩)))
theorem CP(h7:B7 D0)(E:Env Q β σ dt cl){fr:By}{cs:List By}{w w':AT}(m m':Bool)(hg:ck Q dt cl fr)(hcs:∀c∈cs,ck Q dt cl c)(hbot:eu dt fr cs)(hH:am w)(hm:fr.mode= .run→False)
 (hnc:∀d ds a t c r,fr.defers=d::ds→d.target= .builtin .close a t c→d.args≠#[.chan (some r)])
 (hw:ew σ Ro D w w') (hD:Dom D w) (hR:pj Ro w) (hF:gd σ w w' (stepW (unwind (alt Q β) m fr (cs++[D0]) none w)).heap.size):
 eo Q β σ Ro D dt cl D0 rest w w' (unwind (alt Q β) m fr (cs++[D0]) none w) (unwind Q m' (aH σ fr) (cs.map (aH σ)++rest) none w'):=by
 cases hds:fr.defers with
 |nil=>
  unfold unwind at hF ⊢;rw[jS,hds];rw[hds]at hF;dsimp only[QH]at hF ⊢;rw[fv];cases hmo:fr.mode with
  |run=>exact absurd hmo hm
  |panicking chain=>
   dsimp only[lG];have h9:∀(P:AS)(fr:By),ck Q dt cl fr→fr.catches P=false:=fun P fr h=>by
    unfold Rr;split
    ·rename_i h1 h2;exact absurd h2 (h.dE.1 _ _ _ _ _)
    ·rfl
   rw[h9 _ _ hg];have h8:(aH σ fr).catches Q=false:=by
    unfold Rr;split
    ·rename_i h1 h2;exact absurd h2 (hg.dE.1 _ _ _ _ _)
    ·rfl
   rw[h8];simp only[IT,if_false];cases cs with
   |nil=>
    rw[RP];have ha:D0.raise chain= {D0 with mode:=.panicking chain}:=by
     unfold Qt;rw[h7.mode]
    dsimp only;rw[ha];exact lK (.inr ⟨rfl,rfl,rfl,.inr ⟨chain,rfl⟩⟩) rfl
   |cons c cs=>
    have hc:=hcs c (.head _);rw[Qo];have:=vN (D0:=D0) (Q:=Q) (β:=β) (σ:=σ) (Ro:=Ro) (D:=D) (rest:=rest) (fr:=c.raise chain) (cs:=cs) (w:=w) (w':=w') (hc.raise chain) (fun x hx=>hcs x (.tail _ hx)) (cL cs (by unfold Qt;split <;>rfl) hbot.2) hw hR;rw[jn]at this;exact this
  |returning=>
   rw[hmo]at hF;dsimp only[lG]at hF ⊢;rw[fN]at hF ⊢;rw[Cp];cases hfn:Q.funcs[fr.fn]? with
   |none=>
    dsimp only[Option.map_none];have:=sI h7 (β:=β) (rest:=rest) (es:=#[]) m m' hg hcs hbot (fr.tmps.getD 0 undef) (iq.refl hw hR) av;have e0:∀x:GStep,PK #[] x=x:=fun x=>by cases x<;>simp[PK]
    rw[e0,e0]at this;have e1:(aH σ fr).tmps.getD 0 undef=a7 σ (fr.tmps.getD 0 undef):=by
     simp only[rZ,Q8,PO];cases fr.tmps[0]? <;>simp
    rw[e1];exact this
   |some fn=>
    rw[hfn]at hF;dsimp only[If]at hF ⊢;rw[BK]at hF ⊢;have hs:=Br (Q:=Q) (β:=β) (Ro:=Ro) (D:=D) E.fit fn fr.tmps;have hn:=(vD (P:=alt Q β) fn fr.tmps).nf;have hn':=(vD (P:=Q) fn (fr.tmps.map (a7 σ))).nf;have hsz:∀a w1 es,(results fn fr.tmps).runT (alt Q β) w #[]=(.ok a w1,es)→w1.heap.size≤(stepW (PK (seen (alt Q β) fr.fn es) (doReturn (alt Q β) m fr (cs++[D0]) none a w1))).heap.size:=fun a w1 es h=>by
     rw[fS];unfold doReturn;repeat' split
     all_goals exact IS _
    have h0:=fun(w1 w1':AT)=>sV (σ:=σ) (Ro:=Ro) (D:=D) hn hn' (w:=w) (w':=w') (w1:=w1) (w1':=w1') hR
    have hS0:=hs w w' #[] #[] hw av sX;rw[rZ];generalize (results fn fr.tmps).runT (alt Q β) w #[]=x at hS0 h0 hsz hF ⊢;generalize (results fn (fr.tmps.map (a7 σ))).runT Q w' #[]=x' at hS0 h0 ⊢;obtain⟨r,es⟩:=x;obtain⟨r',es'⟩:=x';cases r with
    |halt h w1=>
     have hF1:gd σ w w' w1.heap.size:=kt hF (by rw[fS];cases h<;>exact IS _);obtain⟨hnb,_⟩:=hS0 hF1;refine .inr (.inr (.inr (.inr ⟨by cases h<;>trivial,bg (aV hnb) (by cases h<;>exact av)⟩)))
    |ok a w1=>
     have hF1:gd σ w w' w1.heap.size:=kt hF (hsz a w1 es rfl);obtain⟨hnb,hS⟩:=hS0 hF1;rcases hS with⟨n,v1,v1',h1,h2,h3,h4,h5⟩|⟨h,v1,v1',h1,_⟩|⟨h,v1,h1,_⟩
     ·dsimp only at h1 h2;cases h1;subst h2;exact sI h7 m m' hg hcs hbot a ((h0 w1 v1' rfl rfl h3 h4 h5).less (lF _ _ _)) (aV hnb)
     ·cases h1
     ·cases h1
 |cons d ds=>
  have h6:=hg.defs d (by rw[hds];exact .head _);obtain⟨tg,args⟩:=d;have hg2:ck Q dt cl {fr with defers:=ds}:=⟨hg.round,hg.items,hg.regs,fun x hx=>hg.defs x (by rw[hds];exact .tail _ hx),hg.kind,hg.init⟩;by_cases hcl:∃a t c,tg= .builtin .close a t c
  ·obtain⟨a,t,c,rfl⟩:=hcl;unfold unwind;rw[jS,hds];exact Ld E hg2 hcs (cL (fr:=fr) cs rfl hbot) (fun r=>hnc _ ds a t c r hds rfl) hw hR
  have hfn:∃f c,tg= .fn (.func f) c:=by
   cases tg;case fn fn c=>
    cases fn;case func f=>exact⟨f,c,rfl⟩
    all_goals exact h6.elim
   case builtin b a t c=>
    cases b;case close=>exact absurd ⟨a,t,c,rfl⟩ hcl
    all_goals exact h6.elim
   all_goals exact h6.elim
  obtain⟨f,cap,rfl⟩:=hfn;have hdf:dt.all (·.1 !=f)=true:=h6;unfold unwind at hF ⊢;rw[jS,hds];rw[hds]at hF;exact Md E hg2 hcs (cL (fr:=fr) cs rfl hbot) hH hdf hw hD hR hF
theorem EZ(h0:B7 D0)(E:Env Q β σ dt cl){g g':Q4}{w w':AT}(m m':Bool)(hr:mU σ rest g g')(hg:ud Q D0 dt cl g)(hK:Hg Q D g.frame)(hH:am w)(hnc:¬ AtClose g)
 (hw:ew σ Ro D w w') (hD:Dom D w) (hR:pj Ro w) (hF:gd σ w w' (stepW (stepG (alt Q β) m g w)).heap.size):
 eo Q β σ Ro D dt cl D0 rest w w' (stepG (alt Q β) m g w) (stepG Q m' g' w'):=by
 obtain⟨fr,cs,st,dy,off⟩:=g;obtain⟨fr',cs',st',dy',off'⟩:=g';obtain⟨h1,h2,⟨h3,h4⟩,h5,h6⟩:=hr;dsimp only at h1 h2 h3 h4 h5 h6;subst h1 h2 h3 h4 h5 h6;obtain⟨k1,k2,k3,k4⟩:=hg;dsimp only at k1 k2 k3 k4 hK;generalize hcs:cs.dropLast=cs1 at k2 k3 k4;subst k4;cases hm:fr.mode with
 |run=>
  have e1:∀(P:AS)(m:Bool)(fr:By)(cs:List By)(off:_)(w:AT),fr.mode= .run→stepG P m {frame:=fr,callers:=cs,status:=.running,dying:=none,offers:=off} w=stepG.exec P m true fr cs none w:=fun P m fr cs off w h=>by
   unfold stepG;dsimp only;rw[h]
  rw[e1 _ _ _ (cs1++[D0]) _ _ hm]at hF ⊢;rw[e1 _ _ _ _ _ _ (by rw[fv,hm];rfl)];exact IX E m m' k1 k2 k3 hK hH hw hD hR hF
 |_=>
  have e1:∀(P:AS)(m:Bool)(fr:By)(cs:List By)(off:_)(w:AT),(fr.mode= .run→False)→stepG P m {frame:=fr,callers:=cs,status:=.running,dying:=none,offers:=off} w=unwind P m fr cs none w:=fun P m fr cs off w h=>by
   unfold stepG;dsimp only;cases hmo:fr.mode with
   |run=>exact absurd hmo h
   |_=>rfl
  have hne:fr.mode= .run→False:=fun h=>by rw[hm]at h;cases h
  rw[e1 _ _ _ (cs1++[D0]) _ _ hne]at hF ⊢;rw[e1 _ _ _ _ _ _ (by rw[fv,hm];exact nofun)];exact CP h0 E m m' k1 k2 k3 hH hne (fun d ds a t c r e1 e2 e3=>hnc ⟨hne,d,ds,a,t,c,r,e1,e2,e3⟩) hw hD hR hF
end
end
section
structure Part where
 K:Nat→Prop
 κ:Nat→Nat
def Ag(p:Part)(σ:Nat→Nat):Prop:=(∀i j,σ i=σ j→i=j)∧∀i,p.K i→σ i=p.κ i
structure iY(Q:AS)(p:Part)(n n':Nat):Prop where
 inj:∀i j,p.K i→p.K j→p.κ i=p.κ j→i=j
 dom:∀i,p.K i→i<n
 ran:∀i,p.K i→p.κ i<n'
 low:∀g,g≤Q.globals.size→p.K g∧p.κ g=g
open Classical in
noncomputable def Part.far(p:Part)(n' t:Nat)(i:Nat):Nat:=if p.K i then p.κ i else n'+t+i
theorem bI{Q:AS}{p:Part}{n n':Nat}(h:iY Q p n n')(t:Nat):Ag p (p.far n' t):=by
 refine⟨fun i j e=> ?_,fun i hi=>by unfold Part.far;rw[if_pos hi]⟩;unfold Part.far at e;split at e
 ·rename_i hi;split at e
  ·rename_i hj;exact h.inj i j hi hj e
  ·have:=h.ran i hi;omega
 ·split at e
  ·rename_i hj;have:=h.ran j hj;omega
  ·omega
theorem qg{p:Part}{n' t i:Nat}(h:¬ p.K i):p.far n' t i=n'+t+i:=by unfold Part.far;rw[if_neg h]
variable[aJ]
structure mW(Q:AS)(β:Nat→Option Code)(dt:be)(cl:Bool):Prop where
 apt:lw Q β
 nf:EM Q β
 prog:sP Q β dt cl
 zero:∀σ,lk Q σ
 tame:bw (alt Q β)
structure Side(Q:AS)(β:Nat→Option Code)(D0:By)(dt:be)(cl:Bool)(Ro:Nat→Prop)(os:Os)(rest:List By)(p:Part)(g:Q4)(w:AT)(g':Q4)(w':AT):Prop where
 part:iY Q p w.heap.size w'.heap.size
 gok:ud Q D0 dt cl g
 iv:Iv g w
 ro:pj Ro w
 relG:∀σ,Ag p σ→mU σ rest g g'
 relW:∀σ,Ag p σ→ew σ Ro ⟨p.K,os⟩ (af w w'.tape w'.drawn) w'
section
variable{Q:AS}{β:Nat→Option Code}{D0:By}{dt:be}{cl:Bool}{Ro:Nat→Prop}{os:Os}{rest:List By}{p:Part}{g g':Q4}{w w':AT}
theorem mW.env(E:mW Q β dt cl){n n':Nat}(hp:iY Q p n n'){σ:Nat→Nat}(h:Ag p σ):Env Q β σ dt cl:=
 ⟨E.apt,E.nf,E.prog,⟨E.zero σ,fun g hg=>(h.2 g (hp.low g hg).1).trans (hp.low g hg).2,h.1⟩,E.tame⟩
theorem oV(hp:iY Q p w.heap.size w'.heap.size)(hW:∀σ,Ag p σ→ew σ Ro ⟨p.K,os⟩ (af w w'.tape w'.drawn) w'){i:Nat}{o:Obj}(ho:w.heap[i]?=some o)(hn:iR o):p.K i:=by
 refine Qu fun hk=> ?_
 have hB:=(hW _ (bI hp 0)).blk i o ho;have hno:w'.heap[p.far w'.heap.size 0 i]?=none:=by
  rw[qg hk];exact Array.getElem?_eq_none (by omega)
 rw[hno]at hB;cases o;case cells c e f=>
  by_cases hr:Ro i
  ·obtain⟨f',h,_⟩:=(hB.1 hr).2;cases h
  ·have:=hB.2 hr;cases this
 case number a l=>cases hB
 all_goals exact hn.elim
theorem pJ(hp:iY Q p w.heap.size w'.heap.size)(hW:∀σ,Ag p σ→ew σ Ro ⟨p.K,os⟩ (af w w'.tape w'.drawn) w'){i:Nat}(h:aM w i):p.K i:=by
 obtain⟨c,t,f,hc⟩:=h;exact oV hp hW hc trivial
theorem Side.cells(S:Side Q β D0 dt cl Ro os rest p g w g' w'){i:Nat}(h:aM w i):p.K i:=pJ S.part S.relW h
theorem Side.knows(S:Side Q β D0 dt cl Ro os rest p g w g' w'):Hg Q ⟨p.K,os⟩ g.frame:=by
 have h0:=(S.relG _ (bI S.part 0)).frame;have h1:=(S.relG _ (bI S.part 1)).frame;have ht:∀v∈g.frame.tmps,a7 (p.far w'.heap.size 0) v=a7 (p.far w'.heap.size 1) v:=fun v hv=>by
  have e:g.frame.tmps.map (a7 (p.far w'.heap.size 0))=g.frame.tmps.map (a7 (p.far w'.heap.size 1)):=congrArg Frame.tmps (h0.symm.trans h1);obtain⟨i,hi,rfl⟩:=Re.1 hv;have:=congrArg (fun a=>a[i]?) e;simpa[PO,hi]using this
 have hk:∀i,p.far w'.heap.size 0 i=p.far w'.heap.size 1 i→p.K i:=fun i e=>by
  refine Qu fun hk=> ?_
  rw[qg hk,qg hk]at e;omega
 refine⟨fun v hv=>⟨fun a e=> ?_,fun a l c e=> ?_⟩,fun g hg=>(S.part.low g hg).1⟩
 ·have:=ht v hv;rw[e,aQ,aQ]at this;simp only[If,Value.pointer.injEq,Option.some.injEq]at this;exact hk _ (congrArg RX this)
 ·have:=ht v hv;rw[e,cU,cU]at this;simp only[If,Value.slice.injEq,Option.some.injEq,and_true]at this;exact hk _ (congrArg RX this)
structure Mq(κ:Nat→Nat)(Ro:Nat→Prop)(w1:AT)(e:No):Prop where
 cell:∀a',e.loc= .cell a'→∃i,a'.block=κ i∧aM w1 i∧(e.write=true→¬ Ro i)
 obj:∀r,e.loc= .obj r→e.write=false
 mark:∀m,e.loc= .mark m→Meek m∧e.write=false∧e.sync=true
structure Grown(p p':Part)(n n' n1 n1':Nat):Prop where
 old:∀i,p.K i→p'.K i∧p'.κ i=p.κ i
 new:∀i,p'.K i→p.K i∨(n≤i∧n'≤p'.κ i)
 le:n≤n1
 le':n'≤n1'
structure Eff(p p':Part)(Ro:Nat→Prop)(w w' w1 w1':AT)(es':Array No):Prop where
 grown:Grown p p' w.heap.size w'.heap.size w1.heap.size w1'.heap.size
 frame:∀b,b<w'.heap.size→w1'.heap[b]?≠w'.heap[b]?→∃i,p'.κ i=b∧aM w1 i∧¬ Ro i
 events:∀e∈es',Mq p'.κ Ro w1 e
 output:w1'.output=w'.output
 os:w1'.os=w'.os
 kinds:∀(i:Nat)(o:Obj),w1.heap[i]?=some o→iw w i o
theorem vm{K':Nat→Prop}{σ:Nat→Nat}{K:Nat→Prop}{w1 w1':AT}(h:ew σ Ro ⟨K,os⟩ w1 w1')(hK:∀i,K i→K' i)(hn:∀i o,w1.heap[i]?=some o→K' i→iR o∨K i):ew σ Ro ⟨K',os⟩ w1 w1':=by
 refine⟨h.inj,h.tape,h.drawn,h.ro,fun i o ho=> ?_,fun i a l ho=>hK _ (h.num i a l ho),h.os⟩;have hB:=h.blk i o ho;cases o;case cells c e f=>exact hB
 case number a l=>exact hB
 case pending=>exact hB.elim
 case view=>exact hB.elim
 all_goals
  intro hk';rcases hn i _ ho hk' with hx|hx
  ·exact hx.elim
  ·exact hB hx
open Classical in
noncomputable def Part.grow(p:Part)(n n' n1:Nat):Part:=⟨fun i=>p.K i∨(n≤i∧i<n1),fun i=>if i<n then p.κ i else n'+(i-n)⟩
theorem xf{n n' n1 n1':Nat}(h:iY Q p n n')(h1:n≤n1)(hs:n1'+n=n'+n1):iY Q (p.grow n n' n1) n1 n1':=by
 have hlt:∀i,p.K i→(p.grow n n' n1).κ i=p.κ i:=fun i hi=>by
  show(if i<n then p.κ i else n'+(i-n))=_;rw[if_pos (h.dom i hi)]
 have hge:∀i,n≤i→(p.grow n n' n1).κ i=n'+(i-n):=fun i hi=>by
  show(if i<n then p.κ i else n'+(i-n))=_;rw[if_neg (by omega)]
 refine⟨fun i j hi hj e=> ?_,fun i hi=> ?_,fun i hi=> ?_,fun g hg=> ?_⟩
 ·rcases hi with hi|hi<;>rcases hj with hj|hj
  ·rw[hlt i hi,hlt j hj]at e;exact h.inj i j hi hj e
  ·rw[hlt i hi,hge j hj.1]at e;have:=h.ran i hi;omega
  ·rw[hge i hi.1,hlt j hj]at e;have:=h.ran j hj;omega
  ·rw[hge i hi.1,hge j hj.1]at e;omega
 ·rcases hi with hi|hi
  ·have:=h.dom i hi;omega
  ·exact hi.2
 ·rcases hi with hi|hi
  ·rw[hlt i hi];have:=h.ran i hi;omega
  ·rw[hge i hi.1];omega
 ·exact⟨.inl (h.low g hg).1,(hlt g (h.low g hg).1).trans (h.low g hg).2⟩
theorem vM{n n' n1 n1':Nat}(h:iY Q p n n')(h1:n≤n1)(hs:n1'+n=n'+n1):Grown p (p.grow n n' n1) n n' n1 n1':=by
 refine⟨fun i hi=>⟨.inl hi,?_⟩,fun i hi=> ?_,h1,by omega⟩
 ·show(if i<n then p.κ i else n'+(i-n))=_;rw[if_pos (h.dom i hi)]
 ·rcases hi with hi|hi
  ·exact .inl hi
  ·refine .inr ⟨hi.1,?_⟩;show n'≤(if i<n then p.κ i else n'+(i-n));rw[if_neg (by omega)];omega
def Jq(Q:AS)(β:Nat→Option Code)(D0:By)(dt:be)(cl:Bool)(Ro:Nat→Prop)(os:Os)(rest:List By)(p:Part)(w w':AT)(x x':GStep):Prop:=
 (∃g1 w1 es g1' w1' es' p',x= .go g1 w1 es∧x'= .go g1' w1' es'∧Side Q β D0 dt cl Ro os rest p' g1 w1 g1' w1'∧Eff p p' Ro w w' w1 w1' es'∧¬ Big x.es)∨
 (∃g1 c sh w1 es g1' c' w1' es' p',x= .comm g1 #[c] true sh w1 es∧x'= .comm g1' #[c'] true sh w1' es'∧qm cl #[c] true sh∧mh dt g1.frame∧Side Q β D0 dt cl Ro os rest p' g1 w1 g1' w1'∧(∀σ,Ag p' σ→c'=kn σ c)∧Eff p p' Ro w w' w1 w1' es'∧¬ Big x.es)∨
 (∃g w es,x= .go g w es∧pU Q β g∧¬ Big x.es)∨(cl=false∧Big x.es∧Big x'.es)∨(ti D0 x∧¬ Big x.es)
theorem oL(h1:B7 D0)(E:mW Q β dt cl)(S:Side Q β D0 dt cl Ro os rest p g w g' w')(m':Bool)(hnc:¬ AtClose g):
 Jq Q β D0 dt cl Ro os rest p w w' (stepG (alt Q β) true g (af w w'.tape w'.drawn)) (stepG Q m' g' w'):=by
 have hIv:Iv g (af w w'.tape w'.drawn):=fP S.iv _ _;have hD:Dom ⟨p.K,os⟩ (af w w'.tape w'.drawn):=fun i hi=>S.part.dom i hi
 have hRo:pj Ro (af w w'.tape w'.drawn):=S.ro;obtain⟨x,hx⟩:∃x,x=stepG (alt Q β) true g (af w w'.tape w'.drawn):=⟨_,rfl⟩;have hsim:∀n1 p',p'=p.grow w.heap.size w'.heap.size n1→(stepW x).heap.size≤n1→∀σ,Ag p' σ→eo Q β σ Ro ⟨p.K,os⟩ dt cl D0 rest (af w w'.tape w'.drawn) w' x (stepG Q m' g' w'):=fun n1 p' hp' hn σ hσ=>by
  subst hp';have hag:Ag p σ:=⟨hσ.1,fun i hi=>by
   rw[hσ.2 i (.inl hi)];show(if i<w.heap.size then p.κ i else w'.heap.size+(i-w.heap.size))=_;rw[if_pos (S.part.dom i hi)]⟩
  rw[hx];refine EZ h1 (E.env S.part hag) true m' (S.relG σ hag) S.gok S.knows hIv.1 hnc (S.relW σ hag) hD hRo ?_;intro j hj;rw[← hx]at hj;have hj':w.heap.size+j<(stepW x).heap.size:=hj;have:=hσ.2 (w.heap.size+j) (.inr ⟨by omega,by omega⟩);show σ (w.heap.size+j)=w'.heap.size+j;rw[this];show(if w.heap.size+j<w.heap.size then _ else _)=_;rw[if_neg (by omega)];omega
 rw[← hx];by_cases hfoul:∃g w es,x= .go g w es∧pU Q β g∧¬ Big x.es
 ·exact .inr (.inr (.inl hfoul))
 by_cases hbig:cl=false∧Big x.es∧Big (stepG Q m' g' w').es
 ·exact .inr (.inr (.inr (.inl hbig)))
 by_cases hlost:ti D0 x∧¬ Big x.es
 ·exact .inr (.inr (.inr (.inr hlost)))
 have hmain:∀n1,(stepW x).heap.size≤n1→∀σ,Ag (p.grow w.heap.size w'.heap.size n1) σ→_:=fun n1 hn σ hσ=>hsim n1 _ rfl hn σ hσ
 have hle:w.heap.size≤max w.heap.size (stepW x).heap.size:=Nat.le_max_left _ _;have hok0:=xf S.part hle (n1':=w'.heap.size+(max w.heap.size (stepW x).heap.size-w.heap.size)) (by omega);have h0:=hsim _ _ rfl (Nat.le_max_right w.heap.size (stepW x).heap.size) _ (bI hok0 0);rcases h0 with⟨g1,w1,es,g1',w1',es',e1,e2,hR1,hG1,hW1,hNB⟩|⟨g1,cs,bl,sh,w1,es,g1',w1',es',e1,e2,hC,hR1,hG1,hFin,hW1,hNB⟩|h|h|h
 ·
  subst e1;have hn1:w.heap.size≤w1.heap.size:=hW1.le;have hmx:max w.heap.size (stepW (.go g1 w1 es)).heap.size=w1.heap.size:=Nat.max_eq_right hn1;rw[hmx]at hok0 hR1 hW1;have hall:∀σ,Ag (p.grow w.heap.size w'.heap.size w1.heap.size) σ→mU σ rest g1 g1'∧iq σ Ro ⟨p.K,os⟩ (af w w'.tape w'.drawn) w' w1 w1' es':=fun σ hσ=>by
   rcases hsim _ _ rfl (IS _) σ hσ with⟨a1,a2,a3,b1,b2,b3,f1,f2,k1,k2,k3,_⟩|⟨a1,a2,a3,a4,a5,a6,b1,b2,b3,f1,_⟩|h|h|h
   ·cases f1;rw[e2]at f2;cases f2;exact⟨k1,k3⟩
   ·cases f1
   ·exact absurd h hfoul
   ·exact absurd h hbig
   ·exact absurd h hlost
  have hsz:w1'.heap.size+w.heap.size=w'.heap.size+w1.heap.size:=hW1.size;have hok:=xf S.part hn1 hsz;have htp:∀σ,Ag (p.grow w.heap.size w'.heap.size w1.heap.size) σ→ew σ Ro ⟨(p.grow w.heap.size w'.heap.size w1.heap.size).K,os⟩ (af w1 w1'.tape w1'.drawn) w1':=fun σ hσ=>by
   have hr:=(hall σ hσ).2.rel;rw[hr.tape,hr.drawn,uo];refine vm hr (fun i hi=>.inl hi) fun i o ho hk=> ?_
   rcases hW1.kinds i o ho with⟨_,h⟩|⟨_,_,_,_,rfl⟩|h
   ·exact .inl h
   ·exact .inl trivial
   ·rcases hk with hk|hk
    ·exact .inr hk
    ·have h2:w.heap[i]?=some o:=h;have:=(PE.1 h2).1;omega
  have hI1:Iv g1 w1:=nJ E.tame hIv (.go hx.symm);have hcell:∀i,aM w1 i→(p.grow w.heap.size w'.heap.size w1.heap.size).K i:=fun i hi=>pJ hok htp hi
  refine .inl ⟨g1,w1,es,g1',w1',es',p.grow w.heap.size w'.heap.size w1.heap.size,rfl,e2,⟨hok,hG1,hI1,hW1.ro,fun σ hσ=>(hall σ hσ).1,htp⟩,⟨vM S.part hn1 hsz,fun b hb hne=> ?_,fun e he=>⟨fun a' ha=> ?_,(hW1.events e he).obj,(hW1.events e he).mark⟩,hW1.output,?_,hW1.kinds⟩,hNB⟩
  ·obtain⟨i,hi,hc,hr⟩:=hW1.frame b hb hne;refine⟨i,?_,hc,hr⟩;rw[← hi,(bI hok0 0).2 i (hcell i hc)]
  ·obtain⟨a,rfl,hc,hr⟩:=(hW1.events e he).cell a' ha;exact⟨a.block,(bI hok0 0).2 _ (hcell _ hc),hc,hr⟩
  ·exact(hW1.rel.os.2).trans (S.relW _ (bI S.part 0)).os.2.symm
 ·
  obtain⟨rfl,c,rfl,hc0⟩:=hC;subst e1;have hn1:w.heap.size≤w1.heap.size:=hW1.le;have hmx:max w.heap.size (stepW (.comm g1 #[c] true sh w1 es)).heap.size=w1.heap.size:=Nat.max_eq_right hn1;rw[hmx]at hok0 hR1 hW1 e2;have hall:∀σ,Ag (p.grow w.heap.size w'.heap.size w1.heap.size) σ→mU σ rest g1 g1'∧iq σ Ro ⟨p.K,os⟩ (af w w'.tape w'.drawn) w' w1 w1' es'∧kn ((p.grow w.heap.size w'.heap.size w1.heap.size).far (w'.heap.size+(w1.heap.size-w.heap.size)) 0) c=kn σ c:=fun σ hσ=>by
   rcases hsim _ _ rfl (IS _) σ hσ with⟨a1,a2,a3,b1,b2,b3,f1,_⟩|⟨a1,a2,a3,a4,a5,a6,b1,b2,b3,f1,f2,f3,k1,k2,_,k3,_⟩|h|h|h
   ·cases f1
   ·cases f1;rw[e2]at f2;have f2':=f2;simp only[GStep.comm.injEq]at f2;obtain⟨rfl,f4,_,_,rfl,rfl⟩:=f2;refine⟨k1,k3,?_⟩;simpa using f4
   ·exact absurd h hfoul
   ·exact absurd h hbig
   ·exact absurd h hlost
  have hsz:w1'.heap.size+w.heap.size=w'.heap.size+w1.heap.size:=hW1.size;have hok:=xf S.part hn1 hsz;have htp:∀σ,Ag (p.grow w.heap.size w'.heap.size w1.heap.size) σ→ew σ Ro ⟨(p.grow w.heap.size w'.heap.size w1.heap.size).K,os⟩ (af w1 w1'.tape w1'.drawn) w1':=fun σ hσ=>by
   have hr:=(hall σ hσ).2.1.rel;rw[hr.tape,hr.drawn,uo];refine vm hr (fun i hi=>.inl hi) fun i o ho hk=> ?_
   rcases hW1.kinds i o ho with⟨_,h⟩|⟨_,_,_,_,rfl⟩|h
   ·exact .inl h
   ·exact .inl trivial
   ·rcases hk with hk|hk
    ·exact .inr hk
    ·have h2:w.heap[i]?=some o:=h;have:=(PE.1 h2).1;omega
  have hI1:Iv g1 w1:=by
   rcases og E.tame hIv with⟨_,_,_,e,_⟩|⟨_,_,_,_,_,_,e,⟨e3,_⟩,_⟩|⟨_,_,_,e⟩
   ·rw[← hx]at e;cases e
   ·rw[← hx]at e;cases e;exact e3
   ·rw[← hx]at e;cases e
  have hcell:∀i,aM w1 i→(p.grow w.heap.size w'.heap.size w1.heap.size).K i:=fun i hi=>pJ hok htp hi
  rw[QB,PV,QH]at e2;refine .inr (.inl ⟨g1,c,sh,w1,es,g1',_,w1',es',p.grow w.heap.size w'.heap.size w1.heap.size,rfl,e2,⟨rfl,c,rfl,hc0⟩,hFin,⟨hok,hG1,hI1,hW1.ro,fun σ hσ=>(hall σ hσ).1,htp⟩,fun σ hσ=>(hall σ hσ).2.2,⟨vM S.part hn1 hsz,fun b hb hne=> ?_,fun e he=>⟨fun a' ha=> ?_,(hW1.events e he).obj,(hW1.events e he).mark⟩,hW1.output,?_,hW1.kinds⟩,hNB⟩)
  ·obtain⟨i,hi,hc,hr⟩:=hW1.frame b hb hne;refine⟨i,?_,hc,hr⟩;rw[← hi,(bI hok0 0).2 i (hcell i hc)]
  ·obtain⟨a,rfl,hc,hr⟩:=(hW1.events e he).cell a' ha;exact⟨a.block,(bI hok0 0).2 _ (hcell _ hc),hc,hr⟩
  ·exact(hW1.rel.os.2).trans (S.relW _ (bI S.part 0)).os.2.symm
 ·exact absurd h hfoul
 ·exact absurd h hbig
 ·exact absurd h hlost
end
end
end Go.Proofs.YtkgohmcmmcpigaaGreatDoor
