/- A part of the proof that Within holds; no condition. -/
import Derived.Calls
import Derived.Conc.Listed
import Derived.Test.YtkgohmcmmcpigaaGreatDoorProg
import Derived.WalkKit
import Derived.Lib.Hide
import Derived.Orders
import Derived.Tactics
import Derived.Test.YtkgohmcmmcpigaaGreatDoorW02
set_option linter.unusedSectionVars false
set_option linter.unusedSimpArgs false
set_option linter.unusedVariables false
namespace Go.Proofs.YtkgohmcmmcpigaaGreatDoor
open Go
open Go renaming Program->up,Frame->AS,World->By,execOp->IN,callDeferred->IS,Value->No,callFunc->Sv,Event->SE,Goroutine->SI,behindNumber->T5,TypeId->T6,Operand->Tc,runtimePanic->Tw,FuncId->TR
open _root_.Option renaming map_some->x5,bind_some->TW
open _root_.Nat renaming le_refl->AI,le_trans->Tt
open Go.Sem renaming runT->AT,store->SO,bind->T9,halt->Ts
open _root_.Bool renaming false_ne_true->BY,false_eq_true->If,and_eq_true->OF,false_and->TD,eq_iff_iff->U5
open Go.GStep renaming after->IT
open _root_.Iff renaming rfl->Su
open Go.Frame renaming enter->Sw,finish->SD,eval->SU,raise->T3,finish_at->TC,catches->TK
open _root_.Array renaming getElem?_push->Sx,getElem?_eq_some_iff->Sy,getElem?_modify->Sz,append_empty->SC,mem_push->SG,getElem?_map->SL,getD_eq_getD_getElem?->SX,toList_map->T0,map_append->T1,mem_append->Tb,size_map->Tj,range->Tl,foldl_toList->Tn,map_map->To,mapM_eq_mapM_toList->Tq,map_setIfInBounds->Tz,mem_map->TL,replicate->U6
open Go.World renaming setCell->SF,shape?->SN,farStore->SV,viewStore->Td,noCell->Tr,frozen?->TF,farLoad->TG,sys->TP,seen->U0
open Go.Op renaming equal->SH,maxDepth->Tk,equalIn->U1
open _root_.MonadExceptOf renaming throw->SJ
open Go.Builtin renaming unsafeAdd_->SK,firstCells->SP,zeroCells->SR,min2->Tf,append_->Tg,close_->Ti,holdsCells->Tm,min_->Tx,len_->Ty,mayShare->TZ,lenOf->Ui
open _root_.Except renaming bind->SM,pure->T4
open _root_.List renaming map_cons->SQ,range'->SS,cons_append->SY,mem_cons->T2,map_toArray->Tu,mem_map->TQ,nil_append->U2,find?_cons->U3
open Go.MemAct renaming ofEvent->SW
open Go.Instr renaming fill->SZ,sliceBound->Ta,buildSlice->Tv,sliceAt->TH,indexAt->TI,extract->TJ,makeInterface->TO,sliceBounds->TU,index->TV,typeAssert->TX,sureAddr->Ua,panicnil->Ub,makeFunc->Uc
open Go.Extern renaming find->T7,findNext->Te
open Go.Region renaming wanted->T8
open Go.Kernel renaming perform->Th
open _root_.Classical renaming byContradiction->Tp
open Go.Next renaming value->TE
open Go.Program renaming eqGuardType->TN,depth->Uf
open Go.Exit renaming inBlock->TS
open Go.Deferred renaming ofValue->TY
open Go.Conv renaming floatToInt->U4
open Go.Addr renaming block->U7
open Go.Value renaming oneCell'->U8
open Go.CallKind renaming early->Ud
section
open Go.Conc
variable[aD]
def ax(β:Nat->Option Code)(i:Nat)(fn:Func):Func:=
 match β i with
 |some c=> {fn with body:=some c}
 |none=>fn
abbrev alt(Q:up)(β:Nat->Option Code):up:=swap Q (ax β)
structure Twin(Q:up)(β:Nat->Option Code):Prop where
 wait:∀g,aD.lim<=g->Q.stepOf g=none
 data:Q.follows .staticDataAhead=true
 begin:∀f∈Q.inits,∀(fn:Func),Q.funcs[f]?=some fn->(β f).isSome=true->fn.body.isSome=true
 next:∀(f:Nat)(fn:Func),Q.funcs[f]?=some fn->β f=none->fn.body.isNone=true->Te fn=none
 ext:∀(f:Nat)(fn:Func),Q.funcs[f]?=some fn->β f=none->fn.body.isNone=true->∀e,T7 fn=some e->∀args,Sm Q (ax β) (e args)
theorem lr(P f es):∀e∈seen P f es,e∈es:=by
 have key:∀(l:List SE)(x:Bool×Array SE)(st:Bool×Array SE->SE->Bool×Array SE)(hst:∀x e,∀y∈(st x e).2,y∈x.2\/y=e),∀y∈(l.foldl st x).2,y∈x.2\/y∈l:=by
  intro l;induction l<;>grind
 intro e he;simp[seen,<- Tn]at he;grind
theorem av:¬ Big #[]:=λh=>h
theorem aN{P f es}(h:¬ Big es):¬ Big (seen P f es):=λh=>h
theorem find_congr{α:Type}{p q}:∀{l:List α},(∀x∈l,p x=q x)->l.find? p=l.find? q
 |[],_=>rfl
 |x::l,h=>by
  rw[U3,U3,h x (List.mem_cons_self ..),find_congr λy hy=>h y (List.mem_cons_of_mem _ hy)]
section
variable{P:up}
theorem vT{α dy}{s:Sem α}(hs:cw P dy false s):∀w es,an w->¬ Big es->¬ Big (s.runT P w es).2:=λ_ _ _ _ h=>h
end
section
variable{Q:up}{β:Nat->Option Code}
theorem iG(f):(alt Q β).funcs[f]?=Q.funcs[f]?.map (ax β f):=by
 show(Q.funcs.mapIdx (ax β))[f]?=_;rw[Array.getElem?_mapIdx]
theorem lJ:(alt Q β).funcs.size=Q.funcs.size:=Array.size_mapIdx
theorem CX(f fn):(ax β f fn).name=fn.name:=by unfold ax;split <;>rfl
theorem zn(f fn):(ax β f fn).norace=fn.norace:=by unfold ax;split <;>rfl
theorem qs(f fn):(ax β f fn).results=fn.results:=by unfold ax;split <;>rfl
theorem pS{f fn}(h:β f=none):ax β f fn=fn:=by
 simp[ax,h]
theorem ic{α}{s:Sem α}(hs:Sm Q (ax β) s)(w es):s.runT (alt Q β) w es=s.runT Q w es:=yn hs.sm w es
theorem km{α}{s:Sem α}(hs:Sm Q (ax β) s)(w):s.run (alt Q β) w=s.run Q w:=Jr hs.sm w
omit [aD] in
theorem aM{α β}(P s)(f:α->Sem β):∀w es,(s>>=f).runT P w es=match s.runT P w es with
 |(.ok a w1,e)=>(f a).runT P w1 e
 |(.halt h w1,e)=>(.halt h w1,e):=by
 show∀(w:By)(es:Array SE),(s.bind f).runT P w es=_;induction s with
 |pure a=>exactλw es=>rfl
 |halt x=>exactλw es=>rfl
 |load m a k ih=>
  grind [T9,AT]
 |store m a v k ih=>
  intro w es;cases v;all_goals simp only[T9,AT]
  all_goals
   cases w.cell? a with
   |some o=>
    dsimp only;split
    .rfl
    .exact ih _ _
   |none=>
    dsimp only;split
    .exact ih _ _
    .rfl
 |new o k ih=>exactλw es=>ih _ _ _
 |shape r k ih=>exactλw es=>ih _ _ _
 |freeze a n k ih=>exactλw es=>ih _ _
 |frozen a k ih=>exactλw es=>ih _ _ _
 |getObj r k ih=>
  grind [T9,AT]
 |setObj r o k ih=>
  grind [T9,AT]
 |choose q k ih=>
  grind [T9,AT]
 |sys c k ih=>exactλw es=>ih _ _ _
 |program k ih=>exactλw es=>ih _ _ _
 |mark m k ih=>exactλw es=>ih _ _
inductive oH(Q:up)(β:Nat->Option Code):Sem Next->Prop
 |sm {s:Sem Next} (h:Sm Q (ax β) s):oH Q β s
 |foul {s:Sem Next} {f:TR} {args:Array No} (hf:(β f).isSome=true) (h:∀w es,s.runT (alt Q β) w es=(.ok (.enter f args) w,es)):oH Q β s
 |bind {α:Type} {s:Sem α} {f:α->Sem Next} (hs:Sm Q (ax β) s) (hst:bU (alt Q β) true false s) (hf:∀a,oH Q β (f a)):oH Q β (s>>=f)
 |prog {f:up->Sem Next} (e:f (alt Q β)=f Q) (h:oH Q β (f Q)):oH Q β (program>>=f)
theorem eM{s}(h:Sm Q (ax β) s):oH Q β s:=.sm h
theorem nY{α}{s:Sem α}{f}(hs:Sm Q (ax β) s)(hst:bU (alt Q β) true false s)(hf:∀a,oH Q β (f a)):oH Q β (s>>=f):=.bind hs hst hf
theorem nX(T:Twin Q β)(f args):oH Q β (Sv f args):=by
 have he:(alt Q β).funcs[f]?=Q.funcs[f]?.map (ax β f):=iG f;cases hb:β f with
 |none=>
  have hk:(alt Q β).funcs[f]?=Q.funcs[f]?:=by
   rw[he];cases Q.funcs[f]? with
   |none=>rfl
   |some fn=>exact congrArg some (pS hb)
  refine eM ?_;unfold Sv;refine mZ ?_ ?_
  .grind
  .cases hf:Q.funcs[f]? with
   |none=>dsimp only;exact zq2
   |some fn=>
    dsimp only;refine @Ac _ _ _ _ _ _ _ zq2 ?_;cases hn:fn.body.isNone with
    |false=>simp only[If,if_false];exact zq2
    |true=>
     simp only[if_true];refine @ji _ _ _ _ _ _ zq2 λ_=> ?_
     rw[T.next f fn hf hb hn];dsimp only;cases he:T7 fn with
     |some e=>exact @ji _ _ _ _ _ _ (T.ext f fn hf hb hn e he args) λ_=>zq2
     |none=>dsimp only;split <;>exact zq2
 |some c=>
  have key:∀(P:up)(w:By)(es:Array SE),(Sv f args).runT P w es=(match P.funcs[f]? with
   |none=>(stuck "call: no such function" :Sem Next)
   |some fn=>
    if(fn.name== "runtime.NumGoroutine")=true then pure .numGoroutine
    else if fn.body.isNone=true then(do
     mark (.extern f)
     if let some e:=Te fn then return<- e args
     match T7 fn with
     |some e=>pure (.value (<- e args))
     |none=>
      if fn.name.endsWith ".init" && !fn.name.startsWith "(" && !fn.name.startsWith "gosem." then pure (.value (.tuple #[]))
      else unsupported (.extern fn.name))
    else pure (.enter f args)).runT P w es:=λP w es=>rfl
  cases hf:Q.funcs[f]? with
  |none=>
   rw[hf]at he;refine eM ⟨⟨?_,?_⟩⟩
   .show(match(alt Q β).funcs[f]? with |none=>_|some fn=>_)=match Q.funcs[f]? with |none=>_|some fn=>_
    rw[he,hf];rfl
   .show Same Q (ax β) (match Q.funcs[f]? with |none=>_|some fn=>_);rw[hf];exact(zq2:Sm Q (ax β) (stuck "call: no such function" :Sem Next)).sm
  |some fn=>
   have hname:(ax β f fn).name=fn.name:=CX f fn;have hbody:(ax β f fn).body.isNone=false:=by
    simp_all[ax]
   rw[hf]at he;by_cases hn:(fn.name== "runtime.NumGoroutine")=true
   .refine eM ⟨⟨?_,?_⟩⟩
    .show(match(alt Q β).funcs[f]? with |none=>_|some fn=>_)=match Q.funcs[f]? with |none=>_|some fn=>_
     rw[he,hf];dsimp only[x5];rw[hname,if_pos hn,if_pos hn]
    .show Same Q (ax β) (match Q.funcs[f]? with |none=>_|some fn=>_);rw[hf];dsimp only;rw[if_pos hn];exact(zq2:Sm Q (ax β) (pure .numGoroutine:Sem Next)).sm
   .refine .foul (f:=f) (args:=args) (by rw[hb];rfl) λw es=> ?_
    rw[key,he];dsimp only[x5];rw[hname,hbody,if_neg hn];rfl
theorem qn(T:Twin Q β)(recv name args):oH Q β (callMethod recv name args):=by
 unfold callMethod;cases recv;case iface t v=>
  exact .prog (by simp[iV]) (nY zq2 zq2 λx=>nX T _ _)
 all_goals exact eM zq2
theorem n9(T:Twin Q β)(t args):oH Q β (invoke t args):=by
 unfold invoke;cases t with
 |nil=>exact eM zq2
 |builtin b ats t cs=>exact eM zq2
 |collected r=>exact eM zq2
 |coroexit c=>exact eM zq2
 |fn f c=>
  cases f with
  |func f=>exact nX T _ _
  |method n=>
   dsimp only;split
   .exact qn T _ _ _
   .exact eM zq2
  |methodOf t n=>
   dsimp only;split
   .refine nY zq2 zq2 λ_=> ?_
    repeat' (first |exact qn T _ _ _)
   .exact eM zq2
  |via t p f q=>
   dsimp only;split
   .exact nY zq2 zq2 λ_=>nX T _ _
   .exact eM zq2
  |yield l=>exact eM zq2
theorem Ez(T:Twin Q β)(ρ o):oH Q β (IN ρ o):=by
 unfold IN;cases o.op;case call c=>exact nY zq2 zq2 λd=>n9 T _ _
 case nilCheck x=>
  refine eM ?_;repeat' (first
   |exact zq2
   |(with_reducible refine mZ ?_ ?_)
   |(simp[iV])
   |split)
 all_goals first
  |(
   refine eM ?_;repeat' (first
    |exact zq2
    |(refine @ji _ _ _ _ _ _ ?_ λ_=> ?_)
    |(refine @Dy _ _ _ _ _ (λ_=> ?_) _)
    |split))
def qc(Q:up)(β:Nat->Option Code)(g:SI):Prop:=∃f args k,g.frame=Sw (alt Q β) f args k/\(β f).isSome=true/\g.status= .running/\∀d,g.dying=some d->d.calling=true
def PW(Q:up)(β:Nat->Option Code)(A B:GStep):Prop:=A=B\/∃g w es,A= .go g w es/\qc Q β g/\(Big es->Big B.es)
theorem FA(f args k cs dy w es)(hdy:∀d,dy=some d->d.calling=true):
 PW Q β (.go {frame:=Sw (alt Q β) f args k,callers:=cs,status:=.running,dying:=dy} w es) (.go {frame:=Sw Q f args k,callers:=cs,status:=.running,dying:=dy} w es):=by
 cases hb:β f with
 |some c=>exact .inr ⟨_,w,es,rfl,⟨f,args,k,rfl,by simp[hb],rfl,hdy⟩,id⟩
 |none=>
  have he:(alt Q β).funcs[f]?=Q.funcs[f]?:=by
   rw[iG];grind [ax]
  refine .inl ?_;simp_all[Sw]
theorem iW(fn es):seen (alt Q β) fn es=seen Q fn es:=by
 have h:∀f:TR,(alt Q β).funcs[f]?.any (·.norace)=Q.funcs[f]?.any (·.norace):=λf=>by
  rw[iG];grind [zn]
 unfold seen;grind
theorem Dl(fr:AS):fr.catches (alt Q β)=fr.catches Q:=by
 grind [iG,TK]
theorem Bi(T:Twin Q β)(k):(alt Q β).initFrom k=Q.initFrom k:=by
 unfold Program.initFrom;have hi:(alt Q β).inits=Q.inits:=rfl;have hm:(alt Q β).main=Q.main:=rfl;rw[hi,hm];refine congrArg (λx:Option TR=>x.getD Q.main) ?_;rw[<- Array.find?_toList,<- Array.find?_toList];refine find_congr λf hf=> ?_
 have hf2:f∈Q.inits:=by
  have:=Array.mem_toList_iff.1 hf;obtain⟨i,hi⟩:=Array.mem_iff_getElem?.1 this<;>grind
 rw[iG];cases hfn:Q.funcs[f]? with
 |none=>rfl
 |some fn=>
  show(ax β f fn).body.isSome=fn.body.isSome;cases hb:β f with
  |none=>rw[pS hb]
  |some c=>
   rw[T.begin f hf2 fn hfn (by rw[hb];rfl)];simp_all[ax]
theorem B6(fr:AS):fr.noResult (alt Q β)=fr.noResult Q:=rfl
theorem rP(raw):panicText (alt Q β) raw=panicText Q raw:=by
 funext v
 cases v<;>rfl
theorem Et(φ):sameBox (swap Q φ)=sameBox Q:=by
 rfl
instance xC(φ):∀c b,Sm Q φ (reportChain c b)
 |[],_=>⟨trivial⟩
 |e::older,b=>by
  have ih:=λb=>xC φ older b
  repeat' (first
   |exact zq2
   |(with_reducible refine mZ ?_ ?_)
   |(simp[Et])
   |(refine @Ac _ _ _ _ _ _ _ ?_ ?_)
   |split)
theorem BD(fr cs dy m w):endFatal (alt Q β) fr cs dy m w=endFatal Q fr cs dy m w:=by
 simp only[endFatal,lJ,rP];rw[km];repeat' (first
  |exact zq2
  |(refine @ji _ _ _ _ _ _ ?_ λ_=> ?_)
  |(refine @Cs _ _ _ _ _ (λ_=> ?_) _)
  |split)
instance LL(φ s):Sm Q φ (withAddress s):=by
 unfold withAddress;exact zq2
theorem Cg(fr d f w):writeOn (alt Q β) fr d f w=writeOn Q fr d f w:=by
 unfold writeOn;dsimp only;split
 .rfl
 .rw[ic];repeat' (first
   |exact zq2
   |(with_reducible refine mZ ?_ ?_)
   |with_reducible rfl
   |(simp only[A5];done)
   |(refine @ji _ _ _ _ _ _ ?_ λ_=> ?_)
   |(refine @Ac _ _ _ _ _ _ _ ?_ ?_)
   |split
   |dsimp only)
end
end
section
@[reducible] def Pu(n:Nat):aD where
 ok:=λ| .go _=>false|_=>true
 cm:=True
 lim:=n
 nogo _:=rfl
 send _ _ _:=trivial
 recv _ _ _ _:=trivial
 select _ _ _:=trivial
@[reducible] def K0(n:Nat):aD where
 ok:=λ| .go _=>false| .send _ _=>false| .recv _ _ _=>false| .select _ _=>false|_=>true
 cm:=False
 lim:=n
 nogo _:=rfl
 send _ _ h:=by cases h
 recv _ _ _ h:=by cases h
 select _ _ h:=by cases h
section
@[reducible] def NC:aD:=K0 0
attribute [local instance] NC
variable(Q:up)(β:Nat->Option Code)
@[go_sem] theorem aK:(alt Q β).underlying=Q.underlying:=rfl
@[go_sem] theorem PO:(alt Q β).info?=Q.info?:=rfl
@[go_sem] theorem Pa:(alt Q β).types=Q.types:=rfl
@[go_sem] theorem Sk:(alt Q β).rt=Q.rt:=rfl
@[go_sem] theorem Ov:(alt Q β).follows=Q.follows:=rfl
@[go_sem] theorem Pb:(alt Q β).depth=Q.depth:=rfl
@[go_sem] theorem dP(t w):(isAgg t).run (alt Q β) w=(isAgg t).run Q w:=km zq2 w
@[go_sem] theorem dk(t w):(sizeOf t).run (alt Q β) w=(sizeOf t).run Q w:=km zq2 w
@[go_sem] theorem cz(t w):(zeroValue t).run (alt Q β) w=(zeroValue t).run Q w:=km zq2 w
@[go_sem] theorem NZ(t w):(typeInfo t).run (alt Q β) w=(typeInfo t).run Q w:=km zq2 w
@[go_sem] theorem IY(t w):(underlying t).run (alt Q β) w=(underlying t).run Q w:=km zq2 w
end
theorem ry{Q β f fn}(hf:Q.funcs[f]?=some fn)(hb:β f=none):(alt Q β).funcs[f]?=some fn:=by
 have:= @iG (K0 0) Q β f;simp[this,hf,ax,hb]
theorem a8{P f fn c}(hf:P.funcs[f]?=some fn)(hname:(fn.name== "runtime.NumGoroutine")=false)(hb:fn.body=some c)(args w):(Sv f args).run P w= .ok (.enter f args) w:=by
 simp_all[Sv]
def only (l:List Nat)(f:Nat):Option Code:=if l.contains f then none else some (.refuse "")
theorem bP{l f}(h:l.contains f=true):only l f=none:=by unfold only;rw[if_pos h]
end
section
open Go.Conc
def bO(fr:AS)(cs:List AS):SI:= {frame:=fr,callers:=cs,status:=.running,dying:=none}
def ND{α:Type}:Sem α->Prop
 | .pure _=>True
 | .halt _=>True
 | .load _ _ k=>∀v,ND (k v)
 | .program k=>∀p,ND (k p)
 |_=>False
theorem jq{α β s}{f:α->Sem β}(hs:ND s)(hf:∀a,ND (f a)):ND (s>>=f):=by
 induction s with
 |pure a=>exact hf a
 |halt h=>trivial
 |load m a k ih=>exactλv=>ih v (hs v)
 |program k ih=>exactλv=>ih v (hs v)
 |_=>exact hs.elim
theorem Nz{P α}{s:Sem α}(hs:ND s):∀w τ d,s.run P (ah w τ d)=cK (s.run P w) τ d:=by
 induction s with
 |pure a=>exactλw τ d=>rfl
 |halt h=>exactλw τ d=>rfl
 |load m a k ih=>
  intro w τ d;simp[Sem.run];cases w.cell? a with
  |some v=>exact ih v (hs v) w τ d
  |none=>
   have e:(ah w τ d).farLoad P a (m== .atomic)=w.farLoad P a (m== .atomic):=rfl;rw[e];cases w.farLoad P a (m== .atomic)with
   |ok r=>exact ih _ (hs _) w τ d
   |error h=>rfl
 |program k ih=>exactλw τ d=>ih P (hs P) w τ d
 |_=>exact hs.elim
theorem zp(t):ND (underlying t):=by
 intro p;show ND (match p.underlying t with |some d=>pure d|none=>stuck "no such type");split <;>trivial
theorem D2(t):ND (typeInfo t):=by
 intro p;show ND (match p.info? t with |some i=>pure i|none=>stuck "no such type");split <;>trivial
theorem Hh(t):ND (sizeOf t):=jq (D2 t) λ_=>trivial
theorem Bb(a):∀n i acc,ND (loadCellsFrom a i n acc)
 |0,i,acc=>trivial
 |n+1,i,acc=>λv=>Bb a n (i+1) _
theorem Fb(t a):ND (loadVar t a):=by
 refine jq (jq (zp t) λd=> ?_) λb=> ?_
 .split <;>trivial
 .split
  .exact jq (Hh t) λn=>jq (Bb a n 0 #[]) λ_=>trivial
  .exactλv=>trivial
theorem Mn{α β:Type}(f:α->Sem β)(hf:∀a,ND (f a))(xs:Array α):ND (xs.mapM f):=by
 rw[Array.mapM_eq_foldlM,<- Array.foldlM_toList];generalize #[]=acc;induction xs.toList generalizing acc with
 |nil=>trivial
 |cons x l ih=>
  exact jq (jq (hf x) λ_=>trivial) λacc'=>ih acc'
theorem ut{P}{fr:AS}{w e}(h:fr.leaving P w e)(τ d):fr.leaving P (ah w τ d) e:=by
 cases e with
 |returned v=>
  obtain⟨h1,h2,h3,fn,h4,h5⟩:=h;refine⟨h1,h2,h3,fn,h4,?_⟩;have:ND (results fn fr.tmps):=by
   refine jq (Mn _ (λr=> ?_) _) λ_=>trivial
   split
   .trivial
   .refine jq ?_ λa=>Fb _ a
    unfold asAddr;split
    .trivial
    .exactλp=>trivial
    .trivial
  rw[Nz this,h5];rfl
 |panicked ch=>exact h
 |outgrown=>trivial
structure dZ(P:up) where
 okF:TR->Prop
 H:(SI->By->Prop)->SI->By->Prop
 re:∀K g w τ d,H K g (ah w τ d)->H K g w
 stop:∀K g w,K g w->H K g w
 bind:∀K K' g w,H K g w->(∀g' w',K g' w'->H K' g' w')->H K' g w
 hit:∀K g w,g.status= .running->(∀g w,K g w->g.status= .running/\okF g.frame.fn)->(∀τ d,yZ P K g (ah w τ d))->H K g w
section
variable{P:up}{D:dZ P}{K:SI->By->Prop}{fr fr':AS}{cs cs':List AS}{w:By}
theorem dZ.er{g}(h:D.H K g w)(τ d):D.H K g (ah w τ d):=D.re K g _ w.tape w.drawn h
theorem dD{u u'}(h:Steps P (lone fr cs u) (lone fr' cs' u'))(hk:K (bO fr' cs') u'):yZ P K (bO fr cs) u:=by
 obtain⟨n,hn⟩:=h;exact⟨n,bO fr' cs',u',hn,hk⟩
theorem dZ.go(hf:∀τ d,yZ P (λg u=>(g.status= .running/\D.okF g.frame.fn)/\D.H K g u) (bO fr cs) (ah w τ d)):D.H K (bO fr cs) w:=
 D.bind _ K _ _ (D.hit _ _ _ rfl (λg u h=>h.1) hf) λg' w' h=>h.2
theorem dZ.one(h:∀u,step P (lone fr cs u)= .next (lone fr' cs' u))(hf:D.okF fr'.fn)(hk:D.H K (bO fr' cs') w):D.H K (bO fr cs) w:=
 D.go λτ d=>dD (.one (h _)) ⟨⟨rfl,hf⟩,D.er hk τ d⟩
theorem dZ.step{f:By->By}(h:∀τ d,step P (lone fr cs (ah w τ d))= .next (lone fr' cs' (f (ah w τ d))))(hf:D.okF fr'.fn)(hk:∀τ d,D.H K (bO fr' cs') (f (ah w τ d))):D.H K (bO fr cs) w:=
 D.go λτ d=>dD (.one (h τ d)) ⟨⟨rfl,hf⟩,hk τ d⟩
def Cont(D:dZ P)(b:AS)(k:List Item)(cs:List AS)(K:SI->By->Prop):Exit->Act->By->Prop
 | .normal,a,w=>D.H K (bO (b.at a k) cs) w
 | .exit id,a,w=>∃k',exitTo id k=some k'/\D.H K (bO (b.at a k') cs) w
 | .goto l,a,w=>∃k',gotoIn l k=some k'/\D.H K (bO (b.at a k') cs) w
 | .ret,a,w=>∀todo,D.H K (bO {b.at a todo with mode:=.returning} cs) w
 | .panic chain,a,w=>∀todo,D.H K (bO {b.at a todo with mode:=.panicking chain} cs) w
 | .outgrown,_,_=>False
def cL(D:dZ P)(c:Code)(Q:Exit->Act->By->Prop)(a:Act)(w:By):Prop:=
 ∀(b:AS)(k:List Item)(cs:List AS)(K:SI->By->Prop),D.okF b.fn->b.kind≠.early->(∀e a' w',Q e a' w'->Cont D b k cs K e a' w')->D.H K (bO (b.at a (.code c::k)) cs) w
def aV(D:dZ P)(ops:Array Oper)(Q:Exit->Act->By->Prop)(l:List Nat)(a:Act)(w:By):Prop:=
 ∀(b:AS)(k:List Item)(cs:List AS)(K:SI->By->Prop),D.okF b.fn->b.kind≠.early->(∀e a' w',Q e a' w'->Cont D b k cs K e a' w')->D.H K (bO (b.at a (.inRegion ops l::k)) cs) w
def cb(D:dZ P)(f:TR)(args:Array No)(w:By)(R:Ending->By->Prop):Prop:=
 ∀(cs:List AS)(K:SI->By->Prop),(∀e w' fr,R e w'->e≠.outgrown->fr.fn=f->fr.leaving P w' e->D.H K (bO fr cs) w')->D.H K (bO (Sw P f args .normal) cs) w
variable{c:Code}{Q Q':Exit->Act->By->Prop}{a:Act}{b:AS}{k:List Item}
theorem Cont.er{e}(h:Cont D b k cs K e a w)(τ d):Cont D b k cs K e a (ah w τ d):=by
 cases e with
 |normal=>exact D.er h τ d
 |exit id=>obtain⟨k',h1,h2⟩:=h;exact⟨k',h1,D.er h2 τ d⟩
 |goto l=>obtain⟨k',h1,h2⟩:=h;exact⟨k',h1,D.er h2 τ d⟩
 |ret=>exactλtodo=>D.er (h todo) τ d
 |panic ch=>exactλtodo=>D.er (h todo) τ d
 |outgrown=>exact h
theorem D6{u e a' w'}(hok:D.okF b.fn)(hk:b.kind≠.early)(h:Arrives P (lone fr cs u) b k cs e a' w')(hc:Cont D b k cs K e a' w'):
 yZ P (λg u=>(g.status= .running/\D.okF g.frame.fn)/\D.H K g u) (bO fr cs) u:=by
 cases e with
 |normal=>exact dD h ⟨⟨rfl,hok⟩,hc⟩
 |exit id=>obtain⟨k',h1,h2⟩:=hc;exact dD (h k' h1) ⟨⟨rfl,hok⟩,h2⟩
 |goto l=>obtain⟨k',h1,h2⟩:=hc;exact dD (h k' h1) ⟨⟨rfl,hok⟩,h2⟩
 |ret=>obtain⟨todo,h⟩:=h;exact dD h ⟨⟨rfl,hok⟩,hc todo⟩
 |panic ch=>obtain⟨todo,h⟩:=h;exact dD h ⟨⟨rfl,hok⟩,hc todo⟩
 |outgrown=>exact hc.elim
theorem qG(h:∀τ d,c.wp P Q a (ah w τ d)):cL D c Q a w:=λb k cs K hok hk hc=>D.go λτ d=>by
 obtain⟨e,a',w',hq,h0⟩:=h τ d b k cs;exact D6 hok hk h0 (hc _ _ _ hq)
theorem ag(h:∀w1,w1.heap=w.heap->c.wp P Q a w1):cL D c Q a w:=qG λτ d=>h _ rfl
theorem zK(h:cL D c Q a w)(hq:∀e a w,Q e a w->Q' e a w):cL D c Q' a w:=λb k cs K hok hk hc=>h b k cs K hok hk λe a' w' h=>hc _ _ _ (hq _ _ _ h)
theorem N6(h:cL D c Q a w)(τ d):cL D c Q a (ah w τ d):=λb k cs K hok hk hc=>D.er (h b k cs K hok hk hc) τ d
theorem Mc{ops l}(h:aV D ops Q l a w)(τ d):aV D ops Q l a (ah w τ d):=λb k cs K hok hk hc=>D.er (h b k cs K hok hk hc) τ d
theorem cb.mono{f args R R'}(h:cb D f args w R)(hr:∀e w',R e w'->R' e w'):cb D f args w R':=
 λcs K hK=>h cs K λe w' fr h1 h2 h3 h4=>hK e w' fr (hr _ _ h1) h2 h3 h4
theorem cb.er{f args R}(h:cb D f args w R)(τ d):cb D f args (ah w τ d) R:=λcs K hK=>D.er (h cs K hK) τ d
theorem cb.re{f args R τ d}(h:cb D f args (ah w τ d) R):cb D f args w R:=λcs K hK=>D.re _ _ _ τ d (h cs K hK)
theorem fS(h:Q .normal a w):cL D .skip Q a w:=λb k cs K hok hk hc=>D.one (λu=>step_skip) hok (hc _ _ _ h)
theorem J0{id}(h:Q (.exit id) a w):cL D (.exit id) Q a w:=λb k cs K hok hk hc=>by
 obtain⟨k',h1,h2⟩:=hc _ _ _ h;exact D.one (λu=>step_exit h1) hok h2
theorem pq{x}(hx:x.plain=true){e}(he:e≠.normal){a w}(h:Cont D b k cs K e a w):Cont D b (x::k) cs K e a w:=by
 cases e with
 |normal=>exact absurd rfl he
 |exit id=>obtain⟨k',h1,h2⟩:=h;exact⟨k',by cases x<;>simp_all[exitTo,Item.plain],h2⟩
 |goto l=>obtain⟨k',h1,h2⟩:=h;exact⟨k',by cases x<;>simp_all[gotoIn,Item.plain],h2⟩
 |ret=>exact h
 |panic ch=>exact h
 |outgrown=>exact h
theorem xo{x y}(h:cL D x (Exit.then (cL D y Q) Q) a w):cL D (.seq x y) Q a w:=λb k cs K hok hk hc=>
 D.one (λu=>step_seq) hok (h b (.code y::k) cs K hok hk λe a' w' hq=>by
  cases e with
  |normal=>exact hq b k cs K hok hk hc
  |exit id=>exact pq rfl (by simp) (hc _ _ _ hq)
  |goto l=>exact pq rfl (by simp) (hc _ _ _ hq)
  |ret=>exact hc _ _ _ hq
  |panic ch=>exact hc _ _ _ hq
  |outgrown=>exact hc _ _ _ hq)
theorem ac{x y}(h:∀K,RowKit.Hid (∀a w,cL D y Q a w->K a w)->cL D x (Exit.then K Q) a w):cL D (.seq x y) Q a w:=xo (h _ (Lib.hid λ_ _ h=>h))
theorem zL{c x y t}(hc:a.eval c= .bool t)(h:cL D (if t then x else y) Q a w):cL D (.cond c x y) Q a w:=λb k cs K hok hk hcc=>
 D.one (λu=>step_cond hc) hok (h b k cs K hok hk hcc)
theorem bG{c x y}(hc:a.eval c= .bool true)(h:cL D x Q a w):cL D (.cond c x y) Q a w:=zL hc h
theorem bK{c x y}(hc:a.eval c= .bool false)(h:cL D y Q a w):cL D (.cond c x y) Q a w:=zL hc h
theorem ec{id c}(h:cL D c (TS id Q) a w):cL D (.block id c) Q a w:=λb k cs K hok hk hc=>
 D.one (λu=>step_block) hok (h b (.inBlock id::k) cs K hok hk λe a' w' hq=>by
  cases e with
  |normal=>exact D.one (λu=>step_inBlock) hok (hc _ _ _ hq)
  |exit id'=>
   by_cases hid:id'=id
   .simp[TS,hid]at hq;exact⟨k,by simp[exitTo,hid],hc _ _ _ hq⟩
   .simp[TS,hid]at hq;obtain⟨k',h1,h2⟩:=hc _ _ _ hq;have:(id==id')=false:=by grind
    exact⟨k',by simp[exitTo,this,h1],h2⟩
  |goto l=>obtain⟨k',h1,h2⟩:=hc _ _ _ hq;exact⟨k',by simp[gotoIn,h1],h2⟩
  |ret=>exact hc _ _ _ hq
  |panic ch=>exact hc _ _ _ hq
  |outgrown=>exact hc _ _ _ hq)
theorem Eh{id ops}(h:aV D ops Q (List.range ops.size) a w):cL D (.region id ops false) Q a w:=λb k cs K hok hk hc=>
 D.one (λu=>step_region) hok (h b k cs K hok hk hc)
theorem oM{id ops}(h:∀t,aV D ops Q (Region.schedule (P.follows .mixedOrders) ops t) a w):cL D (.region id ops true) Q a w:=λb k cs K hok hk hc=>
 D.go λτ d=>dD (.one step_region_draw) ⟨⟨rfl,hok⟩,D.er (w:=w) (h _ b k cs K hok hk hc) τ (d+1)⟩
theorem az{ops}(h:Q .normal a w):aV D ops Q [] a w:=λb k cs K hok hk hc=>D.one (λu=>step_region_end) hok (hc _ _ _ h)
theorem H9{ops i N}(h:wpOp P ops Q i N a w)(b:AS)(rest k cs)(hk:b.kind≠.early):
 (∃a' w',N a' w'/\Steps P (lone (b.at a (.inRegion ops (i::rest)::k)) cs w) (lone (b.at a' (.inRegion ops rest::k)) cs w'))\/
 (∃chain w',Q (.panic chain) a w'/\∃todo,Steps P (lone (b.at a (.inRegion ops (i::rest)::k)) cs w) (lone {b.at a todo with mode:=.panicking chain} cs w'))\/∃a w,Q .outgrown a w:=by
 unfold wpOp at h;split at h
 .rename_i ho;have hs:=step_op_skip (P:=P) (b:=b) (a:=a) (k:=k) (cs:=cs) (w:=w) (ops:=ops) (i:=i) (rest:=rest) (by simp[ho]);simp only[ho,Option.bind_none,Act.put]at hs;exact .inl ⟨a,w,h,.one hs⟩
 .rename_i o ho;split at h
  .rename_i hw;rcases h with h|⟨_,hout⟩
   .have hg:=stepG_op (P:=P) (b:=b) (k:=k) (cs:=cs) (w:=w) (rest:=rest) ho hw;have hfin:∀v,(b.at a (.inRegion ops (i::rest)::k)).finish v=b.at (a.put o.dst v) (.inRegion ops rest::k):=λv=>by
     rw[TC,ho];rfl
    unfold Oper.wp at h;generalize hr:(IN a.eval o).run P w=r at h;cases r with
    |ok n w'=>
     cases n<;>simp only[Oper.upon]at h;case value v=>exact .inl ⟨_,_,h,.one (step_lone_go (by rw[hg,<- hfin];simp[stepG.apply,hr]))⟩
     case skip=>exact .inl ⟨_,_,h,.one (step_lone_go (by rw[hg,<- hfin];simp[stepG.apply,hr]))⟩
     case defer d=>
      refine .inl ⟨_,_,h,.one (step_lone_go ?_)⟩;have:({b.at a (.inRegion ops (i::rest)::k)with defers:=d::a.defers}:AS).finish undef=b.at ({a with defers:=d::a.defers}.put o.dst undef) (.inRegion ops rest::k):=by
       have:=TC b {a with defers:=d::a.defers} ops i rest k undef;rw[ho]at this;exact this
      rw[hg];simp only[stepG.apply,Sem.runT_eq,hr,GStep.bare_after];exact congrArg (λfr=>GStep.go {frame:=fr,callers:=cs,status:=.running,dying:=none} w') this
     case enter f args=>
      obtain⟨e,w2,fr,hR,h0,_,hleave⟩:=h (b.at a (.inRegion ops (i::rest)::k)::cs);have henter:step P (lone (b.at a (.inRegion ops (i::rest)::k)) cs w)= .next (lone (Sw P f args .normal) (b.at a (.inRegion ops (i::rest)::k)::cs) w'):=
       step_lone_go (by rw[hg];simp[stepG.apply,hr,Frame.at])
      cases e with
      |returned v=>exact .inl ⟨_,_,hR,.head henter (Steps.trans h0 (.one (by rw[<- hfin];exact step_leave_returned hleave)))⟩
      |panicked chain=>exact .inr (.inl ⟨chain,w2,hR,.inRegion ops (i::rest)::k,.head henter (Steps.trans h0 (.one (by exact step_leave_panicked hleave)))⟩)
      |outgrown=>exact .inr (.inr hR)
     case row row args=>
      obtain⟨v,w2,hR,hsteps⟩:=h (b.at a (.inRegion ops (i::rest)::k)) cs;have henter:step P (lone (b.at a (.inRegion ops (i::rest)::k)) cs w)= .next (lone (Frame.ofRow P row args .normal) (b.at a (.inRegion ops (i::rest)::k)::cs) w'):=
       step_lone_go (by rw[hg];simp[stepG.apply,hr,Frame.at])
      exact .inl ⟨_,_,hR,.head henter (by rw[<- hfin];omega)⟩
    |halt x w'=>
     cases x<;>simp only[Oper.upon]at h;case panic v=>exact .inr (.inl ⟨_,w',h,.inRegion ops (i::rest)::k,.one (step_lone_go (by rw[hg,<- Frame.raise_at];simp[stepG.apply,hr]))⟩)
   .exact .inr (.inr hout)
  .have hs:=step_op_skip (P:=P) (b:=b) (a:=a) (k:=k) (cs:=cs) (w:=w) (ops:=ops) (i:=i) (rest:=rest) (by grind);simp only[ho,TW]at hs;exact .inl ⟨_,_,h,.one hs⟩
theorem Mb{ops i rest Q1 N}(h:∀τ d,wpOp P ops Q1 i N a (ah w τ d))(hn:∀a' w',N a' w'->aV D ops Q rest a' w')
 (hp:∀chain a' w',Q1 (.panic chain) a' w'->Q (.panic chain) a' w') (ho:∀a' w',Q1 .outgrown a' w'->Q .outgrown a' w'):aV D ops Q (i::rest) a w:=λb k cs K hok hk hc=>D.go λτ d=>by
 rcases H9 (h τ d) b rest k cs hk with⟨a',w',h1,h2⟩|⟨ch,w',h1,todo,h2⟩|⟨a',w',h1⟩
 .exact dD h2 ⟨⟨rfl,hok⟩,hn _ _ h1 b k cs K hok hk hc⟩
 .exact dD h2 ⟨⟨rfl,hok⟩,hc _ _ _ (hp _ _ _ h1) todo⟩
 .exact(hc _ _ _ (ho _ _ h1)).elim
theorem DK{ops Q1}(rest):∀l a w,wpOps P ops Q1 l a w->∀(b:AS) k cs,b.kind≠.early->
 (∃a' w',Q1 .normal a' w'/\Steps P (lone (b.at a (.inRegion ops (l++rest)::k)) cs w) (lone (b.at a' (.inRegion ops rest::k)) cs w'))\/
 (∃chain a' w',Q1 (.panic chain) a' w'/\∃todo,Steps P (lone (b.at a (.inRegion ops (l++rest)::k)) cs w) (lone {b.at a' todo with mode:=.panicking chain} cs w'))\/∃a w,Q1 .outgrown a w:=by
 intro l;induction l with
 |nil=>exactλa w h b k cs _=>.inl ⟨a,w,h,.refl _ _⟩
 |cons i l ih=>
  intro a w h b k cs hk;rcases H9 h b (l++rest) k cs hk with⟨a',w',h1,h2⟩|⟨ch,w',h1,todo,h2⟩|h1
  .rcases ih a' w' h1 b k cs hk with⟨a2,w2,k1,k2⟩|⟨ch,a2,w2,k1,todo,k2⟩|k1
   .exact .inl ⟨a2,w2,k1,h2.trans k2⟩
   .exact .inr (.inl ⟨ch,a2,w2,k1,todo,h2.trans k2⟩)
   grind
  .exact .inr (.inl ⟨ch,a,w',h1,todo,h2⟩)
  grind
theorem r7{ops l rest Q1}(h:∀τ d,wpOps P ops Q1 l a (ah w τ d))(hn:∀a' w',Q1 .normal a' w'->aV D ops Q rest a' w')
 (hp:∀chain a' w',Q1 (.panic chain) a' w'->Q (.panic chain) a' w') (ho:∀a' w',Q1 .outgrown a' w'->Q .outgrown a' w'):aV D ops Q (l++rest) a w:=λb k cs K hok hk hc=>D.go λτ d=>by
 rcases DK rest l a _ (h τ d) b k cs hk with⟨a',w',h1,h2⟩|⟨ch,a',w',h1,todo,h2⟩|⟨a',w',h1⟩
 .exact dD h2 ⟨⟨rfl,hok⟩,hn _ _ h1 b k cs K hok hk hc⟩
 .exact dD h2 ⟨⟨rfl,hok⟩,hc _ _ _ (hp _ _ _ h1) todo⟩
 .exact(hc _ _ _ (ho _ _ h1)).elim
theorem qF{ops}(l):∀k,(∀j,j<l.length->l[j]?=ops[k+j]?)->wpOps P ops Q (SS k l.length)=wpList P ops Q l:=by
 induction l with
 |nil=>simp[wpOps,wpList]
 |cons o l ih=>
  intro k h;have h0:=by simpa using(h 0 (by simp)).symm
  have ih':=ih (k+1) λj hj=>by have:=h (j+1) (by simpa using hj);grind
  simp_all[List.range'_succ,wpOps,wpList]
theorem aW{l:List Oper}(s n m)(h:∀N,RowKit.Hid (∀a' w',aV D l.toArray Q (SS (s+n) m) a' w'->N a' w')->∀w1,w1.heap=w.heap->wpList P l.toArray (Exit.then N Q) ((l.drop s).take n) a w1)(hl:s+n<=l.length):
 aV D l.toArray Q (SS s (n+m)) a w:=by
 have e:SS s (n+m)=SS s n++SS (s+n) m:=by
  rw[<- List.range'_append_1]
 rw[e];have hlen:((l.drop s).take n).length=n:=by rw[List.length_take,List.length_drop];omega
 refine r7 (Q1:=Exit.then (λa' w'=>aV D l.toArray Q (SS (s+n) m) a' w') Q) (λτ d=> ?_) (λa' w' h=>h) (λch a' w' h=>h) λa' w' h=>h
 have:=h (λa' w'=>aV D l.toArray Q (SS (s+n) m) a' w') (Lib.hid λ_ _ h=>h) (ah w τ d) rfl;rw[<- qF ((l.drop s).take n) s (λj hj=>by
  rw[hlen]at hj;simp[List.getElem?_take_of_lt hj]),hlen]at this
 omega
theorem ao{id}{l:List Oper}(h:aV D l.toArray Q (SS 0 l.length) a w):cL D (.region id l.toArray false) Q a w:=Eh (by rw[List.range_eq_range'];omega)
theorem f9{ops i rest o f args R}(ho:ops[i]?=some o)(hw:T8 o (yielded ops a.tmps)=true)
 (hx:∀u,(IN a.eval o).run P u= .ok (.enter f args) u) (hf:D.okF f) (h:cb D f args w R)
 (hr:∀v w',R (.returned v) w'->aV D ops Q rest (a.put o.dst v) w') (hp:∀ch w',R (.panicked ch) w'->Q (.panic ch) a w'):aV D ops Q (i::rest) a w:=λb k cs K hok hk hc=>by
 have hg:=λu=>stepG_op (P:=P) (b:=b) (k:=k) (cs:=cs) (w:=u) (rest:=rest) ho hw
 have hfin:∀v,(b.at a (.inRegion ops (i::rest)::k)).finish v=b.at (a.put o.dst v) (.inRegion ops rest::k):=λv=>by
  simp[TC,ho]
 refine D.one (fr':=Sw P f args .normal) (cs':=b.at a (.inRegion ops (i::rest)::k)::cs) (λu=>step_lone_go (by simp_all[stepG.apply,Frame.at])) hf ?_;refine h _ K λe w' fr hR hne hfn hl=> ?_
 cases e with
 |returned v=>
  refine D.go λτ d=>dD (.one (step_leave_returned (ut hl τ d))) ⟨⟨rfl,hok⟩,?_⟩
  rw[hfin];exact D.er (hr v w' hR b k cs K hok hk hc) τ d
 |panicked ch=>exact D.one (λu=>step_leave_panicked (w:=u) hl) hok (hc _ _ _ (hp ch w' hR) _)
 |outgrown=>exact absurd rfl hne
theorem bu{f fn c args R}(hok:D.okF f)(h0:∀w',¬ R .outgrown w')(hf:P.funcs[f]?=some fn)(hb:fn.body=some c)
 (h:cL D c (bodyPost P fn R) {tmps:=args++U6 (fn.ntmps-args.size) undef,defers:=[]} w):cb D f args w R:=λcs K hK=>by
 let b:= {(default:AS)with fn:=f,kind:=.normal}
 have henter:Sw P f args .normal=b.at {tmps:=args++U6 (fn.ntmps-args.size) undef,defers:=[]} [.code c]:=by
  grind [Sw,Frame.at]
 rw[henter];refine h b [] cs K hok (by simp[b]) λe a' w' hq=> ?_
 cases e with
 |normal=>
  obtain⟨hd,v,hr,hR⟩:=hq;exact D.one (λu=>step_end) hok (hK _ _ _ hR (by simp) rfl ⟨rfl,hd,rfl,fn,hf,hr⟩)
 |ret=>
  obtain⟨hd,v,hr,hR⟩:=hq;exactλtodo=>hK _ _ _ hR (by simp) rfl ⟨rfl,hd,rfl,fn,hf,hr⟩
 |panic ch=>
  obtain⟨hd,hR⟩:=hq;exactλtodo=>hK _ _ _ hR (by simp) rfl ⟨rfl,hd,fn,hf⟩
 |exit id=>exact hq.elim
 |goto l=>exact hq.elim
 |outgrown=>exact(h0 _ hq).elim
end
end
section
section
variable(σ:Nat->Nat)
def bi(a:Addr):Addr:= {a with block:=σ a.block}
def kO:Fn->Fn
 | .yield l=>.yield (σ l)
 |f=>f
def ab:No->No
 | .pointer a=>.pointer (a.map (bi σ))
 | .slice a n c=>.slice (a.map (bi σ)) n c
 | .map r=>.map (r.map σ)
 | .chan r=>.chan (r.map σ)
 | .func fn first captured=>.func (kO σ fn) (first.attach.map λ⟨x,_⟩=>ab x) (captured.attach.map λ⟨x,_⟩=>ab x)
 | .iface t v=>.iface t (ab v)
 | .agg cs=>.agg (cs.attach.map λ⟨x,_⟩=>ab x)
 | .tuple vs=>.tuple (vs.attach.map λ⟨x,_⟩=>ab x)
 | .bool b=>.bool b
 | .int k n=>.int k n
 | .float k b=>.float k b
 | .complex k a b=>.complex k a b
 | .string s=>.string s
 | .nilFunc=>.nilFunc
 | .nilIface=>.nilIface
end
section
variable{σ:Nat->Nat}
theorem attach_map{α β:Type}(a:Array α)(f:α->β):(a.attach.map λx=>match x with |⟨x,_⟩=>f x)=a.map f:=by
 simp
@[simp] theorem aY(a):ab σ (.pointer a)= .pointer (a.map (bi σ)):=by rw[ab]
@[simp] theorem dG(a n c):ab σ (.slice a n c)= .slice (a.map (bi σ)) n c:=by rw[ab]
@[simp] theorem ls(r):ab σ (.map r)= .map (r.map σ):=by rw[ab]
@[simp] theorem ko(r):ab σ (.chan r)= .chan (r.map σ):=by rw[ab]
@[simp] theorem iZ(fn a b):ab σ (.func fn a b)= .func (kO σ fn) (a.map (ab σ)) (b.map (ab σ)):=by rw[ab,attach_map,attach_map]
@[simp] theorem dW(t v):ab σ (.iface t v)= .iface t (ab σ v):=by rw[ab]
@[simp] theorem fy(cs):ab σ (.agg cs)= .agg (cs.map (ab σ)):=by rw[ab,attach_map]
@[simp] theorem gl(cs):ab σ (.tuple cs)= .tuple (cs.map (ab σ)):=by rw[ab,attach_map]
@[simp] theorem fK(b):ab σ (.bool b)= .bool b:=by rw[ab]
@[simp] theorem cr(k n):ab σ (.int k n)= .int k n:=by rw[ab]
@[simp] theorem eC(k n):ab σ (.float k n)= .float k n:=by rw[ab]
@[simp] theorem eZ(k n m):ab σ (.complex k n m)= .complex k n m:=by rw[ab]
@[simp] theorem ct(s):ab σ (.string s)= .string s:=by rw[ab]
@[simp] theorem fT:ab σ .nilFunc= .nilFunc:=by rw[ab]
@[simp] theorem db:ab σ .nilIface= .nilIface:=by rw[ab]
@[simp] theorem jo(a):(bi σ a).block=σ a.block:=rfl
@[simp] theorem AJ(a):(bi σ a).off=a.off:=rfl
@[simp] theorem GU(a):(bi σ a).spot=a.spot:=rfl
@[simp] theorem qW(a n):bi σ (a.add n)=(bi σ a).add n:=by
 unfold Addr.add;split <;>rfl
@[simp] theorem ig(v):(ab σ v).cells=v.cells.map (ab σ):=by
 cases v<;>simp[Value.cells]
@[simp] theorem jl:ab σ undef=undef:=by simp[undef]
theorem AF(v):(ab σ v).oneCell'=v.oneCell':=by
 cases v<;>simp[U8]
def ii(e:SE):SE:=
 match e.loc with
 | .cell a=> {e with loc:=.cell (bi σ a)}
 | .obj r=> {e with loc:=.obj (σ r)}
 | .mark (.acquire a)=> {e with loc:=.mark (.acquire (bi σ a))}
 | .mark (.release a)=> {e with loc:=.mark (.release (bi σ a))}
 | .mark (.releaseMerge a)=> {e with loc:=.mark (.releaseMerge (bi σ a))}
 | .mark (.read a)=> {e with loc:=.mark (.read (bi σ a))}
 | .mark (.write a)=> {e with loc:=.mark (.write (bi σ a))}
 |_=>e
def Pn:Halt->Halt
 | .panic v=>.panic (ab σ v)
 |h=>h
def Plain:Obj->Prop
 | .number _ _=>False
 | .view _ _=>False
 | .pending _ _=>False
 |_=>True
def yc(σ:Nat->Nat)(ro d:Prop)(o:Obj)(x:Option Obj):Prop:=
 match o with
 | .cells c e fz=>(ro->fz=(0,c.size)/\∃fz',x=some (.cells (c.map (ab σ)) e fz')/\fz'.2<=c.size)/\(¬ ro->x=some (.cells (c.map (ab σ)) e fz))
 | .number a l=>x=some (.number (bi σ a) l)
 | .pending _ _=>False
 | .view _ _=>False
 |o=>d->∃o',x=some o'/\Plain o'/\((∃c e f,o'= .cells c e f)\/o'.isChan=o.isChan)
structure Known where
 d:Nat->Prop
 os:Os
instance:CoeFun Known λ_=>Nat->Prop:=⟨Known.d⟩
structure eo(σ:Nat->Nat)(Ro:Nat->Prop)(D:Known)(w w':By):Prop where
 inj:∀i j,σ i=σ j->i=j
 tape:w'.tape=w.tape
 drawn:w'.drawn=w.drawn
 ro:∀i,Ro i->i<w.heap.size
 blk:∀i o,w.heap[i]?=some o->yc σ (Ro i) (D i) o w'.heap[σ i]?
 num:∀(i:Nat)(a:Addr)(l:Bool),w.heap[i]?=some (.number a l)->D a.block
 os:w.os=D.os/\w'.os=D.os
def g6(σ:Nat->Nat)(w w':By)(n:Nat):Prop:=∀j,w.heap.size+j<n->σ (w.heap.size+j)=w'.heap.size+j
class Ren(α:Type) where
 ren:(Nat->Nat)->α->α
instance:Ren No:=⟨ab⟩
instance:Ren Addr:=⟨bi⟩
instance:Ren Unit:=⟨λ_ x=>x⟩
instance:Ren Nat:=⟨λ_ x=>x⟩
instance:Ren Int:=⟨λ_ x=>x⟩
instance:Ren Bool:=⟨λ_ x=>x⟩
instance:Ren ByteArray:=⟨λ_ x=>x⟩
instance:Ren UInt8:=⟨λ_ x=>x⟩
instance:Ren IntKind:=⟨λ_ x=>x⟩
instance:Ren TypeInfo:=⟨λ_ x=>x⟩
instance:Ren TypeDesc:=⟨λ_ x=>x⟩
instance:Ren up:=⟨λ_ x=>x⟩
instance{α β:Type}[Ren α][Ren β]:Ren (α×β):=⟨λσ x=>(Ren.ren σ x.1,Ren.ren σ x.2)⟩
instance{α:Type}[Ren α]:Ren (Array α):=⟨λσ x=>x.map (Ren.ren σ)⟩
instance{α:Type}[Ren α]:Ren (List α):=⟨λσ x=>x.map (Ren.ren σ)⟩
instance{α:Type}[Ren α]:Ren (Option α):=⟨λσ x=>x.map (Ren.ren σ)⟩
end
theorem mC{P}{w w1:By}{a v b l}(h:w.farStore P a v b= .ok (w1,l)):w1.heap.size=w.heap.size:=by
 unfold SV at h;split at h
 .split at h
  .rename_i hv;simp[Except.ok.injEq]at h;subst h;simp[Td,bind,SM]at hv;repeat' split at hv
   all_goals first
    |(cases hv;done)
    |(obtain⟨rfl,_⟩:=hv;simp)
  .cases h
 .cases h
theorem runT_size{α}(P)(s:Sem α):∀w es,w.heap.size<=(dh (s.runT P w es).1).heap.size:=by
 induction s with
 |pure a=>exactλw es=>AI _
 |halt x=>exactλw es=>AI _
 |load m a k ih=>
  intro w es;simp only[AT];split
  .exact ih _ _ _
  .split
   .exact ih _ _ _
   .exact AI _
 |store m a v k ih=>
  intro w es;cases v;all_goals simp only[AT]
  case agg=>exact AI _
  case tuple=>exact AI _
  all_goals
   split
   .split
    .exact AI _
    .exact Tt (by simp[SF]) (ih _ _)
   .split
    .rename_i hf;rw[<- mC hf];exact ih _ _
    .exact AI _
 |new o k ih=>exactλw es=>Tt (by simp) (ih _ _ _)
 |shape r k ih=>exactλw es=>ih _ _ _
 |freeze a n k ih=>exactλw es=>Tt (by grind [World.freeze]) (ih _ _)
 |frozen a k ih=>exactλw es=>ih _ _ _
 |getObj r k ih=>
  intro w es;simp only[AT];split
  .exact AI _
  .exact ih _ _ _
  .exact AI _
 |setObj r o k ih=>
  intro w es;simp only[AT];split
  .exact AI _
  .exact Tt (by simp) (ih _ _)
  .exact AI _
 |choose q k ih=>
  grind [AT]
 |sys c k ih=>
  intro w es;have:(w.sys c).2.heap=w.heap:=by
   unfold TP;obtain⟨k0,_,_,h3,_⟩:=nJ (Th c w.os) w<;>grind
  have:=ih (w.sys c).1 (w.sys c).2 (es.push ⟨.output,true,false⟩);simp_all[AT]
 |program k ih=>exactλw es=>ih _ _ _
 |mark m k ih=>exactλw es=>ih _ _
section
variable{σ:Nat->Nat}{Ro:Nat->Prop}{D:Known}{P P':up}
theorem tF(n):(Ren.ren σ n:Nat)=n:=rfl
theorem tG(n):(Ren.ren σ n:Int)=n:=rfl
theorem AE(n):(Ren.ren σ n:Bool)=n:=rfl
theorem xN(v):(Ren.ren σ v:No)=ab σ v:=rfl
theorem sH(v):(Ren.ren σ v:ByteArray)=v:=rfl
theorem Jw(v):(Ren.ren σ v:UInt8)=v:=rfl
theorem AD(v):(Ren.ren σ v:IntKind)=v:=rfl
theorem uP(v):(Ren.ren σ v:TypeInfo)=v:=rfl
theorem Jv(v):(Ren.ren σ v:TypeDesc)=v:=rfl
theorem GT{α β}[Ren α][Ren β](x:α)(y:β):Ren.ren σ (x,y)=(Ren.ren σ x,Ren.ren σ y):=rfl
theorem M5(v):(Ren.ren σ v:Array No)=v.map (ab σ):=rfl
def Sub(es es':Array SE):Prop:=∀e'∈es',∃e∈es,e'=ii (σ:=σ) e
theorem tB:Sub (σ:=σ) #[] #[]:=λe he=>by simp at he
theorem jR{es es'}(h:Sub (σ:=σ) es es')(e):Sub (σ:=σ) (es.push e) (es'.push (ii (σ:=σ) e)):=λx hx=>by
 rcases SG.1 hx with hx|rfl
 .obtain⟨y,hy,rfl⟩:=h x hx<;>grind
 simp
theorem Jd{es es'}(h:Sub (σ:=σ) es es')(e):Sub (σ:=σ) (es.push e) es':=λx hx=>by
 obtain⟨y,hy,rfl⟩:=h x hx<;>grind
def Ca{α:Type}[Ren α](σ:Nat->Nat)(Ro:Nat->Prop)(D:Known)(w w':By)(x x':Result α×Array SE):Prop:=¬ Big x.2/\
 ((∃a w1 w1',x.1= .ok a w1/\x'.1= .ok (Ren.ren σ a) w1'/\Sub (σ:=σ) x.2 x'.2/\eo σ Ro D w1 w1'/\w1'.heap.size+w.heap.size=w'.heap.size+w1.heap.size)\/
 (∃h w1 w1',x.1= .halt h w1/\¬ Dead h/\x'.1= .halt (Pn (σ:=σ) h) w1'/\Sub (σ:=σ) x.2 x'.2/\eo σ Ro D w1 w1'/\w1'.heap.size+w.heap.size=w'.heap.size+w1.heap.size)\/
 (∃h w1,x.1= .halt h w1/\Dead h))
def mu{α:Type}[Ren α](P P':up)(σ:Nat->Nat)(Ro:Nat->Prop)(D:Known)(s s':Sem α):Prop:=
 ∀w w' es es',eo σ Ro D w w'->¬ Big es->Sub (σ:=σ) es es'->g6 σ w w' (dh (s.runT P w es).1).heap.size->Ca σ Ro D w w' (s.runT P w es) (s'.runT P' w' es')
theorem jW{w w' n m}(h:g6 σ w w' n)(hm:m<=n):g6 σ w w' m:=λj hj=>h j (by omega)
theorem vb{w w' w1 w1' n}(h:g6 σ w w' n)(h1:w.heap.size<=w1.heap.size)(hs:w1'.heap.size+w.heap.size=w'.heap.size+w1.heap.size):g6 σ w1 w1' n:=λj hj=>by
 have:=h (w1.heap.size-w.heap.size+j) (by omega);have e:w.heap.size+(w1.heap.size-w.heap.size+j)=w1.heap.size+j:=by omega
 rw[e]at this;omega
theorem am{α β}[Ren α][Ren β]{s s'}{f f':α->Sem β}(hs:mu P P' σ Ro D s s')(hf:∀a,mu P P' σ Ro D (f a) (f' (Ren.ren σ a))):mu P P' σ Ro D (s>>=f) (s'>>=f'):=by
 intro w w' es es' hw hb hS hF;rw[aM]at hF ⊢;rw[aM];have hsz:(dh (s.runT P w es).1).heap.size<=(dh (match s.runT P w es with
  |(.ok a w1,e)=>(f a).runT P w1 e
  |(.halt h w1,e)=>(.halt h w1,e)).1).heap.size:=by
  generalize s.runT P w es=x;obtain⟨r,e⟩:=x;cases r with
  |ok a w1=>exact runT_size P (f a) w1 e
  |halt h w1=>exact AI _
 have h1:=hs w w' es es' hw hb hS (jW hF hsz);have hm:=runT_size P s w es;generalize s.runT P w es=x at h1 hF hm ⊢;generalize s'.runT P' w' es'=x' at h1 ⊢;obtain⟨r,e⟩:=x;obtain⟨r',e'⟩:=x';obtain⟨hb1,⟨a,w1,w1',h2,h3,h0,h4,h5⟩|⟨h,w1,w1',h2,h3,h4,h0,h5,h6⟩|⟨h,w1,h2,h3⟩⟩:=h1
 .subst h2;subst h3;obtain⟨k0,k⟩:=hf a w1 w1' e e' h4 hb1 h0 (vb hF hm h5);refine⟨k0,?_⟩;grind
 .subst h2;subst h4;exact⟨hb1,.inr (.inl ⟨h,w1,w1',rfl,h3,rfl,h0,h5,h6⟩)⟩
 .subst h2;exact⟨hb1,.inr (.inr ⟨h,w1,rfl,h3⟩)⟩
theorem ae{α}[Ren α]{a a'}(h:a'=Ren.ren σ a):mu P P' σ Ro D (pure a:Sem α) (pure a'):=by
 subst h;exactλw w' es es' hw hb hS hF=>⟨hb,.inl ⟨a,w,w',rfl,rfl,hS,hw,rfl⟩⟩
theorem bD{α}[Ren α]{h}{s':Sem α}(hd:Dead h):mu P P' σ Ro D (Ts h) s':=λw w' es es' hw hb hS hF=>⟨hb,.inr (.inr ⟨h,w,rfl,hd⟩)⟩
theorem aj{α}[Ren α]{m}{s':Sem α}:mu P P' σ Ro D (stuck m) s':=bD trivial
theorem gj{α}[Ren α]{v v'}(h:v'=ab σ v):mu P P' σ Ro D (goPanic v:Sem α) (goPanic v'):=by
 subst h;exactλw w' es es' hw hb hS hF=>⟨hb,.inr (.inl ⟨.panic v,w,w',rfl,id,rfl,hS,hw,rfl⟩)⟩
theorem dF{α}[Ren α]{f f':up->Sem α}(h:mu P P' σ Ro D (f P) (f' P')):mu P P' σ Ro D (program>>=f) (program>>=f'):=h
theorem bp{α}[Ren α]{c c'}[Decidable c][Decidable c']{x y x' y':Sem α}(hc:c↔c')(hx:c->mu P P' σ Ro D x x')(hy:¬ c->mu P P' σ Ro D y y'):mu P P' σ Ro D (if c then x else y) (if c' then x' else y'):=by
 by_cases h:c
 .rw[if_pos h,if_pos (hc.1 h)];exact hx h
 grind
theorem oE{es e}(h:¬ Big es)(he:SW e≠.mark .noRoom):¬ Big (es.push e):=λh=>h
theorem qR(q):mu P P' σ Ro D (choose q) (choose q):=by
 intro w w' es es' hw hb hS hF;simp only[choose,AT];split
 .exact⟨hb,.inl ⟨_,w,w',rfl,rfl,hS,hw,rfl⟩⟩
 .refine⟨hb,.inl ⟨_,{w with drawn:=w.drawn+1},{w' with drawn:=w'.drawn+1},rfl,?_,hS,⟨hw.inj,hw.tape,by rw[hw.drawn],hw.ro,hw.blk,hw.num,hw.os⟩,rfl⟩⟩;rw[hw.tape,hw.drawn];rfl
theorem yU{w w'}(hw:eo σ Ro D w w'){a v}(hc:w.cell? a=some v):w'.cell? (bi σ a)=some (ab σ v)/\
 ∃c e fz,w.heap[a.block]?=some (.cells c e fz)/\a.spot.isSome=false/\c[a.off]?=some v:=by
 unfold World.cell? at hc ⊢;cases ho:w.heap[a.block]? with
 |none=>rw[ho]at hc;cases hc
 |some o=>
  rw[ho]at hc;have hB:=hw.blk _ _ ho;cases o;case cells c e fz=>
   have hx:∃fz',w'.heap[σ a.block]?=some (.cells (c.map (ab σ)) e fz'):=by
    by_cases hr:Ro a.block
    .exact(hB.1 hr).2.imp λ_ h=>h.1
    .exact⟨fz,hB.2 hr⟩
   obtain⟨fz',hx⟩:=hx<;>simp_all
  all_goals cases hc
theorem Kg{w w'}(hw:eo σ Ro D w w')(P a b):∃s,w.farLoad P a b= .error (.stuck s):=by
 unfold TG Tr;cases ho:w.heap[a.block]? with
 |none=>exact⟨_,rfl⟩
 |some o=>
  cases o<;>first |exact(hw.blk _ _ ho).elim|exact⟨_,rfl⟩
theorem Ic{w w'}(hw:eo σ Ro D w w')(P a v b):∃s,w.farStore P a v b= .error (.stuck s):=by
 unfold SV Tr;cases ho:w.heap[a.block]? with
 |none=>exact⟨_,rfl⟩
 |some o=>
  cases o<;>first |exact(hw.blk _ _ ho).elim|exact⟨_,rfl⟩
theorem qP(a m):mu P P' σ Ro D (load a m) (load (bi σ a) m):=by
 intro w w' es es' hw hb hS hF;simp only[load,AT];cases hc:w.cell? a with
 |some v=>
  rw[(yU hw hc).1];exact⟨oE hb (by simp[SW]),.inl ⟨v,w,w',rfl,rfl,jR hS ⟨.cell a,false,m== .atomic⟩,hw,rfl⟩⟩
 |none=>
  obtain⟨msg,hd⟩:=Kg hw P a (m== .atomic);rw[hd];exact⟨hb,.inr (.inr ⟨_,w,rfl,trivial⟩)⟩
end
section
variable{σ:Nat->Nat}{Ro:Nat->Prop}{D:Known}{P P':up}
theorem Gv(a v m):mu P P' σ Ro D (store a v m) (store (bi σ a) (ab σ v) m):=by
 intro w w' es es' hw hb hS hF;have e0:∀(P:up)(u:By)(x:Addr)(y:No)(es:Array SE),y.oneCell'=true->(store x y m).runT P u es=(match u.cell? x with
  |some _=>if u.frozen? x then(.halt (.unsupported (.unsafePointer "a write to bytes that a string shares")) u,es)else(.ok () (u.setCell x y),es.push ⟨.cell x,true,m== .atomic⟩)
  |none=>match u.farStore P x y (m== .atomic)with
   | .ok (u,touched)=>(.ok () u,es++touched.toArray.map (⟨.cell ·,true,m== .atomic⟩))
   | .error h=>(.halt h u,es)):=λP u x y es hy=>by
  cases y<;>first |rfl|(exact absurd hy (by decide))|(simp[U8]at hy)
 by_cases hv:v.oneCell'=true
 .have h1:(ab σ v).oneCell'=true:=by rw[AF];omega
  rw[e0 P w a v es hv,e0 P' w' _ _ _ h1];cases hc:w.cell? a with
  |some o=>
   obtain⟨h2,c,e,fz,ho,hsp,h3⟩:=yU hw hc;rw[h2];dsimp only;by_cases hz:w.frozen? a=true
   .rw[if_pos hz];exact⟨hb,.inr (.inr ⟨_,w,rfl,trivial⟩)⟩
   .rw[if_neg hz];have hlt:a.off<c.size:=(Sy.1 h3).1;have hB:=hw.blk _ _ ho;have hnr:¬ Ro a.block:=λhr=>by
     have:=(hB.1 hr).1;simp_all[TF]
    have hblk':w'.heap[σ a.block]?=some (.cells (c.map (ab σ)) e fz):=hB.2 hnr;have hz':¬ w'.frozen? (bi σ a)=true:=λh=>hz (by
     unfold TF at h ⊢;rw[jo,hblk']at h;rw[ho];exact h)
    rw[if_neg hz'];refine⟨oE hb (by simp[SW]),.inl ⟨(),w.setCell a v,w'.setCell (bi σ a) (ab σ v),rfl,rfl,jR hS ⟨.cell a,true,m== .atomic⟩,⟨hw.inj,hw.tape,hw.drawn,λi hi=>by simpa[SF]using hw.ro i hi,λi o hi=> ?_,λi x l hi=> ?_,hw.os⟩,by simp[SF]⟩⟩;rotate_left
    .unfold SF at hi;dsimp only at hi;rw[Sz]at hi;by_cases h0:a.block=i
     .grind
     .rw[if_neg h0]at hi;exact hw.num _ _ _ hi
    unfold SF at hi ⊢;dsimp only at hi ⊢;rw[Sz]at hi ⊢;by_cases h0:a.block=i
    .subst h0;rw[if_pos rfl,ho]at hi;simp only[x5,Option.some.injEq]at hi;subst hi;refine⟨λhr=>absurd hr hnr,λ_=> ?_⟩;simp[*]
    .rw[if_neg h0]at hi;have hne:¬ σ a.block=σ i:=λh=>h0 (hw.inj _ _ h)
     rw[jo,if_neg hne];exact hw.blk _ _ hi
  |none=>
   obtain⟨msg,hd⟩:=Ic hw P a v (m== .atomic);rw[hd];exact⟨hb,.inr (.inr ⟨_,w,rfl,trivial⟩)⟩
 .have e1:(store a v m).runT P w es=(.halt (.stuck "store: not the value of one cell") w,es):=by
   cases v<;>first |rfl|(exact absurd rfl hv)
  rw[e1];exact⟨hb,.inr (.inr ⟨_,w,rfl,trivial⟩)⟩
theorem yW{ro d o}{h:Array Obj}{i:Nat}{x}(hB:yc σ ro d o h[i]?):yc σ ro d o (h.push x)[i]?:=by
 have hkeep:∀y,h[i]?=some y->(h.push x)[i]?=some y:=λy hy=>by
  have hlt:=(Sy.1 hy).1;rw[Sx,if_neg (by omega)];omega
 cases o;case cells c e fz=>exact⟨λhr=>⟨(hB.1 hr).1,(hB.1 hr).2.imp λf h=>⟨hkeep _ h.1,h.2⟩⟩,λhr=>hkeep _ (hB.2 hr)⟩
 case number a l=>exact hkeep _ hB
 case pending=>exact hB.elim
 case view=>exact hB.elim
 all_goals exactλhd=>let⟨y,h1,h2⟩:=hB hd;⟨y,hkeep _ h1,h2⟩
theorem qO(e c):mu P P' σ Ro D (newRow e c) (newRow e (c.map (ab σ))):=by
 intro w w' es es' hw hb hS hF;have hsz:σ w.heap.size=w'.heap.size:=by
  have:=hF 0 (by show w.heap.size+0<(w.heap.push _).size;simp);omega
 refine⟨hb,.inl ⟨⟨w.heap.size,0,none⟩,{w with heap:=w.heap.push (.cells c e)},{w' with heap:=w'.heap.push (.cells (c.map (ab σ)) e)},rfl,?_,hS,⟨hw.inj,hw.tape,hw.drawn,λi hi=>by have:=hw.ro i hi;grind,λi o hi=> ?_,λi x l hi=> ?_,hw.os⟩,by grind⟩⟩;rotate_right
 .rw[Sx]at hi;split at hi
  .cases hi
  .exact hw.num _ _ _ hi
 .simp only[newRow,newObj,bind,T9,AT,pure,Ren.ren,bi,hsz]
 .rw[Sx]at hi;split at hi
  .rename_i h0;cases hi;subst h0;refine⟨λhr=>absurd (hw.ro _ hr) (Nat.lt_irrefl _),λ_=> ?_⟩;rw[hsz,Sx,if_pos rfl]
  .exact yW (hw.blk _ _ hi)
end
section
variable{σ:Nat->Nat}{Ro:Nat->Prop}{D:Known}{Q:up}{β:Nat->Option Code}
abbrev au{α:Type}[Ren α](Q:up)(β:Nat->Option Code)(σ:Nat->Nat)(Ro:Nat->Prop)(D:Known)(s s':Sem α):Prop:=mu (alt Q β) Q σ Ro D s s'
theorem kH(t):au Q β σ Ro D (typeInfo t) (typeInfo t):=by
 refine dF ?_;simp[iV];split
 .exact ae rfl
 .exact aj
theorem qo(t):au Q β σ Ro D (underlying t) (underlying t):=by
 refine dF ?_;simp[qL];split
 .exact ae rfl
 .exact aj
theorem fF(t):au Q β σ Ro D (sizeOf t) (sizeOf t):=am (kH t) λa=>ae rfl
theorem yj(t):au Q β σ Ro D (isAgg t) (isAgg t):=by
 refine am (qo t) λa=> ?_
 show au Q β σ Ro D (match a with | .struct _| .array _ _=>pure true|_=>pure false) (match a with | .struct _| .array _ _=>pure true|_=>pure false);split <;>exact ae rfl
def l4(Q:up)(σ:Nat->Nat):Prop:=∀t i v,Q.info? t=some i->i.zero=some v->ab σ v=v
theorem jN(P t w es):(typeInfo t).runT P w es=match P.info? t with
 |some i=>(.ok i w,es)
 |none=>(.halt (.stuck "no such type") w,es):=by
 show(match P.info? t with |some i=>pure i|none=>stuck "no such type").runT P w es=_;cases P.info? t<;>rfl
theorem lk{α}[Ren α](t){f f':TypeInfo->Sem α}(h:∀i,Q.info? t=some i->au Q β σ Ro D (f i) (f' i)):au Q β σ Ro D (typeInfo t>>=f) (typeInfo t>>=f'):=by
 intro w w' es es' hw hb hS hF;rw[aM,jN]at hF ⊢;rw[aM,jN];have e:(alt Q β).info? t=Q.info? t:=rfl;rw[e]at hF ⊢;cases hi:Q.info? t with
 |none=>exact⟨hb,.inr (.inr ⟨_,w,rfl,trivial⟩)⟩
 |some i=>
  rw[hi]at hF;exact h i hi w w' es es' hw hb hS hF
theorem mY(P t w es):(underlying t).runT P w es=match P.underlying t with
 |some i=>(.ok i w,es)
 |none=>(.halt (.stuck "no such type") w,es):=by
 show(match P.underlying t with |some i=>pure i|none=>stuck "no such type").runT P w es=_;cases P.underlying t<;>rfl
theorem bW{α}[Ren α](t){f f':TypeDesc->Sem α}(h:∀d,Q.underlying t=some d->au Q β σ Ro D (f d) (f' d)):au Q β σ Ro D (underlying t>>=f) (underlying t>>=f'):=by
 intro w w' es es' hw hb hS hF;rw[aM,mY]at hF ⊢;rw[aM,mY];have e:(alt Q β).underlying t=Q.underlying t:=rfl;rw[e]at hF ⊢;cases hi:Q.underlying t with
 |none=>exact⟨hb,.inr (.inr ⟨_,w,rfl,trivial⟩)⟩
 |some i=>
  rw[hi]at hF;exact h i hi w w' es es' hw hb hS hF
theorem gd(hz:l4 Q σ)(t):au Q β σ Ro D (zeroValue t) (zeroValue t):=by
 refine lk t λi hi=> ?_
 cases hv:i.zero with
 |some v=>exact ae (hz t i v hi hv).symm
 |none=>refine bD ?_;trivial
theorem mT(a):∀n i acc,au Q β σ Ro D (loadCellsFrom a i n acc) (loadCellsFrom (bi σ a) i n (acc.map (ab σ)))
 |0,i,acc=>ae rfl
 |n+1,i,acc=>by
  refine am ?_ λv=> ?_
  .rw[<- qW];exact qP _ _
  .have:=mT a n (i+1) (acc.push v);rw[Array.map_push]at this;omega
theorem rM(a n):au Q β σ Ro D (loadCells a n) (loadCells (bi σ a) n):=by
 unfold loadCells;have:=mT (Q:=Q) (β:=β) (σ:=σ) (Ro:=Ro) (D:=D) a n 0 #[];grind
theorem jj(a):∀vs i,au Q β σ Ro D (storeCells a vs i) (storeCells (bi σ a) (vs.map (ab σ)) i)
 |[],i=>ae rfl
 |v::vs,i=>by
  refine am ?_ λ_=>jj a vs (i+1)
  rw[<- qW];exact Gv _ _ _
theorem ui(t a):au Q β σ Ro D (loadVar t a) (loadVar t (bi σ a)):=by
 refine am (yj t) λb=> ?_
 refine bp Su (λ_=> ?_) λ_=>qP _ _
 refine am (fF t) λn=> ?_
 refine am (rM a n) λcs=>ae ?_
 simp[Ren.ren]
theorem Ad(t a v):au Q β σ Ro D (storeVar t a v) (storeVar t (bi σ a) (ab σ v)):=by
 refine am (fF t) λn=> ?_
 simp only[ig,Tj,T0];refine bp Su (λ_=>am aj λ_=>jj _ _ _) λ_=>jj _ _ _
theorem na(t v):au Q β σ Ro D (newVar t v) (newVar t (ab σ v)):=by
 simp[newVar];exact qO _ _
theorem qT(place):∀l cells,SZ place (cells.map (ab σ)) (l.map λx=>(x.1,ab σ x.2))=(SZ place cells l).map (Array.map (ab σ))
 |[],cells=>rfl
 |(i,v)::rest,cells=>by
  simp only[SQ,SZ,ig,Tj];cases place i with
  |none=>rfl
  |some p=>
   obtain⟨off,size⟩:=p;dsimp only;split
   .rfl
   .have e:∀(l:List (No×Nat))(c:Array No),(l.map λx=>(ab σ x.1,x.2)).foldl (λcs(x:No×Nat)=>cs.setIfInBounds (off+x.2) x.1) (c.map (ab σ))=(l.foldl (λcs(x:No×Nat)=>cs.setIfInBounds (off+x.2) x.1) c).map (ab σ):=by
     intro l;induction l with
     |nil=>exactλc=>rfl
     |cons x l ih=>
      grind [Tz]
    have e2:(v.cells.map (ab σ)).zipIdx.toList=v.cells.zipIdx.toList.map λx=>(ab σ x.1,x.2):=by
     simp[List.zipIdx_map]
    rw[<- Tn,<- Tn,e2,e];exact qT place rest _
theorem GC(hz:l4 Q σ)(t)(b:Bool):au Q β σ Ro D (Instr.alloc t true (.tuple #[])) (Instr.alloc t true (.tuple #[])):=by
 exact am (gd hz t) λz=>am (na t z) λa=>ae (by simp[Ren.ren])
theorem LP(t v):au Q β σ Ro D (Instr.box t v) (Instr.box t (ab σ v)):=am (na t v) λa=>ae (by simp[Ren.ren])
theorem DC{α γ}[Ren α][Ren γ]{s s'}{f f':α->γ}(hs:au Q β σ Ro D s s')(hf:∀a,f' (Ren.ren σ a)=Ren.ren σ (f a)):au Q β σ Ro D (f<$>s) (f'<$>s'):=
 am hs λa=>ae (hf a)
theorem sD{α γ:Type}[Ren γ]{f f':α->Sem γ}(hf:∀a,au Q β σ Ro D (f a) (f' a)):∀xs:List α,au Q β σ Ro D (xs.mapM f) (xs.mapM f')
 |[]=>ae rfl
 |x::xs=>by
  rw[List.mapM_cons,List.mapM_cons];exact am (hf x) λa=>am (sD hf xs) λl=>ae rfl
theorem Ak{α γ:Type}[Ren γ]{f f':α->Sem γ}(hf:∀a,au Q β σ Ro D (f a) (f' a))(xs:Array α):au Q β σ Ro D (xs.mapM f) (xs.mapM f'):=by
 rw[Tq,Tq];refine DC (sD hf _) λl=> ?_
 simp[Ren.ren]
theorem Ni(x):(Ren.ren σ x:Array (Nat×Nat))=x:=by
 show x.map (λy=>(y.1,y.2))=x;simp
theorem GB(hz:l4 Q σ)(t parts):au Q β σ Ro D (Instr.build t parts) (Instr.build t (parts.map λx=>(x.1,ab σ x.2))):=by
 refine am (gd hz t) λz=> ?_
 refine bW t λd hd=> ?_
 cases d;case struct fields=>
  have hm:au Q β σ Ro D (fields.mapM λf=>do pure (f.offset,<- sizeOf f.type)) (fields.mapM λf=>do pure (f.offset,<- sizeOf f.type)):=by
   refine Ak (λf=> ?_) fields;exact am (fF f.type) λn=>ae rfl
  refine am hm λplaces=> ?_
  simp[Ni,show(Ren.ren σ z).cells=z.cells.map (ab σ)from ig z,qT];cases SZ (places[·]?) z.cells parts.toList with
  |none=>exact aj
  |some c=>exact ae (by simp[Ren.ren])
 case array n e=>
  refine am (fF e) λsize=> ?_
  rw[T0,show(Ren.ren σ z).cells=z.cells.map (ab σ)from ig z,qT];cases SZ (λi=>some (i*size,size)) z.cells parts.toList with
  |none=>exact aj
  |some c=>exact ae (by simp[Ren.ren])
 all_goals(exact aj)
theorem kI(v):au Q β σ Ro D (Ua v) (Ua (ab σ v)):=by
 cases v<;>first
  |exact aj
  |(rename_i a;cases a<;>first |exact aj|(rw[aY];exact ae rfl))
theorem EF(t v):au Q β σ Ro D (Instr.loadAt t v) (Instr.loadAt t (ab σ v)):=am (kI v) λa=>ui t a
theorem Cu(t v x):au Q β σ Ro D (Instr.storeAt t v x) (Instr.storeAt t (ab σ v) (ab σ x)):=am (kI v) λa=>Ad t a x
theorem Ct{α}(t)(f:Nat->Sem α):sizeOf t>>=f=typeInfo t>>=λi=>f i.size:=by
 simp[sizeOf]
theorem CA{st field}(hs:∀fields f i,Q.underlying st=some (.struct fields)->fields[field]?=some f->Q.info? f.type=some i->i.size≠0)(v):au Q β σ Ro D (Instr.fieldAt st v field) (Instr.fieldAt st (ab σ v) field):=by
 refine bW st λd hd=> ?_
 cases d;case struct fields=>
  dsimp only;cases hf:fields[field]? with
  |none=>exact aj
  |some f=>
   refine am (kI v) λa=> ?_
   have hfp:au Q β σ Ro D (fieldPlace a f) (fieldPlace (Ren.ren σ a) f):=by
    simp[fieldPlace,Ct];refine lk f.type λi hi=> ?_
    rw[if_neg (hs fields f i hd hf hi),if_neg (hs fields f i hd hf hi)];exact ae (by simp[Ren.ren])
   exact am hfp λb=>ae (by simp[Ren.ren])
 all_goals(exact aj)
end
structure Fit(Q:up)(σ:Nat->Nat):Prop where
 zero:l4 Q σ
 low:∀g,g<=Q.globals.size->σ g=g
 inj:∀i j,σ i=σ j->i=j
section
variable{σ:Nat->Nat}{Ro:Nat->Prop}{D:Known}{Q:up}{β:Nat->Option Code}
theorem pR(F:Fit Q σ)(t):ab σ (typeHandle Q t)=typeHandle Q t:=by
 simp[typeHandle,bi,F.low _ (AI _)]
theorem qU(s):ab σ (strVal s)=strVal s:=by simp[strVal]
theorem vQ(t):au Q β σ Ro D (elemOf t) (elemOf t):=by
 refine bW t λd hd=> ?_
 cases d;case pointer e=>exact ae rfl
 all_goals(exact aj)
theorem cq{α}[Ren α](F:Fit Q σ)(e):au Q β σ Ro D (Tw e:Sem α) (Tw e):=by
 refine dF ?_;cases e with
 |bounds x y s c=>exact gj (by simp;rfl)
 |error m=>exact gj (by simp[qU];rfl)
 |plain m=>exact gj (by simp[qU];rfl)
 |nilDeref=>exact gj (by simp[qU];rfl)
 |typeAssertion i c a m=>
  refine am (vQ _) λt=> ?_
  have hh:∀x:Option T6,ab σ (match x with |some t=>typeHandle Q t|none=>.pointer none)=match x with |some t=>typeHandle Q t|none=>.pointer none:=λx=>by
   cases x with
   |none=>simp
   |some t=>exact pR F t
  have hv:∀t,au Q β σ Ro D (newVar t (.agg #[match i with |some t=>typeHandle Q t|none=>.pointer none,match c with |some t=>typeHandle Q t|none=>.pointer none,typeHandle Q a,strVal m]))
   (newVar t (.agg #[match i with |some t=>typeHandle Q t|none=>.pointer none,match c with |some t=>typeHandle Q t|none=>.pointer none,typeHandle Q a,strVal m])):=λt=>by
   have:=na (Q:=Q) (β:=β) (σ:=σ) (Ro:=Ro) (D:=D) t (.agg #[match i with |some t=>typeHandle Q t|none=>.pointer none,match c with |some t=>typeHandle Q t|none=>.pointer none,typeHandle Q a,strVal m]);simp_all[pR,qU]
  exact am (hv t) λr=>gj (by simp[Ren.ren];rfl)
 |panicNil=>
  refine am (vQ _) λt=> ?_
  have hv:au Q β σ Ro D (newVar t (.agg #[])) (newVar t (.agg #[])):=by
   have:=na (Q:=Q) (β:=β) (σ:=σ) (Ro:=Ro) (D:=D) t (.agg #[]);simp_all
  exact am hv λr=>gj (by simp[Ren.ren];rfl)
 |unhashable t=>
  have e:typeHandle (alt Q β) t=typeHandle Q t:=rfl;exact gj (by simp[e,pR F];rfl)
theorem gk{α}[Ren α](F:Fit Q σ)(k x y c):au Q β σ Ro D (boundsPanic k x y c:Sem α) (boundsPanic k x y c):=by
 exact bp Su (λ_=>am (α:=Bool) (DC (α:=Nat) (γ:=Bool) (qR _) λn=>rfl) λb=>cq F _) λ_=>am (α:=Bool) (ae rfl) λb=>cq F _
theorem lS(v):au Q β σ Ro D (asIntOf v) (asIntOf (ab σ v)):=by
 cases v<;>first
  |exact aj
  |(simp[cr];exact ae rfl)
  |(rename_i a;cases a<;>first |(refine bD ?_;trivial))
theorem ym(v):au Q β σ Ro D (asInt v) (asInt (ab σ v)):=am (lS v) λx=>ae rfl
theorem vR(v):au Q β σ Ro D (asBool v) (asBool (ab σ v)):=by
 cases v<;>first |exact aj|(simp[fK];exact ae rfl)
theorem EL(F:Fit Q σ)(v):au Q β σ Ro D (asAddr v) (asAddr (ab σ v)):=by
 cases v;case pointer a=>
  rw[aY];cases a with
  |none=>exact cq (α:=Addr) F .nilDeref
  |some a=>exact ae (α:=Addr) rfl
 all_goals exact aj
theorem Af(t cs off):au Q β σ Ro D (part t cs off) (part t (cs.map (ab σ)) off):=by
 refine am (yj t) λb=> ?_
 refine bp Su (λ_=> ?_) λ_=> ?_
 .refine am (fF t) λn=>ae ?_
  simp[Ren.ren]
 .rw[SL];cases cs[off]? with
  |none=>exact aj
  |some v=>exact ae rfl
theorem uu(z:Array No)(i:Nat):(z.map (ab σ))[i]! =ab σ z[i]!:=by
 rw[getElem!_def,getElem!_def,SL];cases z[i]? with
 |some v=>rfl
 |none=>simp[default,instInhabitedValue.default]
theorem xH(hz:l4 Q σ)(t len parts):au Q β σ Ro D (Tv t len parts) (Tv t len (parts.map λx=>(x.1,ab σ x.2))):=by
 unfold Tv;refine bW t λd hd=> ?_
 cases d;case slice e=>
  dsimp only;refine am (fF e) λsize=> ?_
  rw[tF];have h0:∀z:Array No,au Q β σ Ro D
   (match SZ (λi=>some (i*size,size)) ((Tl (len*size)).map (z[· %z.size]!)) parts.toList with
    |some cells=>(do pure (.slice (some (<- newRow e cells)) len len):Sem No)|_=>stuck "buildSlice: a part of the wrong size")
   (match SZ (λi=>some (i*size,size)) ((Tl (len*size)).map ((z.map (ab σ))[· % (z.map (ab σ)).size]!)) (parts.map λx=>(x.1,ab σ x.2)).toList with
    |some cells=>(do pure (.slice (some (<- newRow e cells)) len len):Sem No)|_=>stuck "buildSlice: a part of the wrong size"):=λz=>by
   have e1:(Tl (len*size)).map ((z.map (ab σ))[· % (z.map (ab σ)).size]!)=((Tl (len*size)).map (z[· %z.size]!)).map (ab σ):=by
    rw[To];congr 1
    funext i
    simp only[Tj,Function.comp];exact uu z _
   rw[e1,T0,qT];cases SZ (λi=>some (i*size,size)) ((Tl (len*size)).map (z[· %z.size]!)) parts.toList with
   |none=>exact aj
   |some cells=>exact am (qO e cells) λa=>ae (by simp[Ren.ren])
  by_cases h:len*size>2^24
  .rw[if_pos h,if_pos h];exact bD trivial
  .rw[if_neg h,if_neg h];refine bp (α:=No) Su (λ_=> ?_) λ_=> ?_
   .have:=h0 #[];rw[Array.map_empty]at this;exact this
   .refine am (gd hz e) λv=> ?_
    have:=h0 v.cells;rw[<- ig]at this;exact this
 all_goals(dsimp only;exact aj)
theorem CB(v n):au Q β σ Ro D (TJ v n) (TJ (ab σ v) n):=by
 unfold TJ;cases v;case tuple vs=>
  simp[gl];cases vs[n]? with
  |none=>exact aj
  |some x=>exact ae rfl
 all_goals(exact aj)
theorem tS(t v):au Q β σ Ro D (TO t v) (TO t (ab σ v)):=by
 refine bW t λd hd=> ?_
 cases d;case interface ms=>exact aj
 all_goals exact ae (by simp[Ren.ren])
theorem Am(f)(hf:kO σ f=f)(a b):au Q β σ Ro D (Uc f a b) (Uc f (a.map (ab σ)) (b.map (ab σ))):=ae (by simp[Ren.ren,hf])
theorem Gy(F:Fit Q σ)(t x i):au Q β σ Ro D (TV t x i) (TV t (ab σ x) (ab σ i)):=by
 unfold TV;refine am (lS i) λki=> ?_
 obtain⟨k,i⟩:=ki;rw[GT,AD,tG];dsimp only;refine bW t λd hd=> ?_
 cases d;case array n e=>
  cases x;case agg cs=>
   rw[fy];refine bp Su (λ_=> ?_) λ_=>gk F _ _ _ _
   refine am (fF e) λz=>Af _ _ _
  all_goals(exact aj)
 case string=>
  cases x;case string s=>
   rw[ct];dsimp only;split
   .exact ae (by simp[Ren.ren])
   .exact gk F _ _ _ _
  all_goals(exact aj)
 all_goals(exact aj)
theorem xE(F:Fit Q σ)(x xt t ok):au Q β σ Ro D (TX x xt t ok) (TX (ab σ x) xt t ok):=by
 have hfails:∀(a b:Option T6)(m:String),au Q β σ Ro D (if ok then do pure (.tuple #[<- zeroValue t,.bool false])else Tw (.typeAssertion a b t m):Sem No) (if ok then do pure (.tuple #[<- zeroValue t,.bool false])else Tw (.typeAssertion a b t m)):=λa b m=>by
  exact bp Su (λ_=>am (gd F.zero t) λz=>ae (by simp[Ren.ren])) λ_=>cq F _
 have hholds:∀v,au Q β σ Ro D (pure (if ok then .tuple #[v,.bool true]else v)) (pure (if ok then .tuple #[ab σ v,.bool true]else ab σ v)):=λv=>ae (by cases ok<;>simp[Ren.ren])
 refine bW t λd hd=> ?_
 cases x;case nilIface=>
  rw[db];cases d<;>exact hfails _ _ _
 case iface tx vx=>
  rw[dW];cases d;case interface ms=>
   refine lk tx λi hi=> ?_
   split
   .have:=hholds (.iface tx vx);rw[dW]at this;omega
   simp_all
  all_goals
   exact bp Su (λ_=>hholds vx) λ_=>hfails _ _ _
 all_goals(cases d<;>(exact aj))
theorem Gu(op v):au Q β σ Ro D (Op.unary op v) (Op.unary op (ab σ v)):=by
 cases op<;>cases v<;>first
  |exact aj
  |(simp only[fK,eC,eZ];exact ae (by simp[Ren.ren]))
  |(simp only[cr];exact ae (by simp[Ren.ren]))
  |(rename_i a;cases a<;>first |(refine bD ?_;trivial))
end
section
variable{σ:Nat->Nat}{Ro:Nat->Prop}{D:Known}{Q:up}{β:Nat->Option Code}
def peek{α:Type}(r:Nat)(n:α)(f:Obj->α):Sem α:=do
 if(<- shape r).isSome then return n
 let o <- getObj r
 pure (f o)
theorem uR{α}(P)(n:α)(g r w es):(peek r n g).runT P w es=(if(w.shape? r).isSome then(.ok n w,es)else match w.heap[r]? with
 |some (.cells ..)=>(.halt (.stuck "getObj: a row of cells") w,es)
 |some o=>(.ok (g o) w,es.push ⟨.obj r,false,o.isChan⟩)
 |none=>(.halt (.stuck "getObj: no such block") w,es)):=by
 simp only[peek,shape,getObj,bind,T9,AT];cases hx:(w.shape? r).isSome with
 |true=>rfl
 |false=>
  simp only[If,if_false,AT];rfl
theorem Ae{α}[Ren α]{r}(hD:D r){n:α}{f f'}(hn:Ren.ren σ n=n)(h4:∀a l,f' (.number (bi σ a) l)=Ren.ren σ (f (.number a l)))
 (ho:∀o,Plain o->f o=n) (h5:∀o,Plain o->f' o=n):
 au Q β σ Ro D (peek r n f) (peek (σ r) n f'):=by
 intro w w' es es' hw hb hS hF;rw[uR,uR];cases h6:w.heap[r]? with
 |none=>
  have hs:(w.shape? r).isSome=false:=by simp_all[SN]
  rw[hs];simp only[If,if_false];exact⟨hb,.inr (.inr ⟨_,w,rfl,trivial⟩)⟩
 |some o=>
  have hB:=hw.blk _ _ h6;by_cases hc:∃c e fz,o= .cells c e fz
  .obtain⟨c,e,fz,rfl⟩:=hc;have hx:∃fz',w'.heap[σ r]?=some (.cells (c.map (ab σ)) e fz'):=by
    by_cases hr:Ro r
    .exact(hB.1 hr).2.imp λ_ h=>h.1
    .exact⟨fz,hB.2 hr⟩
   obtain⟨fz',hx⟩:=hx;have h1:(w.shape? r).isSome=true:=by simp_all[SN]
   have h2:(w'.shape? (σ r)).isSome=true:=by simp_all[SN]
   rw[h1,h2];exact⟨hb,.inl ⟨n,w,w',rfl,by rw[hn];rfl,hS,hw,rfl⟩⟩
  .have h1:(w.shape? r).isSome=false:=by
    simp_all[SN]
   rw[h1];simp only[If,if_false];have hg:(match some o with
    |some (.cells ..)=>(.halt (.stuck "getObj: a row of cells") w,es)
    |some o=>(.ok (f o) w,es.push ⟨.obj r,false,o.isChan⟩)
    |none=>(.halt (.stuck "getObj: no such block") w,es):Result α×Array SE)=(.ok (f o) w,es.push ⟨.obj r,false,o.isChan⟩):=by
    cases o<;>first |rfl|exact absurd ⟨_,_,_,rfl⟩ hc
   rw[hg];have hb2:¬ Big (es.push ⟨.obj r,false,o.isChan⟩):=oE hb (by cases hq:o.isChan<;>simp[SW]);by_cases h0:∃a l,o= .number a l
   .obtain⟨a,l,rfl⟩:=h0;have hx:w'.heap[σ r]?=some (.number (bi σ a) l):=hB;have h2:(w'.shape? (σ r)).isSome=false:=by simp_all[SN]
    rw[h2,hx];simp only[If,if_false];refine⟨hb2,.inl ⟨f (.number a l),w,w',rfl,by rw[h4],jR hS ⟨.obj r,false,false⟩,hw,rfl⟩⟩
   .have h7:Plain o:=by
     cases o<;>first |trivial|exact hB.elim|exact(h0 ⟨_,_,rfl⟩).elim
    have hop:∃o',w'.heap[σ r]?=some o'/\Plain o'/\((∃c e f,o'= .cells c e f)\/o'.isChan=o.isChan):=by
     cases o<;>first |exact hB.elim|exact hB hD|exact absurd ⟨_,_,_,rfl⟩ hc|exact(h0 ⟨_,_,rfl⟩).elim
    obtain⟨o',hx,hp',hk⟩:=hop;rw[ho o h7];by_cases h3:∃c e fz,o'= .cells c e fz
    .obtain⟨c,e,fz,rfl⟩:=h3;have h2:(w'.shape? (σ r)).isSome=true:=by simp_all[SN]
     rw[h2];exact⟨hb2,.inl ⟨n,w,w',rfl,by rw[hn];rfl,Jd hS _,hw,rfl⟩⟩
    .have h2:(w'.shape? (σ r)).isSome=false:=by
      simp_all[SN]
     rw[h2,hx];simp only[If,if_false];have h8:(match some o' with
      |some (.cells ..)=>(.halt (.stuck "getObj: a row of cells") w',es')
      |some o=>(.ok (f' o) w',es'.push ⟨.obj (σ r),false,o.isChan⟩)
      |none=>(.halt (.stuck "getObj: no such block") w',es'):Result α×Array SE)=(.ok (f' o') w',es'.push ⟨.obj (σ r),false,o'.isChan⟩):=by
      cases o'<;>first |rfl|exact absurd ⟨_,_,_,rfl⟩ h3
     rw[h8,h5 o' hp'];have hk:o'.isChan=o.isChan:=hk.resolve_left h3;rw[hk];exact⟨hb2,.inl ⟨n,w,w',rfl,by rw[hn],jR hS ⟨.obj r,false,o.isChan⟩,hw,rfl⟩⟩
instance:Ren T6:=⟨λ_ x=>x⟩
theorem mJ(r):numberAt r=peek r none λo=>match o with | .number a lost=>some (a,lost)|_=>none:=by
 grind [numberAt,peek]
theorem u0(r):viewAt r=peek r none λo=>match o with | .view a t=>some (a,t)|_=>none:=by
 grind [viewAt,peek]
theorem Ai{r}(hD:D r):au Q β σ Ro D (numberAt r) (numberAt (σ r)):=by
 rw[mJ,mJ];exact Ae hD rfl (λa l=>rfl) (λo ho=>by cases o<;>first |rfl|exact ho.elim) λo ho=>by cases o<;>first |rfl|exact ho.elim
theorem vM{r}(hD:D r):au Q β σ Ro D (viewAt r) (viewAt (σ r)):=by
 rw[u0,u0];exact Ae hD rfl (λa l=>rfl) (λo ho=>by cases o<;>first |rfl|exact ho.elim) λo ho=>by cases o<;>first |rfl|exact ho.elim
theorem ED{a}(hD:D a.block):au Q β σ Ro D (noView a) (noView (bi σ a)):=by
 refine am (vM hD) λx=> ?_
 refine bp ?_ (λ_=>bD trivial) λ_=>ae rfl
 cases x<;>simp[Ren.ren]
theorem pN{α}[Ren α]{r}{f f':Option (T6×Nat)->Sem α}(hn:∀s',au Q β σ Ro D (f none) s')(hs:∀e n,au Q β σ Ro D (f (some (e,n))) (f' (some (e,n)))):
 au Q β σ Ro D (shape r>>=f) (shape (σ r)>>=f'):=by
 intro w w' es es' hw hb hS hF;have e1:∀(P:up)(g:Option (T6×Nat)->Sem α)(r:Nat)(w:By)(es:Array SE),(shape r>>=g).runT P w es=(g (w.shape? r)).runT P w es:=λP g r w es=>rfl
 rw[e1]at hF ⊢;rw[e1];cases hx:w.shape? r with
 |none=>
  rw[hx]at hF;exact hn _ w w' es es' hw hb hS hF
 |some x=>
  obtain⟨e,n⟩:=x;have hx':w'.shape? (σ r)=some (e,n):=by
   unfold SN at hx;cases ho:w.heap[r]? with
   |none=>rw[ho]at hx;cases hx
   |some o=>
    rw[ho]at hx;cases o;case cells c e0 fz=>
     have hB:=hw.blk _ _ ho;have hh:∃fz',w'.heap[σ r]?=some (.cells (c.map (ab σ)) e0 fz'):=by
      by_cases hr:Ro r
      .exact(hB.1 hr).2.imp λ_ h=>h.1
      .exact⟨fz,hB.2 hr⟩
     grind [SN]
    all_goals cases hx
  rw[hx]at hF;rw[hx'];exact hs e n w w' es es' hw hb hS hF
theorem qy:∀d t o,byteOfCell (alt Q β) d t o=byteOfCell Q d t o:=by
 intro d;induction d with
 |zero=>exactλt o=>rfl
 |succ d ih=>
  intro t o;unfold byteOfCell;have e1:(alt Q β).underlying t=Q.underlying t:=rfl;have e2:∀t,(alt Q β).bytesOf t=Q.bytesOf t:=λt=>rfl
  have e3:∀t,(alt Q β).cellsOf t=Q.cellsOf t:=λt=>rfl
  grind
theorem y5:∀d t o,cellOfByte (alt Q β) d t o=cellOfByte Q d t o:=by
 intro d;induction d with
 |zero=>exactλt o=>rfl
 |succ d ih=>
  intro t o;unfold cellOfByte;have e1:(alt Q β).underlying t=Q.underlying t:=rfl;have e2:∀t,(alt Q β).bytesOf t=Q.bytesOf t:=λt=>rfl
  have e3:∀t,(alt Q β).cellsOf t=Q.cellsOf t:=λt=>rfl
  grind
theorem wY(d t c o b):cellAtBytes (alt Q β) d t c o b=cellAtBytes Q d t c o b:=by
 unfold cellAtBytes;have e2:∀t,(alt Q β).bytesOf t=Q.bytesOf t:=λt=>rfl
 have e3:∀t,(alt Q β).cellsOf t=Q.cellsOf t:=λt=>rfl
 simp_all[qy,y5]
theorem kK{a}(hD:D a.block):au Q β σ Ro D (byteOf a) (byteOf (bi σ a)):=by
 unfold byteOf;rw[GU];cases a.spot with
 |some s=>exact ae rfl
 |none=>
  refine dF ?_;refine am (ED hD) λ_=> ?_
  refine pN (λs'=>aj) λe n=> ?_
  dsimp only;have e3:∀t,(alt Q β).cellsOf t=Q.cellsOf t:=λt=>rfl
  have e4:(alt Q β).depth=Q.depth:=rfl;have e2:∀t,(alt Q β).bytesOf t=Q.bytesOf t:=λt=>rfl
  rw[e3,e4,e2,qy,AJ];refine bp Su (λ_=>ae rfl) λ_=> ?_
  cases byteOfCell Q Q.depth e (a.off%Q.cellsOf e)with
  |none=>exact aj
  |some b=>exact ae rfl
theorem ze{b}(hD:D b.block)(l):au Q β σ Ro D (asNumber b l) (asNumber (bi σ b) l):=by
 intro w w' es es' hw hb hS hF;have hsz:σ w.heap.size=w'.heap.size:=by
  have:=hF 0 (by show w.heap.size+0<(w.heap.push _).size;simp);omega
 refine⟨hb,.inl ⟨.pointer (some ⟨w.heap.size,0,none⟩),{w with heap:=w.heap.push (.number b l)},{w' with heap:=w'.heap.push (.number (bi σ b) l)},rfl,?_,hS,⟨hw.inj,hw.tape,hw.drawn,λi hi=>by have:=hw.ro i hi;grind,λi o hi=> ?_,λi x l' hi=> ?_,hw.os⟩,by grind⟩⟩
 .show Result.ok _ _=_;simp_all[xN,bi]
 .rw[Sx]at hi;split at hi
  .rename_i h0;cases hi;subst h0;show _=some _;rw[hsz,Sx,if_pos rfl]
  .exact yW (hw.blk _ _ hi)
 .rw[Sx]at hi;split at hi
  .grind
  .exact hw.num _ _ _ hi
theorem yl{α γ}[Ren α][Ren γ]{s s'}{f f':α->Sem γ}(T:α->Prop)(hs:au Q β σ Ro D s s')(hT:∀w w' es a w1 es1,eo σ Ro D w w'->s.runT (alt Q β) w es=(.ok a w1,es1)->T a)(hf:∀a,T a->au Q β σ Ro D (f a) (f' (Ren.ren σ a))):au Q β σ Ro D (s>>=f) (s'>>=f'):=by
 intro w w' es es' hw hb hS hF;cases hx:s.runT (alt Q β) w es with
 |mk r e1=>
  cases r with
  |halt h w1=>
   have h1:=hs w w' es es' hw hb hS (by rw[hx];rw[aM,hx]at hF;exact hF);rw[hx]at h1;obtain⟨hb1,⟨a,v,v',h2,_⟩|⟨h,v,v',h2,h3,h4,h5,h6,h7⟩|⟨h,v,h2,h3⟩⟩:=h1
   .cases h2
   .rw[aM,hx,aM];generalize s'.runT Q w' es'=x' at h4 h5 ⊢;obtain⟨r',e'⟩:=x';subst h4;cases h2;exact⟨hb1,.inr (.inl ⟨_,_,v',rfl,h3,rfl,h5,h6,h7⟩)⟩
   .rw[aM,hx];cases h2;exact⟨hb1,.inr (.inr ⟨_,_,rfl,h3⟩)⟩
  |ok a w1=>
   have h8:=hT w w' es a w1 e1 hw hx;have hm:=runT_size (alt Q β) s w es;have h9:=runT_size (alt Q β) (f a) w1 e1;rw[aM,hx]at hF ⊢;rw[hx]at hm;have h1:=hs w w' es es' hw hb hS (by rw[hx];exact jW hF h9);rw[hx]at h1;obtain⟨hb1,⟨b,v,v',h2,h3,h0,h4,h5⟩|⟨h,v,v',h2,_⟩|⟨h,v,h2,_⟩⟩:=h1
   .cases h2;rw[aM];generalize s'.runT Q w' es'=x' at h3 h0 ⊢;obtain⟨r',e'⟩:=x';subst h3;obtain⟨k0,k⟩:=hf a h8 w1 v' e1 e' h4 hb1 h0 (vb hF hm h5);refine⟨k0,?_⟩;grind
   .cases h2
   grind
theorem F9{r w w' es x w1 es1}(hw:eo σ Ro D w w')(h:(numberAt r).runT (alt Q β) w es=(.ok x w1,es1)):∀y,x=some y->D y.1.block:=by
 rw[mJ,uR]at h;intro y hy;subst hy;split at h
 .cases h
 .cases ho:w.heap[r]? with
  |none=>rw[ho]at h;cases h
  |some o=>
   rw[ho]at h;cases o;case number a l=>
    simp[Prod.mk.injEq]at h;rw[<- h.1.1];exact hw.num _ _ _ ho
   all_goals(simp at h)
theorem eT{γ}[Ren γ]{n}(hD:D n.block){f f':Addr×Bool->Sem γ}(hf:∀a l,D a.block->au Q β σ Ro D (f (a,l)) (f' (bi σ a,l))):au Q β σ Ro D (T5 n>>=f) (T5 (bi σ n)>>=f'):=by
 have e1:∀(n:Addr)(f:Addr×Bool->Sem γ),T5 n>>=f=numberAt n.block>>=λx=>f (x.getD (n,false)):=λn f=>by
  simp[T5]
 rw[e1,e1];refine yl (λx=>∀y,x=some y->D y.1.block) (Ai hD) (λw w' es a w1 es1 hw h=>F9 hw h) λx hx=> ?_
 cases x with
 |none=>exact hf n false hD
 |some y=>obtain⟨a,l⟩:=y;exact hf a l (hx _ rfl)
theorem DD{t x y}(hx:∀a,x= .pointer (some a)->D a.block):au Q β σ Ro D (SK #[] t #[x,y]) (SK #[] t #[ab σ x,ab σ y]):=by
 cases x;case pointer ptr=>
  rw[aY];refine am (ym y) λn=> ?_
  rw[tG];refine bp Su (λ_=> ?_) λ_=>bp Su (λ_=>bD trivial) λ_=> ?_
  .cases ptr with
   |none=>exact bD trivial
   |some a=>
    refine am (vM (hx a rfl)) λv=> ?_
    refine bp (by cases v<;>simp[Ren.ren]) (λ_=>bD trivial) λ_=>ae (by simp[Ren.ren])
  .cases ptr with
   |none=>exact bD trivial
   |some a=>
    refine pN (λs'=>bD trivial) λe n=> ?_
    refine dF ?_;have e3:∀t,(alt Q β).cellsOf t=Q.cellsOf t:=λt=>rfl
    have e4:(alt Q β).depth=Q.depth:=rfl;rw[wY,e3,e4,AJ];split
    .exact ae (by simp[Ren.ren,bi])
    .exact bD trivial
 all_goals exact aj
def Yields{α:Type}(T:α->Prop)(s:Sem α):Prop:=∀P w es a w1 es1,s.runT P w es=(.ok a w1,es1)->T a
theorem tX{α}{T:α->Prop}{a}(h:T a):Yields T (pure a):=λP w es b w1 es1 e=>by
 simp_all
theorem gz{α T x}:Yields T (Ts x:Sem α):=λP w es b w1 es1 e=>by cases e
theorem lR{α γ}{T:γ->Prop}{s:Sem α}{f}(h:∀a,Yields T (f a)):Yields T (s>>=f):=λP w es b w1 es1 e=>by
 rw[aM]at e;split at e
 .exact h _ _ _ _ _ _ _ e
 .cases e
theorem qE{α}{T:α->Prop}{c}[Decidable c]{x y}(hx:Yields T x)(hy:Yields T y):Yields T (if c then x else y):=by
 grind
theorem OY{t x y}(hx:∀a,x= .pointer (some a)->D a.block):Yields (λv=>∀b,v= .pointer (some b)->D b.block) (SK #[] t #[x,y]):=by
 cases x;case pointer ptr=>
  refine lR λn=> ?_
  refine qE ?_ (qE gz ?_)
  .cases ptr with
   |none=>exact gz
   |some a=>
    refine lR λv=>qE gz (tX λb hb=> ?_)
    grind
  .cases ptr with
   |none=>exact gz
   |some a=>
    refine lR λsh=> ?_
    cases sh with
    |none=>exact gz
    |some q=>
     refine lR λp=> ?_
     split
     .refine tX λb hb=> ?_
      grind
     .exact gz
 all_goals exact gz
theorem kJ{t x y}(hx:∀a,x= .pointer (some a)->D a.block):au Q β σ Ro D (movedNumber t x y) (movedNumber t (ab σ x) (ab σ y)):=by
 refine bW t λd hd=> ?_
 have hk:au Q β σ Ro D (match x with
  | .pointer (some n)=>do
   let(a,lost) <- T5 n
   match<- SK #[] t #[.pointer (some a),y]with
   | .pointer (some b)=>asNumber b lost
   |v=>pure v
  |_=>SK #[] t #[x,y]) (match ab σ x with
  | .pointer (some n)=>do
   let(a,lost) <- T5 n
   match<- SK #[] t #[.pointer (some a),ab σ y]with
   | .pointer (some b)=>asNumber b lost
   |v=>pure v
  |_=>SK #[] t #[ab σ x,ab σ y]):=by
  cases x;case pointer ptr=>
   rw[aY];cases ptr with
   |none=>
    have:=DD (Q:=Q) (β:=β) (σ:=σ) (Ro:=Ro) (D:=D) (t:=t) (x:=.pointer none) (y:=y) hx;rw[aY]at this;exact this
   |some n=>
    refine eT (hx n rfl) λa l ha=> ?_
    have h1:=DD (Q:=Q) (β:=β) (σ:=σ) (Ro:=Ro) (D:=D) (t:=t) (x:=.pointer (some a)) (y:=y) λb hb=>by grind
    rw[aY]at h1;refine yl (λv=>∀b,v= .pointer (some b)->D b.block) h1 (λw w' es v w1 es1 hw h=>OY λb hb=>by grind _ _ _ _ _ _ h) λv hv=> ?_
    rw[xN];cases v;case pointer q=>
     rw[aY];cases q with
     |none=>exact ae (by simp[Ren.ren])
     |some b=>exact ze (hv b rfl) l
    all_goals simp[fK]
    all_goals exact ae (by simp[Ren.ren])
  all_goals exact aj
 cases d<;>first |exact bD trivial|exact hk
end
section
variable{σ:Nat->Nat}{Ro:Nat->Prop}{D:Known}{Q:up}{β:Nat->Option Code}
def jh(D:Known)(x:No):Prop:=∀a,x= .pointer (some a)->D a.block
theorem DT(F:Fit Q σ)(n):σ n<Q.globals.size↔n<Q.globals.size:=by
 constructor
 .intro h;have:=F.inj _ _ (F.low (σ n) (by omega));omega
 .intro h;rw[F.low n (by omega)];omega
theorem rL(F:Fit Q σ){a b}(ha:D a.block)(hb:D b.block):au Q β σ Ro D (Op.twoPlaces a b) (Op.twoPlaces (bi σ a) (bi σ b)):=by
 refine dF ?_;have eg:(alt Q β).globals=Q.globals:=rfl;rw[jo,jo];refine bp ?_ (λ_=>bD trivial) λ_=>am (kK ha) λx=>am (kK hb) λy=>ae rfl
 .have hne:(σ a.block !=σ b.block)=(a.block !=b.block):=by
   rw[U5,bne_iff_ne,bne_iff_ne];exact⟨λh h'=>h (by rw[h']),λh h'=>h (F.inj _ _ h')⟩
  have:=DT F a.block;grind
theorem CG(F:Fit Q σ)(k){a b}(ha:D a.block)(hb:D b.block):au Q β σ Ro D (Op.addrSub k a b) (Op.addrSub k (bi σ a) (bi σ b)):=am (α:=Nat×Nat) (rL F ha hb) λx=>ae (by simp[Ren.ren])
theorem CH(F:Fit Q σ)(op){a b}(ha:D a.block)(hb:D b.block):au Q β σ Ro D (Op.addrCmp op a b) (Op.addrCmp op (bi σ a) (bi σ b)):=by
 refine am (α:=Nat×Nat) (rL F ha hb) λx=> ?_
 cases op<;>first |exact bD trivial|exact ae (by simp[Ren.ren])
theorem pP(k){a}(ha:D a.block)(n):au Q β σ Ro D (Op.addrMod k a n) (Op.addrMod k (bi σ a) n):=by
 exact pN (λs'=>bD trivial) λe c=>lk e λi hi=>bp Su (λ_=>bD trivial) λ_=>am (kK ha) λx=>ae (by simp[Ren.ren])
theorem An(op k x y):au Q β σ Ro D (Op.intArith op k x y) (Op.intArith op k x y):=by
 cases op<;>first |exact aj|exact ae (by simp[Ren.ren])
theorem EG(F:Fit Q σ)(op k x y):au Q β σ Ro D (Op.intDiv op k x y) (Op.intDiv op k x y):=by
 refine bp Su (λ_=>cq F _) λ_=> ?_
 cases op<;>first |exact aj|exact ae (by simp[Ren.ren])
theorem Cy(op k x y):au Q β σ Ro D (Op.intBits op k x y) (Op.intBits op k x y):=by
 cases op<;>first |exact aj|exact ae (by simp[Ren.ren])
theorem EH(op x y):au Q β σ Ro D (Op.intCmp op x y) (Op.intCmp op x y):=by
 cases op<;>first |exact aj|exact ae (by simp[Ren.ren])
theorem yi(F:Fit Q σ)(op k x yk y):au Q β σ Ro D (Op.shift op k x yk y) (Op.shift op k x yk y):=by
 refine bp Su (λ_=>cq F _) λ_=> ?_
 cases op<;>first |exact aj|exact ae (by simp[Ren.ren])
theorem sC(op x y):au Q β σ Ro D (Op.stringOp op x y) (Op.stringOp op x y):=by
 cases op<;>first |exact aj|exact ae (by simp[Ren.ren])|exact bp Su (λ_=>bD trivial) λ_=>ae (by simp[Ren.ren])
def mv:TypeDesc->Prop
 | .int _=>True
 | .string=>True
 |_=>False
theorem M0(F:Fit Q σ)(a b):(bi σ a==bi σ b)=(a==b):=by
 by_cases h:a=b
 .grind
 .have:bi σ a≠bi σ b:=λh'=>h (by
   have h2:(bi σ a).off=(bi σ b).off:=by rw[h']
   have h3:(bi σ a).spot=(bi σ b).spot:=by rw[h']
   cases a;cases b;simp[Addr.mk.injEq];exact⟨F.inj _ _ (congrArg U7 h'),h2,h3⟩)
  rw[beq_eq_false_iff_ne.2 h,beq_eq_false_iff_ne.2 this]
theorem Ao(F:Fit Q σ){t x y}(ht:∀d,Q.underlying t=some d->mv d)(hx:jh D x)(hy:jh D y):au Q β σ Ro D (SH t x y) (SH t (ab σ x) (ab σ y)):=by
 unfold SH Tk;unfold U1;refine bW t λd hd=> ?_
 have hk:=ht d hd;cases d;case int k=>
  cases x;case int k1 a=>
   cases y;case int k2 b=>
    simp only[cr];exact bp Su (λ_=>ae (by simp[Ren.ren])) λ_=>aj
   case pointer q=>
    rw[cr,aY];cases q with
    |none=>first |exact bD trivial|exact ae rfl
    |some b=>
     dsimp only[x5];by_cases h0:a=0
     .subst h0;exact ae rfl
     .have:∀(P:up),True:=λ_=>trivial
      cases a with
      |ofNat n=>cases n with
       |zero=>exact absurd rfl h0
       |succ n=>exact bD trivial
      |negSucc n=>exact bD trivial
   all_goals exact aj
  case pointer q=>
   cases q with
   |none=>
    cases y;all_goals first |exact aj|exact bD trivial|(rename_i z;cases z<;>first |exact aj|exact bD trivial)
   |some a=>
    cases y;case int k2 b=>
     rw[cr,aY];dsimp only[x5];cases b with
     |ofNat n=>cases n with
      |zero=>exact ae rfl
      |succ n=>exact bD trivial
     |negSucc n=>exact bD trivial
    case pointer r=>
     cases r with
     |none=>exact bD trivial
     |some b=>
      rw[aY,aY];dsimp only[x5];refine eT (hx a rfl) λa1 l1 ha=> ?_
      refine eT (hy b rfl) λb1 l2 hb=> ?_
      dsimp only;refine dF ?_;have eg:(alt Q β).globals=Q.globals:=rfl;have h1:=DT F a1.block;have h2:(σ a1.block==σ b1.block)=(a1.block==b1.block):=by
       rw[U5,beq_iff_eq,beq_iff_eq];exact⟨λh=>F.inj _ _ h,λh=>by rw[h]⟩
      rw[eg,jo,jo,h2];refine bp ?_ (λ_=> ?_) λ_=> ?_
      .rw[OF,OF,decide_eq_true_eq,decide_eq_true_eq,h1]
      .exact am (kK ha) λx=>am (kK hb) λy=>ae (by simp[Ren.ren])
      .refine lk t λi hi=> ?_
       split
       .refine bp (by rw[M0 F]) (λ_=>ae rfl) λ_=>bD trivial
       .exact bD trivial
    all_goals exact bD trivial
  all_goals(cases y<;>first |exact aj|exact bD trivial)
 case string=>
  cases x;case string a=>
   cases y;case string b=>simp only[ct];exact ae (by simp[Ren.ren])
   all_goals exact aj
  all_goals exact aj
 all_goals exact hk.elim
theorem zh{t x}(ht:∀d,Q.underlying t=some d->∃e,d= .pointer e):au Q β σ Ro D (SH t x (.pointer none)) (SH t (ab σ x) (.pointer none)):=by
 unfold SH Tk;unfold U1;refine bW t λd hd=> ?_
 obtain⟨e,rfl⟩:=ht d hd;cases x;case pointer q=>
  rw[aY];cases q<;>exact ae rfl
 all_goals exact aj
theorem zi{t x}(ht:∀d,Q.underlying t=some d->∃e,d= .interface e):au Q β σ Ro D (SH t x .nilIface) (SH t (ab σ x) .nilIface):=by
 unfold SH Tk;unfold U1;refine bW t λd hd=> ?_
 obtain⟨e,rfl⟩:=ht d hd;cases x;case nilIface=>rw[db];exact ae rfl
 case iface t v=>rw[dW];exact ae rfl
 all_goals exact aj
end
inductive dE{α:Type}(T:α->Prop):Sem α->Prop where
 |pure (a:α) (h:T a):dE T (.pure a)
 |halt (h:Halt) (d:Dead h):dE T (.halt h)
 |choose (q:Question) (k:Nat->Sem α) (h:∀n,dE T (k n)):dE T (.choose q k)
theorem aQ{α γ}{T:α->Prop}{U:γ->Prop}{s f}(hs:dE T s)(hf:∀a,T a->dE U (f a)):dE U (s>>=f):=by
 induction hs with
 |pure a h=>exact hf a h
 |halt h d=>exact .halt h d
 |choose q k _ ih=>exact .choose q _ ih
theorem cj{α T a}(h:T a):dE T (pure a:Sem α):=.pure a h
theorem kT{α T m}:dE T (stuck m:Sem α):=.halt _ trivial
theorem jH{q T}(h:∀n,T n):dE T (choose q):=.choose q _ λn=>.pure n (h n)
theorem gF{α}{T:α->Prop}{c}[Decidable c]{x y}(hx:dE T x)(hy:dE T y):dE T (if c then x else y):=by
 grind
abbrev Any{α:Type}(_:α):Prop:=True
section
variable{σ:Nat->Nat}{Ro:Nat->Prop}{D:Known}{Q:up}{β:Nat->Option Code}
theorem Jj{α}[Ren α]{s:Sem α}(h:dE (λa=>Ren.ren σ a=a) s):au Q β σ Ro D s s:=by
 induction h with
 |pure a h=>exact ae h.symm
 |halt h d=>exact bD d
 |choose q k _ ih=>exact am (qR q) λn=>ih n
abbrev Still(v:No):Prop:=∀σ,ab σ v=v
theorem eS(k n):Still (.float k n):=λσ=>by simp
theorem mz(k n m):Still (.complex k n m):=λσ=>by simp
theorem qM(b):Still (.bool b):=λσ=>by simp
theorem yh(k n):Still (.int k n):=λσ=>by simp
theorem mg{s}(h:dE Still s):au Q β σ Ro D s s:=by
 have:dE (λa=>Ren.ren σ a=a) s:=by
  induction h with
  |pure a h=>exact .pure a (h σ)
  |halt h d=>exact .halt h d
  |choose q k _ ih=>exact .choose q k ih
 exact Jj this
theorem pa(op k x y):dE Still (Op.floatArith op k x y):=by
 have hj:∀r,dE Still (match r with
  |some r=>pure (.float k r)
  |none=>do pure (.float k (<- choose (.nanBits k x y)))):=λr=>by
  cases r with
  |some r=>exact cj (eS _ _)
  |none=>exact aQ (jH (T:=Any) λ_=>trivial) λn _=>cj (eS _ _)
 cases op<;>first |exact hj _|exact .halt _ trivial
theorem rR(op k x y):dE Still (Op.floatCmp op k x y):=by
 cases op<;>first |exact kT|exact cj (qM _)
theorem tU(s b d):dE Still (Conv.floatToFloat s b d):=by
 refine gF (cj (eS _ _)) ?_;split
 .exact aQ (jH (T:=Any) λ_=>trivial) λn _=>cj (eS _ _)
 .exact cj (eS _ _)
 .exact gF (aQ (jH (T:=Any) λ_=>trivial) λn _=>cj (eS _ _)) (cj (eS _ _))
theorem wD(s b d):dE Still (U4 s b d):=by
 have h:dE Still (do pure (.int d (d.wrap (<- choose (.floatToInt s b d))))):=aQ (jH (T:=Any) λ_=>trivial) λn _=>cj (yh _ _)
 unfold U4;split
 .exact gF (cj (yh _ _)) h
 omega
theorem et(op k x y):dE Any (Op.Complex.arith op k x y):=by
 refine aQ (pa op k x y) λv _=> ?_
 cases v<;>first |exact kT|exact cj trivial
theorem j6(op k x y):dE Any (Op.Complex.cmp op k x y):=by
 refine aQ (rR op k x y) λv _=> ?_
 cases v;case bool b=>exact cj trivial
 all_goals exact kT
theorem jr(s x d):dE Any (Op.Complex.conv s x d):=by
 refine gF (cj trivial) (aQ (tU s x d) λv _=> ?_);cases v<;>first |exact kT|exact cj trivial
theorem zq(a b c d):dE Any (Op.Complex.product a b c d):=by
 repeat' first
  |exact cj trivial
  |refine aQ (et _ _ _ _) λ_ _=> ?_
theorem pc(a b c d e):dE Any (Op.Complex.corrected a b c d e):=by
 repeat' first
  |exact cj trivial
  |refine aQ (et _ _ _ _) λ_ _=> ?_
theorem Hk(x y):dE Any (Op.Complex.sub x y):=et _ _ _ _
theorem yJ(x y):dE Any (Op.Complex.add x y):=et _ _ _ _
theorem mj(x y):dE Any (Op.Complex.mul x y):=et _ _ _ _
theorem sN(x y):dE Any (Op.Complex.quo x y):=et _ _ _ _
theorem xU(a b c d):dE Any (Op.Complex.quotient a b c d):=by
 unfold Op.Complex.quotient;extract_lets jp;have hj:∀ef,dE Any (jp ef):=λef=>by
  exact aQ (j6 _ _ _ _) λ_ _=>aQ (j6 _ _ _ _) λ_ _=>gF (cj trivial) (gF (aQ (mj _ _) λ_ _=>aQ (mj _ _) λ_ _=>cj trivial) (gF (pc _ _ _ _ _) (gF (pc _ _ _ _ _) (cj trivial))))
 clear_value jp;refine aQ (j6 _ _ _ _) λb _=>gF ?_ ?_
 all_goals exact aQ (sN _ _) λ_ _=>aQ (mj _ _) λ_ _=>aQ (yJ _ _) λ_ _=>aQ (mj _ _) λ_ _=>aQ (yJ _ _) λ_ _=>aQ (sN _ _) λ_ _=>aQ (mj _ _) λ_ _=>aQ (Hk _ _) λ_ _=>aQ (sN _ _) λ_ _=>hj _
theorem xV(op k a b c d):dE Still (Op.complexOp op k a b c d):=by
 have hm:∀p:Bool,dE Still (do
  let(a,b,c,d):=(<- Op.Complex.conv k a .f64,<- Op.Complex.conv k b .f64,<- Op.Complex.conv k c .f64,<- Op.Complex.conv k d .f64)
  let(e,f) <- if p then Op.Complex.product a b c d else Op.Complex.quotient a b c d
  pure (.complex k (<- Op.Complex.conv .f64 e k) (<- Op.Complex.conv .f64 f k))):=λp=>by
  refine aQ (jr _ _ _) λ_ _=>aQ (jr _ _ _) λ_ _=>aQ (jr _ _ _) λ_ _=>aQ (jr _ _ _) λ_ _=> ?_
  refine gF (aQ (zq _ _ _ _) λef _=> ?_) (aQ (xU _ _ _ _) λef _=> ?_);all_goals exact aQ (jr _ _ _) λ_ _=>aQ (jr _ _ _) λ_ _=>cj (mz _ _ _)
 cases op;case mul=>exact hm _
 case quo=>exact hm _
 case add=>exact aQ (et _ _ _ _) λ_ _=>aQ (et _ _ _ _) λ_ _=>cj (mz _ _ _)
 case sub=>exact aQ (et _ _ _ _) λ_ _=>aQ (et _ _ _ _) λ_ _=>cj (mz _ _ _)
 case eql=>exact aQ (j6 _ _ _ _) λ_ _=>aQ (j6 _ _ _ _) λ_ _=>cj (qM _)
 case neq=>exact aQ (j6 _ _ _ _) λ_ _=>aQ (j6 _ _ _ _) λ_ _=>cj (qM _)
 all_goals exact kT
def F8(Q:up)(op:BinOp)(t:T6)(y:Tc):Bool:=
 match Q.underlying t with
 |some (.int _)=>true
 |some .string=>true
 |some (.pointer _)=>(op matches .eql| .neq)&& (y matches .const (.pointer none))
 |some (.interface _)=>(op matches .eql| .neq)&& (y matches .const .nilIface)
 |_=>false
theorem dm{α}[Ren α]{h}{s':Sem α}(hd:Dead h):au Q β σ Ro D (Ts h) s':=bD hd
theorem sE(op:BinOp){t x y x' y'}(h:au Q β σ Ro D (SH t x y) (SH t x' y')):au Q β σ Ro D (do pure (.bool (<- SH t x y)):Sem No) (do pure (.bool (<- SH t x' y')))/\au Q β σ Ro D (do pure (.bool !(<- SH t x y)):Sem No) (do pure (.bool !(<- SH t x' y'))):=
 ⟨am h λb=>ae (by simp[Ren.ren]),am h λb=>ae (by simp[Ren.ren])⟩
end
section
variable{σ:Nat->Nat}{Ro:Nat->Prop}{D:Known}{Q:up}{β:Nat->Option Code}
theorem binOp_eql{t x y}(h1:∀k a k' b,x= .int k a->y= .int k' b->False)(h2:∀k a k' b,x= .float k a->y= .float k' b->False)
 (h3:∀k a a' k' b b',x= .complex k a a'->y= .complex k' b b'->False) (h4:∀a b,x= .string a->y= .string b->False):binOp .eql t x y=(do pure (.bool (<- SH t x y))):=by
 unfold binOp;split;all_goals first
  |rfl
  |exact(h1 _ _ _ _ rfl rfl).elim
  |exact(h2 _ _ _ _ rfl rfl).elim
  |exact(h3 _ _ _ _ _ _ rfl rfl).elim
  |exact(h4 _ _ rfl rfl).elim
  |contradiction
theorem binOp_neq{t x y}(h1:∀k a k' b,x= .int k a->y= .int k' b->False)(h2:∀k a k' b,x= .float k a->y= .float k' b->False)
 (h3:∀k a a' k' b b',x= .complex k a a'->y= .complex k' b b'->False) (h4:∀a b,x= .string a->y= .string b->False):binOp .neq t x y=(do pure (.bool !(<- SH t x y))):=by
 simp[binOp]
theorem kN{x k a}(h:ab σ x= .int k a):x= .int k a:=by cases x<;>simp at h ⊢<;>exact h
theorem jm{x k a}(h:ab σ x= .float k a):x= .float k a:=by cases x<;>simp at h ⊢<;>exact h
theorem ie{x k a b}(h:ab σ x= .complex k a b):x= .complex k a b:=by cases x<;>simp at h ⊢<;>exact h
theorem iS{x a}(h:ab σ x= .string a):x= .string a:=by cases x<;>simp at h ⊢<;>exact h
theorem EI(F:Fit Q σ)(op){t x y}(ht:∀d,Q.underlying t=some d->mv d)(hx:jh D x)(hy:jh D y):au Q β σ Ro D (binOp op t x y) (binOp op t (ab σ x) (ab σ y)):=by
 obtain⟨he,hne⟩:=sE op (Ao (β:=β) (Ro:=Ro) F ht hx hy);rw[binOp.eq_def op t x y];split
 .simp only[cr];exact yi F _ _ _ _ _
 .simp only[cr];exact yi F _ _ _ _ _
 .rename_i k a k' b h1 h2;simp only[cr];unfold binOp;cases op;case shl=>exact(h1 rfl).elim
  case shr=>exact(h2 rfl).elim
  all_goals
   dsimp only;refine bp Su (λ_=>aj) λ_=> ?_
   first
    |exact An _ _ _ _
    |exact EG F _ _ _ _
    |exact Cy _ _ _ _
    |exact EH _ _ _
 .simp only[eC];unfold binOp;cases op;all_goals
   dsimp only;refine bp Su (λ_=>aj) λ_=> ?_
   first
    |exact mg (pa _ _ _ _)
    |exact mg (rR _ _ _ _)
 .simp only[eZ];unfold binOp;cases op;all_goals
   dsimp only;refine bp Su (λ_=>aj) λ_=> ?_
   exact mg (xV _ _ _ _ _ _)
 .simp only[ct];unfold binOp;cases op<;>exact sC _ _ _
 .rename_i h1 h2 h3 h4;rw[binOp_eql (λk a k' b e e'=>h1 _ _ _ _ (kN e) (kN e')) (λk a k' b e e'=>h2 _ _ _ _ (jm e) (jm e')) (λk a a' k' b b' e e'=>h3 _ _ _ _ _ _ (ie e) (ie e')) λa b e e'=>h4 _ _ (iS e) (iS e')];exact he
 .rename_i h1 h2 h3 h4;rw[binOp_neq (λk a k' b e e'=>h1 _ _ _ _ (kN e) (kN e')) (λk a k' b e e'=>h2 _ _ _ _ (jm e) (jm e')) (λk a a' k' b b' e e'=>h3 _ _ _ _ _ _ (ie e) (ie e')) λa b e e'=>h4 _ _ (iS e) (iS e')];exact hne
 .rename_i p k n;have h0:=kJ (Q:=Q) (β:=β) (σ:=σ) (Ro:=Ro) (D:=D) (t:=t) (x:=.pointer p) (y:=.int k n) hx;rw[aY,cr]at h0 ⊢;refine bW t λd hd=> ?_
  have hk:=ht d hd;cases d;case int=>exact h0
  case string=>exact h0
  all_goals exact hk.elim
 .rename_i k n p;have h0:=kJ (Q:=Q) (β:=β) (σ:=σ) (Ro:=Ro) (D:=D) (t:=t) (x:=.pointer p) (y:=.int k n) hy;rw[aY,cr]at h0 ⊢;exact h0
 .rename_i p k n;have h0:=kJ (Q:=Q) (β:=β) (σ:=σ) (Ro:=Ro) (D:=D) (t:=t) (x:=.pointer p) (y:=.int k (-n)) hx;rw[aY,cr]at h0 ⊢;exact h0
 .simp only[aY,x5];exact eT (hx _ rfl) λb1 l hb=>eT (hy _ rfl) λb2 l2 hb2=>CG F _ hb hb2
 iterate 4
  .simp only[aY,x5];exact eT (hx _ rfl) λb1 l hb=>eT (hy _ rfl) λb2 l2 hb2=>CH F _ hb hb2
 .simp only[aY,cr,x5];exact eT (hx _ rfl) λb1 l hb=>pP _ hb _
 .simp only[aY,cr,x5];exact eT (hx _ rfl) λb1 l hb=>pP _ hb _
 .simp only[aY,cr,x5];exact eT (hy _ rfl) λb1 l hb=>pP _ hb _
 .exact dm trivial
 .exact dm trivial
 .exact aj
theorem zj(op)(ho:op= .eql\/op= .neq){t x}(ht:∀d,Q.underlying t=some d->∃e,d= .pointer e):au Q β σ Ro D (binOp op t x (.pointer none)) (binOp op t (ab σ x) (.pointer none)):=by
 obtain⟨he,hne⟩:=sE op (zh (β:=β) (Ro:=Ro) (D:=D) (σ:=σ) (x:=x) ht);rcases ho with rfl|rfl
 .rw[binOp_eql (λ_ _ _ _ _ e=>by cases e) (λ_ _ _ _ _ e=>by cases e) (λ_ _ _ _ _ _ _ e=>by cases e) (λ_ _ _ e=>by cases e),binOp_eql (λ_ _ _ _ _ e=>by cases e) (λ_ _ _ _ _ e=>by cases e) (λ_ _ _ _ _ _ _ e=>by cases e) λ_ _ _ e=>by cases e];omega
 simp_all[binOp_neq]
theorem zk(op)(ho:op= .eql\/op= .neq){t x}(ht:∀d,Q.underlying t=some d->∃e,d= .interface e):au Q β σ Ro D (binOp op t x .nilIface) (binOp op t (ab σ x) .nilIface):=by
 obtain⟨he,hne⟩:=sE op (zi (β:=β) (Ro:=Ro) (D:=D) (σ:=σ) (x:=x) ht);rcases ho with rfl|rfl
 .rw[binOp_eql (λ_ _ _ _ _ e=>by cases e) (λ_ _ _ _ _ e=>by cases e) (λ_ _ _ _ _ _ _ e=>by cases e) (λ_ _ _ e=>by cases e),binOp_eql (λ_ _ _ _ _ e=>by cases e) (λ_ _ _ _ _ e=>by cases e) (λ_ _ _ _ _ _ _ e=>by cases e) λ_ _ _ e=>by cases e];omega
 simp_all[binOp_neq]
end
section
variable{σ:Nat->Nat}{Ro:Nat->Prop}{D:Known}{Q:up}{β:Nat->Option Code}
theorem CD{s d}(hs:∀e,Q.underlying s=some e->∃k,e= .int k)(hd:∀e,Q.underlying d=some e->∃k,e= .int k)(x):au Q β σ Ro D (convert s d x) (convert s d (ab σ x)):=by
 unfold convert;refine bW s λe he=> ?_
 refine bW d λe' he'=> ?_
 obtain⟨k,rfl⟩:=hs e he;obtain⟨k',rfl⟩:=hd e' he';cases x;case int k n=>rw[cr];exact ae (by simp[Ren.ren])
 case float k b=>rw[eC];exact mg (wD _ _ _)
 case pointer p=>cases p<;>exact dm trivial
 all_goals exact dm trivial
theorem qp(F:Fit Q σ)(x y c):au Q β σ Ro D (Ta x y c) (Ta (ab σ x) y c):=by
 exact am (lS x) λki=>bp Su (λ_=>ae rfl) λ_=>gk F _ _ _ _
theorem vO(F:Fit Q σ)(b len cap lo hi):au Q β σ Ro D (TU b len cap lo hi none) (TU b len cap (lo.map (ab σ)) (hi.map (ab σ)) none):=by
 have h2:∀(lo:Option No)(h m:Nat),au Q β σ Ro D (do
  let l <- match lo with
   |some v=>Ta v h (if(none:Option No).isSome then .slice3C else .sliceB)
   |none=>pure 0
  pure (l,h,m)) (do
  let l <- match lo.map (ab σ)with
   |some v=>Ta v h (if none.isSome then .slice3C else .sliceB)
   |none=>pure 0
  pure (l,h,m)):=λlo h m=>by
  cases lo with
  |none=>exact ae rfl
  |some v=>exact am (qp F v _ _) λl=>ae rfl
 cases hi with
 |none=>exact h2 lo len cap
 |some v=>
  exact am (α:=Nat) (ae rfl) λm=>am (qp F v _ _) λh=>h2 lo h m
theorem Gw(F:Fit Q σ)(t)(ht:∀e,Q.underlying t=some e->e= .string)(x lo hi):au Q β σ Ro D (TH t x lo hi none) (TH t (ab σ x) (lo.map (ab σ)) (hi.map (ab σ)) none):=by
 unfold TH;refine bW t λe he=> ?_
 obtain rfl:=ht e he;unfold Instr.slice;refine bW t λe he=> ?_
 obtain rfl:=ht e he;cases x;case string s=>
  rw[ct];dsimp only;refine bp Su (λh=>absurd h (by simp)) λ_=> ?_
  exact am (vO F _ _ _ _ _) λl=>ae (by simp[Ren.ren])
 all_goals exact aj
theorem Cz(F:Fit Q σ)(t x i):au Q β σ Ro D (TI t x i) (TI t (ab σ x) (ab σ i)):=by
 unfold TI;refine am (lS i) λki=> ?_
 obtain⟨k,i⟩:=ki;rw[GT,AD,tG];have h0:∀(base:Option Addr)(len:Nat)(elem:T6),au Q β σ Ro D (do
  let tiny:=len<=1&&match<- underlying t with | .array .. =>true|_=>false
  match base with
  |some a=>
   if 0<=i/\i<len then pure (.pointer (some (a.add (i.toNat*(<- sizeOf elem)))))
   else if tiny then unsupported (.noEntry "op/indexAddr.an index out of range at an array of length 0 or 1 (ledger 616)")
   else boundsPanic k i len .index
  |none=>boundsPanic k i 0 .index:Sem No) (do
  let tiny:=len<=1&&match<- underlying t with | .array .. =>true|_=>false
  match base.map (bi σ)with
  |some a=>
   if 0<=i/\i<len then pure (.pointer (some (a.add (i.toNat*(<- sizeOf elem)))))
   else if tiny then unsupported (.noEntry "op/indexAddr.an index out of range at an array of length 0 or 1 (ledger 616)")
   else boundsPanic k i len .index
  |none=>boundsPanic k i 0 .index):=λbase len elem=>by
  refine bW t λe he=> ?_
  cases base with
  |none=>exact gk F _ _ _ _
  |some a=>
   dsimp only[x5];refine bp Su (λ_=> ?_) λ_=>bp Su (λ_=>dm trivial) λ_=>gk F _ _ _ _
   exact am (fF elem) λn=>ae (by simp[Ren.ren])
 refine bW t λe he=> ?_
 cases e;case array n e=>
  refine am (kI x) λa=> ?_
  exact h0 (some a) n e
 case slice e=>
  cases x;case slice a n c=>rw[dG];exact h0 a n e
  all_goals exact aj
 all_goals exact aj
theorem LO{t}(ht:∀e,Q.underlying t=some e->e= .string\/∃k,e= .slice k)(argTypes)(h0:argTypes[0]?=some t)(ty args):au Q β σ Ro D (Ty argTypes ty args) (Ty argTypes ty (args.map (ab σ))):=by
 unfold Ty;rw[h0,SL];cases args[0]? with
 |none=>exact aj
 |some x=>
  dsimp only[x5];refine bW t λe he=> ?_
  rcases ht e he with rfl|⟨k,rfl⟩
  .cases x;case string s=>rw[ct];exact ae (by simp[Ren.ren,goInt])
   all_goals exact aj
  .cases x;case slice a n c=>rw[dG];exact ae (by simp[Ren.ren,goInt])
   all_goals exact aj
end
section
variable{σ:Nat->Nat}{Ro:Nat->Prop}{D:Known}{Q:up}{β:Nat->Option Code}
instance:Ren SysRet:=⟨λ_ x=>x⟩
theorem EC:au Q β σ Ro D (sys .env) (sys .env):=by
 intro w w' es es' hw hb hS hF;have e:∀(P:up)(w:By)(es:Array SE),(sys .env).runT P w es=(.ok (.strings w.os.env) w,es.push ⟨.output,true,false⟩):=λP w es=>by
  rfl
 rw[e,e];refine⟨oE hb (by simp[SW]),.inl ⟨_,w,w',rfl,?_,jR hS ⟨.output,true,false⟩,hw,rfl⟩⟩;rw[hw.os.1,hw.os.2];rfl
theorem Ah:au Q β σ Ro D Ub Ub:=by
 refine am EC λr=> ?_
 cases r;case strings env=>exact dF (ae rfl)
 all_goals exact aj
theorem Cx(F:Fit Q σ)(x):au Q β σ Ro D (Instr.panic x) (Instr.panic (ab σ x)):=by
 cases x;case iface t v=>rw[dW];exact gj (by simp)
 case nilIface=>
  rw[db];refine am Ah λn=> ?_
  refine bp (by rw[tG]) (λ_=>gj (by simp)) λ_=>cq F _
 all_goals exact aj
theorem zg(a:Addr)(n):∀acc a,au Q β σ Ro D (Extern.Bytes.loadBytes a n acc) (Extern.Bytes.loadBytes (bi σ a) n acc):=by
 induction n with
 |zero=>exactλacc a=>ae rfl
 |succ n ih=>
  intro acc a;unfold Extern.Bytes.loadBytes;refine am (qP a .plain) λv=> ?_
  rw[xN];cases v;case int k b=>
   rw[cr];cases k;case u8=>have:=ih (acc.push b.toNat.toUInt8) (a.add 1);rw[qW]at this;omega
   all_goals exact aj
  all_goals exact aj
theorem pO(v):au Q β σ Ro D (Extern.Bytes.bytesOf v) (Extern.Bytes.bytesOf (ab σ v)):=by
 cases v;case string s=>rw[ct];exact ae rfl
 case slice a n c=>
  rw[dG];cases a with
  |none=>exact ae rfl
  |some a=>exact zg a n _ a
 all_goals exact aj
theorem EK(v):au Q β σ Ro D (Extern.Bytes.asByte v) (Extern.Bytes.asByte (ab σ v)):=by
 cases v;case int k b=>
  rw[cr];cases k;case u8=>exact ae rfl
  all_goals exact aj
 all_goals exact aj
def Lib(Q:up)(β:Nat->Option Code)(σ:Nat->Nat)(Ro:Nat->Prop)(D:Known)(e:Array No->Sem No):Prop:=∀args,au Q β σ Ro D (e args) (e (args.map (ab σ)))
theorem zr:Lib Q β σ Ro D Extern.BytealgIndexByte.indexByte:=by
 intro args;obtain⟨_|⟨b,_|⟨c,_|⟨d,l⟩⟩⟩⟩:=args;case cons.cons.nil=>
  rw[Tu];refine am (pO b) λb=>am (EK c) λc=> ?_
  rw[sH,Jw];split <;>exact ae (by simp[Ren.ren,goInt])
 all_goals exact aj
theorem Hq(F:Fit Q σ):Lib Q β σ Ro D Extern.BytealgIndex.index:=by
 have hm:au Q β σ Ro D Extern.BytealgIndex.maxLen Extern.BytealgIndex.maxLen:=by
  refine am (α:=Addr) ?_ λa=>am (qP a .plain) λv=>ym v
  refine dF ?_;have eg:(alt Q β).globals=Q.globals:=rfl;rw[eg];cases hg:Q.globals.findIdx? (·.name== "internal/bytealg.MaxLen")with
  |none=>exact aj
  |some g=>
   refine ae ?_;have hlt:=by
    rw[Array.findIdx?_eq_some_iff_getElem]at hg;exact hg.1
   simp[Ren.ren,bi,F.low g (by omega)]
 intro args;obtain⟨_|⟨a,_|⟨b,_|⟨d,l⟩⟩⟩⟩:=args;case cons.cons.nil=>
  rw[Tu];refine am (pO a) λa=>am (pO b) λb=> ?_
  rw[sH,sH];refine am hm λn=> ?_
  refine bp Su (λ_=>dm trivial) λ_=>bp Su (λ_=>dm trivial) λ_=> ?_
  split <;>exact ae (by simp[Ren.ren,goInt])
 all_goals exact aj
end
section
variable{σ:Nat->Nat}{Ro:Nat->Prop}{D:Known}{Q:up}{β:Nat->Option Code}
abbrev pI:=Except (Option Bool) (T6×Option No)
def AH(σ:Nat->Nat):pI->pI
 | .error e=>.error e
 | .ok (t,x)=>.ok (t,x.map (ab σ))
instance:Ren pI:=⟨AH⟩
theorem vP:∀l t x,au (α:=pI) Q β σ Ro D (followBlind l t x) (followBlind l t (x.map (ab σ))):=by
 intro l;induction l with
 |nil=>
  intro t x;exact ae (α:=pI) rfl
 |cons s rest ih=>
  intro t x;unfold followBlind;refine bW s.struct λd hd=> ?_
  cases d;case struct fields=>
   dsimp only;cases fields[s.index]? with
   |none=>exact aj
   |some f=>
    dsimp only;cases hs:s.deref with
    |true=>
     cases x with
     |none=>exact ae (α:=pI) rfl
     |some v=>
      cases v;case pointer a=>
       rw[x5,aY];cases a with
       |none=>exact ae (α:=pI) rfl
       |some a=>exact ih f.type none
      all_goals exact aj
    |false=>
     cases x with
     |none=>exact ih f.type none
     |some v=>
      cases v;case agg cs=>
       rw[x5,fy];refine am (Af f.type cs f.offset) λv=> ?_
       exact ih f.type (some v)
      all_goals exact aj
  all_goals exact aj
theorem Aj(fuel):∀t v name,au (α:=Option Bool) Q β σ Ro D (nilAhead fuel t v name) (nilAhead fuel t (ab σ v) name):=by
 induction fuel with
 |zero=>exactλt v name=>ae rfl
 |succ fuel ih=>
  intro t v name;refine lk t λi hi=> ?_
  cases i.methods.find? (·.name==name)with
  |none=>exact aj
  |some m=>
   refine am (α:=pI) (vP m.path.toList t (some v)) λr=> ?_
   cases r with
   |error r=>exact ae (by simp[Ren.ren])
   |ok r=>
    obtain⟨xt,x⟩:=r;dsimp only[Ren.ren,AH];cases hm:m.func with
    |none=>
     cases x with
     |none=>exact ae rfl
     |some x=>
      cases x;case iface t' v'=>rw[x5,dW];grind
      case nilIface=>rw[x5,db];exact ae rfl
      all_goals exact aj
    |some fp=>
     obtain⟨f,p⟩:=fp;cases p with
     |true=>exact ae rfl
     |false=>
      refine bW xt λd hd=> ?_
      cases d;case pointer e=>
       cases x with
       |none=>exact ae rfl
       |some x=>
        cases x;case pointer a=>
         rw[x5,aY];cases a<;>exact ae rfl
        all_goals simp only[x5,fK,cr,eC,eZ,ct,fT,db,dG,ls,ko,iZ,dW,fy,gl]
        all_goals exact ae rfl
      all_goals exact ae rfl
def AG(σ:Nat->Nat):Target->Target
 | .fn fn captured=>.fn (kO σ fn) (captured.map (ab σ))
 |t=>t
def lu(σ:Nat->Nat)(d:Deferred):Deferred:= {target:=AG σ d.target,args:=d.args.map (ab σ)}
def jS(σ:Nat->Nat)(c:CommCase):CommCase:= {chan:=ab σ c.chan,send:=c.send.map (ab σ),zero:=ab σ c.zero}
def qV(σ:Nat->Nat):Next->Next
 | .value v=>.value (ab σ v)
 | .enter f args=>.enter f (args.map (ab σ))
 | .defer d=>.defer (lu σ d)
 | .spawn d=>.spawn (lu σ d)
 | .comm cases b s=>.comm (cases.map (jS σ)) b s
 |n=>n
instance:Ren Next:=⟨qV⟩
instance:Ren Deferred:=⟨lu⟩
instance:Ren CommCase:=⟨jS⟩
theorem cF{s s'}(h:au Q β σ Ro D s s'):au Q β σ Ro D (do pure (.value (<- s)):Sem Next) (do pure (.value (<- s'))):=am h λv=>ae rfl
theorem Jh{s s'}(h:au Q β σ Ro D s s'):au Q β σ Ro D (do s;pure .skip:Sem Next) (do s';pure .skip):=am h λv=>ae rfl
theorem xF(F:Fit Q σ)(ρ ρ')(hρ:∀x,ρ' x=ab σ (ρ x))(o x)(ho:o.op= .nilCheck x):au Q β σ Ro D (IN ρ o) (IN ρ' o):=by
 simp only[IN,ho,hρ];cases ρ x;case pointer a=>
  rw[aY];cases a with
  |none=>exact cq (α:=Next) F .nilDeref
  |some a=>exact ae (by simp[Ren.ren,qV])
 case nilIface=>rw[db];exact cq (α:=Next) F .nilDeref
 case nilFunc=>rw[fT];exact cq (α:=Next) F .nilDeref
 case func fn first captured=>
  rw[iZ];cases fn;case method name=>
   simp only[kO,SL];have hv:au Q β σ Ro D (pure (.value (.func (.method name) first captured)):Sem Next) (pure (.value (.func (.method name) (first.map (ab σ)) (captured.map (ab σ))))):=ae (by simp[Ren.ren,qV,kO]);cases hf:first[0]? with
   |none=>exact hv
   |some v=>
    dsimp only[x5];cases v;case nilIface=>rw[db];exact cq (α:=Next) F .nilDeref
    case iface t w=>
     rw[dW];refine dF ?_;refine am (α:=Option Bool) (Aj _ _ _ _) λb=> ?_
     refine bp ?_ (λ_=>dm trivial) λ_=>hv
     simp[Ren.ren]
    all_goals simp[fK,cr,eC,eZ,ct,fT,aY,dG,ls,ko,iZ,dW,fy,gl]
    all_goals exact hv
  all_goals exact ae (by simp[Ren.ren,qV])
 all_goals simp[fK,cr,eC,eZ,ct,dG,ls,ko,dW,fy,gl]
 all_goals exact ae (by simp[Ren.ren,qV])
end
def ml(Q:up)(t:T6):Bool:=match Q.underlying t with |some (.int _)=>true|_=>false
def Bh(Q:up)(t:T6):Bool:=match Q.underlying t with |some .string=>true|_=>false
def xS(Q:up)(s:T6)(f:Nat):Bool:=match Q.underlying s with
 |some (.struct fields)=>match fields[f]? with
  |some x=>match Q.info? x.type with
   |some i=>i.size !=0
   |none=>true
  |none=>true
 |_=>true
def ng(Q:up)(o:Oper):Bool:=match o.op with
 | .move _| .assign _| .pick _ _ _| .alloc _| .box _ _| .build _ _| .buildSlice _ _ _| .load _ _| .store _ _ _| .nilCheck _| .unOp _ _ _| .makeInterface _ _| .indexAddr _ _ _| .index _ _ _
 | .typeAssert _ _ _ _| .extract _ _| .panic _| .send _ _| .recv _ _ _=>true
 | .binOp op t _ y _=>F8 Q op t y
 | .convert s d _=>ml Q s&&ml Q d
 | .makeFunc (.func _) _ _=>true
 | .slice t _ _ _ none=>Bh Q t
 | .fieldAddr s _ f=>xS Q s f
 |_=>false
section
variable{σ:Nat->Nat}{Ro:Nat->Prop}{D:Known}{Q:up}{β:Nat->Option Code}
theorem pg{t}(h:ml Q t=true):∀e,Q.underlying t=some e->∃k,e= .int k:=λe he=>by
 simp[ml,he]at h;cases e<;>first |exact⟨_,rfl⟩|cases h
theorem Hz{t}(h:Bh Q t=true):∀e,Q.underlying t=some e->e= .string:=λe he=>by
 simp[Bh,he]at h;cases e<;>first |rfl|cases h
theorem F7{s f}(h:xS Q s f=true):∀fields x i,Q.underlying s=some (.struct fields)->fields[f]?=some x->Q.info? x.type=some i->i.size≠0:=λfields x i h1 h2 h3=>by
 simp_all[xS]
theorem yw{ρ ρ':Tc->No}(hρ:∀x,ρ' x=ab σ (ρ x))(parts:Array (Nat×Tc)):(parts.map λ(i,x)=>(i,ρ' x))=(parts.map λ(i,x)=>(i,ρ x)).map λx=>(x.1,ab σ x.2):=by
 rw[To];grind
theorem qv{ρ ρ'}(hρ:∀x,ρ' x=ab σ (ρ x))(xs:Array Tc):xs.map ρ'=(xs.map ρ).map (ab σ):=by
 grind
theorem AX{ρ ρ'}(hρ:∀x,ρ' x=ab σ (ρ x))(x:Option Tc):x.map ρ'=(x.map ρ).map (ab σ):=by
 cases x<;>simp[hρ]
theorem Ap{op t}(ht:∀d,Q.underlying t=some d->mv d)(x y a b):au Q β σ Ro D (eqGuard op t x y a b) (eqGuard op t x y (ab σ a) (ab σ b)):=by
 have hguard:∀P:up,P=Q\/P=alt Q β->P.eqGuardType P.depth t=false\/P.underlying t=none:=λP hP=>by
  have hu:P.underlying t=Q.underlying t:=by rcases hP with rfl|rfl<;>rfl
  rw[hu];cases hd:Q.underlying t with
  |none=>exact .inr rfl
  |some d=>
   refine .inl ?_;have hk:=ht d hd;unfold Uf TN;rw[hu,hd];cases d<;>first |rfl|exact hk.elim
 have hret:au Q β σ Ro D (pure ():Sem Unit) (pure ()):=ae rfl;unfold eqGuard;refine bp Su (λ_=>hret) λ_=> ?_
 cases a;case nilIface=>
  cases b;case nilIface=>
   rw[db];dsimp only;refine bp Su (λ_=>hret) λ_=> ?_
   refine am (α:=Bool) ?_ λb=>bp (by rw[AE]) (λ_=>dm trivial) λ_=>hret
   unfold Tk Op.eqGuardIn;refine bW t λd hd=> ?_
   have hk:=ht d hd;cases d;case int=>exact ae rfl
   case string=>exact ae rfl
   all_goals exact hk.elim
  all_goals simp only[fK,cr,eC,eZ,ct,fT,db,aY,dG,ls,ko,iZ,dW,gl,fy]
  all_goals exact hret
 case agg cs=>
  cases b;case agg ds=>
   rw[fy,fy];dsimp only;refine dF ?_;have h0:(alt Q β).eqGuardType (alt Q β).depth t=Q.eqGuardType Q.depth t/\(Q.eqGuardType Q.depth t=false\/Q.underlying t=none):=by
    grind [Uf,TN]
   refine dF ?_;rw[h0.1];refine bp Su (λ_=>hret) λhn=> ?_
   refine am (α:=Bool) ?_ λb=>bp (by rw[AE]) (λ_=>dm trivial) λ_=>hret
   unfold Tk Op.eqGuardIn;refine bW t λd hd=> ?_
   have hk:=ht d hd;cases d;case int=>exact ae rfl
   case string=>exact ae rfl
   all_goals exact hk.elim
  all_goals simp only[fK,cr,eC,eZ,ct,fT,db,aY,dG,ls,ko,iZ,dW,gl,fy]
  all_goals exact hret
 all_goals simp only[fK,cr,eC,eZ,ct,fT,aY,dG,ls,ko,iZ,dW,gl]
 all_goals exact hret
theorem sV(op t x y a):eqGuard op t x y a (.pointer none)=pure ():=by
 simp[eqGuard]
theorem sW(op t x a):eqGuard op t x (.const .nilIface) a .nilIface=pure ():=by
 cases op<;>cases a<;>cases x<;>rfl
theorem CE(F:Fit Q σ){ρ ρ':Tc->No}(hρ:∀x,ρ' x=ab σ (ρ x))(hc:ρ (.const (.pointer none))= .pointer none/\ρ (.const .nilIface)= .nilIface)(hk:∀x,jh D (ρ x)){op t x y}(hop:F8 Q op t y=true):
 au Q β σ Ro D (do eqGuard op t x y (ρ x) (ρ y);binOp op t (ρ x) (ρ y):Sem No) (do eqGuard op t x y (ρ' x) (ρ' y);binOp op t (ρ' x) (ρ' y)):=by
 rw[hρ x,hρ y];unfold F8 at hop;cases hd:Q.underlying t with
 |none=>rw[hd]at hop;cases hop
 |some d=>
  rw[hd]at hop;have hit:mv d->au Q β σ Ro D (do eqGuard op t x y (ρ x) (ρ y);binOp op t (ρ x) (ρ y):Sem No) (do eqGuard op t x y (ab σ (ρ x)) (ab σ (ρ y));binOp op t (ab σ (ρ x)) (ab σ (ρ y))):=λhi=>by
   have ht:∀d,Q.underlying t=some d->mv d:=λd' h'=>by grind
   exact am (Ap ht x y _ _) λ_=>EI F op ht (hk x) (hk y)
  cases d;case int=>exact hit trivial
  case string=>exact hit trivial
  case pointer e=>
   rw[OF]at hop;obtain⟨ho,hy⟩:=hop;have ho:op= .eql\/op= .neq:=by cases op<;>first |exact .inl rfl|exact .inr rfl|cases ho
   have hy:y= .const (.pointer none):=by
    grind
   subst hy;rw[hc.1,aY,Option.map_none,sV,sV];exact zj op ho λd' h'=>by grind
  case interface e=>
   rw[OF]at hop;obtain⟨ho,hy⟩:=hop;have ho:op= .eql\/op= .neq:=by cases op<;>first |exact .inl rfl|exact .inr rfl|cases ho
   have hy:y= .const .nilIface:=by
    grind
   subst hy;rw[hc.2,db,sW,sW];exact zk op ho λd' h'=>by grind
  all_goals cases hop
theorem qQ(F:Fit Q σ){ρ ρ'}(hρ:∀x,ρ' x=ab σ (ρ x))(hc:ρ (.const (.pointer none))= .pointer none/\ρ (.const .nilIface)= .nilIface)(hk:∀x,jh D (ρ x)){o}(ho:ng Q o=true):au Q β σ Ro D (IN ρ o) (IN ρ' o):=by
 cases hop:o.op;case nilCheck x=>exact xF F ρ ρ' hρ o x hop
 all_goals
  unfold ng at ho;rw[hop]at ho
 all_goals try(exact absurd ho BY)
 all_goals
  unfold IN;rw[hop];dsimp only
 case move x=>rw[hρ];exact ae rfl
 case assign x=>rw[hρ];exact ae rfl
 case pick c a b=>
  rw[hρ,hρ,hρ];refine am (vR _) λv=>ae ?_
  cases v<;>rfl
 case alloc t=>exact cF (GC F.zero t true)
 case box t x=>rw[hρ];exact cF (LP t _)
 case build t parts=>rw[yw hρ];exact cF (GB F.zero t _)
 case buildSlice t n parts=>rw[yw hρ];exact cF (xH F.zero t n _)
 case load t a=>rw[hρ];exact cF (EF t _)
 case store t a x=>rw[hρ,hρ];exact Jh (Cu t _ _)
 case unOp op t x=>rw[hρ];exact cF (Gu op _)
 case makeInterface t x=>rw[hρ];exact cF (tS t _)
 case indexAddr t x i=>rw[hρ,hρ];exact cF (Cz F t _ _)
 case index t x i=>rw[hρ,hρ];exact cF (Gy F t _ _)
 case typeAssert x xt t ok=>rw[hρ];exact cF (xE F _ xt t ok)
 case extract t n=>rw[hρ];exact cF (CB _ n)
 case panic x=>rw[hρ];exact cF (Cx F _)
 case send c x=>
  rw[hρ,hρ];refine ae ?_;show _=qV σ _;simp[qV,jS]
 case recv t c ok=>
  rw[hρ];refine bW t λd hd=> ?_
  cases d;case chan dir e=>
   refine am (gd F.zero e) λz=>ae ?_
   simp[qV,jS,Ren.ren]
  all_goals exact aj
 case binOp op t x y z=>exact cF (CE F hρ hc hk ho)
 case convert s d x=>
  rw[OF]at ho;rw[hρ];exact cF (CD (pg ho.1) (pg ho.2) _)
 case makeFunc fn a b=>
  cases fn;case func f=>
   rw[qv hρ,qv hρ];exact cF (Am (.func f) rfl _ _)
  all_goals cases ho
 case slice t x lo hi mx=>
  cases mx with
  |none=>
   rw[hρ,AX hρ,AX hρ];exact cF (Gw F t (Hz ho) _ _ _)
  |some m=>cases ho
 case fieldAddr s x f=>rw[hρ];exact cF (CA (F7 ho) _)
end
section
variable{σ:Nat->Nat}{Ro:Nat->Prop}{D:Known}{Q:up}{β:Nat->Option Code}
def tQ(β:Nat->Option Code)(x:Result Next×Array SE):Prop:=∃f args w1,x.1= .ok (.enter f args) w1/\(β f).isSome=true/\¬ Big x.2
def Dom(D:Known)(w:By):Prop:=∀i,D i->i<w.heap.size
def Quick(h:Halt):Prop:=h≠.blocked/\h≠.waiting/\∀g,h≠.unsupported (.initOrder g)
def C4{α:Type}(r:Result α):Prop:=∀h w1,r= .halt h w1->Quick h
def oI(Q:up)(β:Nat->Option Code)(σ:Nat->Nat)(Ro:Nat->Prop)(D:Known)(cl:Bool)(s s':Sem Next):Prop:=
 ∀w w' es es',eo σ Ro D w w'->Dom D w->¬ Big es->Sub (σ:=σ) es es'->g6 σ w w' (dh (s.runT (alt Q β) w es).1).heap.size->
  Ca σ Ro D w w' (s.runT (alt Q β) w es) (s'.runT Q w' es')\/tQ β (s.runT (alt Q β) w es)\/(cl=false/\Big (s.runT (alt Q β) w es).2/\Big (s'.runT Q w' es').2/\C4 (s'.runT Q w' es').1)
theorem gM{cl s s'}(h:au Q β σ Ro D s s'):oI Q β σ Ro D cl s s':=λw w' es es' hw hd hb hS hF=>.inl (h w w' es es' hw hb hS hF)
theorem GE{cl α}[Ren α]{s s':Sem α}{f f'}(hs:au Q β σ Ro D s s')(hf:∀a,oI Q β σ Ro D cl (f a) (f' (Ren.ren σ a))):oI Q β σ Ro D cl (s>>=f) (s'>>=f'):=by
 intro w w' es es' hw hd hb hS hF;cases hx:s.runT (alt Q β) w es with
 |mk r e1=>
  cases r with
  |halt h w1=>
   have h1:=hs w w' es es' hw hb hS (by rw[hx];rw[aM,hx]at hF;exact hF);rw[hx]at h1;refine .inl ?_;obtain⟨hb1,⟨a,v,v',h2,_⟩|⟨h,v,v',h2,h3,h4,h5,h6,h7⟩|⟨h,v,h2,h3⟩⟩:=h1
   .cases h2
   .rw[aM,hx,aM];generalize s'.runT Q w' es'=x' at h4 h5 ⊢;obtain⟨r',e'⟩:=x';dsimp only at h4;subst h4;cases h2;exact⟨hb1,.inr (.inl ⟨_,_,v',rfl,h3,rfl,h5,h6,h7⟩)⟩
   .rw[aM,hx];cases h2;exact⟨hb1,.inr (.inr ⟨_,_,rfl,h3⟩)⟩
  |ok a w1=>
   have hm:=runT_size (alt Q β) s w es;have h8:=runT_size (alt Q β) (f a) w1 e1;rw[aM,hx]at hF ⊢;rw[hx]at hm;have h1:=hs w w' es es' hw hb hS (by rw[hx];exact jW hF h8);rw[hx]at h1;obtain⟨hb1,⟨b,v,v',h2,h3,h0,h4,h5⟩|⟨h,v,v',h2,_⟩|⟨h,v,h2,_⟩⟩:=h1
   .cases h2;rw[aM];generalize s'.runT Q w' es'=x' at h3 h0 ⊢;obtain⟨r',e'⟩:=x';subst h3;rcases hf a w1 v' e1 e' h4 (λi hi=>Nat.lt_of_lt_of_le (hd i hi) hm) hb1 h0 (vb hF hm h5)with⟨k0,k⟩|k|k
    .refine .inl ⟨k0,?_⟩;grind
    .exact .inr (.inl k)
    grind
   .cases h2
   grind
theorem xG(f):au Q β σ Ro D (mark (.extern f)) (mark (.extern f)):=λw w' es es' hw hb hS hF=>⟨oE hb (by simp[SW]),.inl ⟨_,w,w',rfl,rfl,jR hS ⟨.mark (.extern f),false,true⟩,hw,rfl⟩⟩
end
structure lf(Q:up)(β:Nat->Option Code):Prop where
 num:∀(f:Nat)(fn:Func),Q.funcs[f]?=some fn->(fn.name== "runtime.NumGoroutine")=false
 lib:∀(f:Nat)(fn:Func),Q.funcs[f]?=some fn->β f=none->fn.body.isNone=true->Te fn=none/\∃e,T7 fn=some e/\∀σ Ro D,Fit Q σ->Lib Q β σ Ro D e
section
variable{σ:Nat->Nat}{Ro:Nat->Prop}{D:Known}{Q:up}{β:Nat->Option Code}
theorem ft(f):(alt Q β).funcs[f]?=Q.funcs[f]?.map (ax β f):=by
 show(Q.funcs.mapIdx (ax β))[f]?=_;rw[Array.getElem?_mapIdx]
theorem j5(f fn):(ax β f fn).name=fn.name:=by unfold ax;split <;>rfl
theorem Aq{cl f f'}(h:oI Q β σ Ro D cl (f (alt Q β)) (f' Q)):oI Q β σ Ro D cl (program>>=f) (program>>=f'):=h
theorem rN{cl}(A:lf Q β)(F:Fit Q σ)(f args):oI Q β σ Ro D cl (Sv f args) (Sv f (args.map (ab σ))):=by
 unfold Sv;refine Aq ?_;rw[ft];cases hf:Q.funcs[f]? with
 |none=>exact gM aj
 |some fn=>
  dsimp only[x5];rw[j5,A.num f fn hf];rw[if_neg BY,if_neg BY];cases hb:β f with
  |some c=>
   have e:(ax β f fn).body.isNone=false:=by unfold ax;rw[hb];rfl
   rw[e,if_neg BY];intro w w' es es' hw hd hbig hS hF;exact .inr (.inl ⟨f,args,w,rfl,by rw[hb];rfl,hbig⟩)
  |none=>
   have e:ax β f fn=fn:=by unfold ax;rw[hb]
   rw[e];cases hn:fn.body.isNone with
   |false=>
    rw[if_neg BY,if_neg BY];exact gM (ae rfl)
   |true=>
    rw[if_pos rfl,if_pos rfl];obtain⟨h1,ex,h2,h3⟩:=A.lib f fn hf hb hn;rw[h1,h2];refine GE (xG f) λ_=> ?_
    exact gM (cF (h3 σ Ro D F args))
end
def nG(Q:up)(c:Call):Bool:=match c.callee with
 | .value (.func _)=>true
 | .builtin .len=>match c.argTypes[0]? with
  |some t=>match Q.underlying t with
   |some .string=>true
   |some (.slice _)=>true
   |_=>false
  |none=>false
 | .builtin .recover=>true
 |_=>false
section
variable{σ:Nat->Nat}{Ro:Nat->Prop}{D:Known}{Q:up}{β:Nat->Option Code}
theorem GD{cl}(A:lf Q β)(F:Fit Q σ){ρ ρ'}(hρ:∀x,ρ' x=ab σ (ρ x))(hf:∀f,ρ (.func f)= .func (.func f) #[] #[]){o c}(ho:o.op= .call c)(hc:nG Q c=true):oI Q β σ Ro D cl (IN ρ o) (IN ρ' o):=by
 simp[IN,ho,resolve];unfold nG at hc;rw[qv hρ];cases hk:c.callee;case value x=>
  rw[hk]at hc;cases x;case func f=>
   have e:ρ' (.func f)= .func (.func f) #[] #[]:=by simp[hρ,hf,kO]
   simp only[hf,e];have:=rN (Ro:=Ro) (D:=D) (cl:=cl) A F f (#[]++c.args.map ρ++ #[]);rw[T1,T1,Array.map_empty]at this;exact this
  all_goals cases hc
 case builtin b=>
  rw[hk]at hc;cases b;case len=>
   cases h0:c.argTypes[0]? with
   |none=>rw[h0]at hc;cases hc
   |some t=>
    simp[h0]at hc;have ht:∀e,Q.underlying t=some e->e= .string\/∃k,e= .slice k:=λe he=>by
     rw[he]at hc;cases e<;>first |exact .inl rfl|exact .inr ⟨_,rfl⟩|cases hc
    exact gM (cF (LO ht c.argTypes h0 o.type (c.args.map ρ)))
  case recover=>exact gM (ae rfl)
  all_goals cases hc
 grind
theorem Cw{ρ ρ'}(hρ:∀x,ρ' x=ab σ (ρ x))(c t):au Q β σ Ro D (resolve ρ c t) (resolve ρ' c t):=by
 simp only[resolve,qv hρ];cases c.callee;case builtin b=>exact ae rfl
 case invoke recv name=>
  simp[hρ];refine ae ?_;show _=lu σ _;simp[lu,AG,kO]
 case value x=>
  simp only[hρ];cases ρ x;case func fn first captured=>
   rw[iZ];refine ae ?_;show _=lu σ _;simp[lu,AG]
  case nilFunc=>
   rw[fT];refine ae ?_;rfl
  all_goals exact aj
theorem CC{ρ ρ'}(hρ:∀x,ρ' x=ab σ (ρ x)){o c}(ho:o.op= .defer c):au Q β σ Ro D (IN ρ o) (IN ρ' o):=by
 simp[IN,ho];exact am (Cw hρ c o.type) λd=>ae rfl
end
section
variable{P:up}
def holds(w:By)(a:Addr)(n:Nat):Bool:=match w.shape? a.block with
 |some (_,k)=>a.spot.isNone&&decide (a.off+n<=k)
 |none=>false
theorem yL(a n w es):(Tm a n).runT P w es=(.ok (holds w a n) w,es):=by
 unfold Tm holds;rw[aM];have e:(shape a.block).runT P w es=(.ok (w.shape? a.block) w,es):=rfl;rw[e];cases w.shape? a.block<;>rfl
theorem Fq(a w es):(frozen a).runT P w es=(.ok (w.frozen? a) w,es):=rfl
def shares(w:By)(size sLen n:Nat)(base:Option Addr)(x:No):Bool:=
 let there:=match base with
  |none=>true
  |some a=>holds w a (sLen*size)&& !(w.frozen? (a.add (sLen/2*size)))
 if there then match x with
  | .slice (some b) _ _=> !(holds w b (n*size))||base.any (·.block==b.block)
  |_=>false
 else true
theorem Bc(size sLen n base x w es):(TZ size sLen n base x).runT P w es=(.ok (shares w size sLen n base x) w,es):=by
 have h2:∀there:Bool,(if(!there)=true then(pure true:Sem Bool)else match x with
  | .slice (some b) _ _=>do pure (!(<- Tm b (n*size))||base.any (·.block==b.block))
  |_=>pure false).runT P w es=(.ok (if there then(match x with
  | .slice (some b) _ _=> ! holds w b (n*size)||base.any (·.block==b.block)
  |_=>false)else true) w,es):=λthere=>by
  cases there with
  |false=>rfl
  |true=>
   simp only[Bool.not_true,If,if_false,if_true];cases x;case slice a l c=>
    cases a with
    |none=>rfl
    |some b=>
     dsimp only;rw[aM,yL];rfl
   all_goals rfl
 unfold TZ shares;cases base with
 |none=>exact h2 true
 |some a=>
  dsimp only;rw[aM,yL];grind [aM,Fq]
end
section
variable{σ:Nat->Nat}{Ro:Nat->Prop}{D:Known}{Q:up}{β:Nat->Option Code}
theorem Gx(v):au Q β σ Ro D (Ui v) (Ui (ab σ v)):=by
 cases v;case slice a n c=>rw[dG];exact ae rfl
 case string s=>rw[ct];exact ae rfl
 all_goals exact aj
theorem lm(size n v):au Q β σ Ro D (SP size n v) (SP size n (ab σ v)):=by
 cases v;case slice a l c=>
  rw[dG];cases a with
  |none=>exact ae (by simp[Ren.ren])
  |some a=>exact rM a (n*size)
 case string s=>
  rw[ct];refine ae ?_;rw[M5,To];congr 1
  funext b
  simp
 all_goals exact aj
theorem zb(z n):SR (z.map (ab σ)) n=(SR z n).map (ab σ):=by
 simp only[SR,To,Tj];congr 1
 funext i
 exact uu z _
theorem EE:au Q β σ Ro D (mark .noRoom) (mark .noRoom):=λw w' es es' hw hb hS hF=>⟨hb,.inl ⟨(),w,w',rfl,rfl,jR hS ⟨.mark .noRoom,false,true⟩,hw,rfl⟩⟩
theorem CF(n):au Q β σ Ro D (askRoom n) (askRoom n):=bp Su (λ_=>EE) λ_=>ae rfl
theorem EJ{α}[Ren α]{s s':Sem α}(h:∀w es,∃x w1,(s.runT (alt Q β) w es).1= .halt x w1/\Dead x):au Q β σ Ro D s s':=λw w' es es' hw hb hS hF=>⟨hb,.inr (.inr (h w es))⟩
def qC(D:Known)(v:No):Prop:=∀a l c,v= .slice (some a) l c->D a.block
theorem Gz(hz:l4 Q σ)(elem size sLen n need newCap s x):au Q β σ Ro D (do
 let old <- SP size sLen s
 let new <- SP size n x
 let z <- zeroValue elem
 let r <- newRow elem (old++new++SR z.cells (newCap-need))
 pure (.slice (some r) need newCap):Sem No)
 (do
  let old <- SP size sLen (ab σ s)
  let new <- SP size n (ab σ x)
  let z <- zeroValue elem
  let r <- newRow elem (old++new++SR z.cells (newCap-need))
  pure (.slice (some r) need newCap):Sem No):=by
 refine am (lm size sLen s) λold=> ?_
 refine am (lm size n x) λnew=> ?_
 refine am (gd hz elem) λz=> ?_
 have hr:=by
  have:=qO (P:=alt Q β) (P':=Q) (σ:=σ) (Ro:=Ro) (D:=D) elem (old++new++SR z.cells (newCap-need));rw[T1,T1,<- zb,<- ig]at this;omega
 exact am hr λr=>ae (by simp[Ren.ren])
theorem EM(F:Fit Q σ){ats}(h1:∀xt,ats[1]?=some xt->∀k,Q.underlying xt≠some (.int k))(ty args):
 au Q β σ Ro D (Tg ats ty args) (Tg ats ty (args.map (ab σ))):=by
 unfold Tg;rw[SL,SL];cases ha:ats[0]? with
 |none=>exact aj
 |some sType=>
 cases hs:args[0]? with
 |none=>exact aj
 |some s=>
 cases hx:args[1]? with
 |none=>exact aj
 |some x=>
 dsimp -zeta only [x5];refine am (qo sType) λd=> ?_
 rw[Jv];cases d;case slice elem=>
  dsimp -zeta only;cases s;case slice base sLen sCap=>
   rw[dG];dsimp -zeta only;refine am (fF elem) λsize=> ?_
   rw[tF];extract_lets j0 j1 j2;have hj:au Q β σ Ro D (j1 false) (j2 false):=by
    simp only[j0,j1,j2,If,if_false,Bool.not_false,if_true,false_or];refine am (Gx x) λn=> ?_
    rw[tF];refine bp Su (λ_=> ?_) λ_=> ?_
    .refine am (lm size n x) λnew=> ?_
     cases base with
     |none=>exact ae (by simp[Ren.ren])
     |some a=>
      dsimp only[x5];refine am ?_ λ_=>ae (by simp[Ren.ren])
      have:=jj (Q:=Q) (β:=β) (σ:=σ) (Ro:=Ro) (D:=D) (a.add (sLen*size)) new.toList 0;rw[qW,<- T0]at this;exact this
    .refine am (kH elem) λi=> ?_
     rw[uP];refine bp Su (λ_=> ?_) λ_=> ?_
     .exact cq (α:=No) F (.error "growslice: len out of range")
     refine am (kH elem) λi=> ?_
     rw[uP];refine bp Su (λ_=> ?_) λ_=> ?_
     .refine EJ λw es=> ?_
      rw[aM,aM,Bc];dsimp only;cases shares w size sLen n base x<;>exact⟨_,_,rfl,trivial⟩
     refine am (qR _) λnewCap=> ?_
     rw[tF];refine am (kH elem) λi=> ?_
     rw[uP];have hg:=Gz (Q:=Q) (β:=β) (Ro:=Ro) (D:=D) F.zero elem size sLen n (sLen+n) newCap (.slice base sLen sCap) x;rw[dG]at hg;exact am (CF _) λ_=>hg
   clear_value j1 j2;cases h0:ats[1]? with
   |none=>exact hj
   |some xt=>
    dsimp only;refine bW xt λd hd=> ?_
    cases d;case int k=>exact absurd hd (h1 xt h0 k)
    all_goals exact hj
  all_goals exact aj
 all_goals exact aj
theorem CI{cl s s'}(h:au Q β σ Ro D s s'):oI Q β σ Ro D cl (do pure (.value (<- s))) (do pure (.value (<- s'))):=gM (am h λv=>ae rfl)
end
def lp(Q:up)(cl:Bool)(c:Call):Bool:=nG Q c||match c.callee with
 | .builtin .append=>match c.argTypes[1]? with
  |some t=> !cl&& !ml Q t
  |none=> !cl
 | .builtin .min=>true
 |_=>false
abbrev bM:=List (Nat×Nat)
def Om(dt:bM)(cl:Bool):Target->Prop
 | .fn (.func f) _=>dt.all (·.1 !=f)=true
 | .builtin .close _ _ _=>cl=true
 |_=>False
def iu(Q:up)(dt:bM)(cl:Bool)(f:Nat)(o:Oper):Bool:=
 (
  match o.op with
  | .call c=>lp Q cl c&& (match c.callee with | .value (.func g)=>dt.all (·.1 !=g)|_=>true)
  | .defer c=>match c.callee with
   | .value (.tmp t)=>dt.contains (f,t)
   | .builtin .close=>cl
   |_=>false
  | .send _ _=>cl
  | .recv _ _ _=> !cl
  |_=>ng Q o)&&
 (
  match o.dst with
  |some t=> !dt.contains (f,t)||(match o.op with | .makeFunc (.func h) _ _=>dt.all (·.1 !=h)|_=>false)
  |none=>true)
def NK(dt:bM)(cl:Bool):Next->Prop
 | .value _=>True
 | .skip=>True
 | .recover=>True
 | .enter f _=>dt.all (·.1 !=f)=true
 | .defer d=>Om dt cl d.target
 | .comm cs bl sh=>bl=true/\∃c,cs=#[c]/\((cl=true/\sh= .send/\c.send.isSome=true)\/(cl=false/\∃ok,sh= .recv ok/\c.send=none))
 |_=>False
def YP{α:Type}(P:up)(T:α->Prop)(s:Sem α):Prop:=∀w es a w1 es1,s.runT P w es=(.ok a w1,es1)->T a
section
variable{P:up}
theorem bY{α T a}(h:T a):YP P T (pure a:Sem α):=λw es b w1 es1 e=>by
 have e:((.ok a w,es):Result α×Array SE)=(.ok b w1,es1):=e;grind
theorem fi{α T h}:YP P T (Ts h:Sem α):=λw es b w1 es1 e=>by
 cases e
theorem cN{α γ}{T:γ->Prop}{s:Sem α}{f}(h:∀a,YP P T (f a)):YP P T (s>>=f):=λw es b w1 es1 e=>by
 rw[aM]at e;generalize s.runT P w es=x at e;obtain⟨r,e1⟩:=x;cases r with
 |ok a w2=>exact h a _ _ _ _ _ e
 |halt k w2=>cases e
theorem vv{α}{T:α->Prop}{f}(h:YP P T (f P)):YP P T (program>>=f):=h
theorem nK{dt cl s}:YP P (NK dt cl) (do pure (.value (<- s)):Sem Next):=cN λv=>bY trivial
theorem Ly{dt cl s}:YP P (NK dt cl) (do s;pure .skip:Sem Next):=cN λv=>bY trivial
end
section
variable{σ:Nat->Nat}{Ro:Nat->Prop}{D:Known}{Q:up}{β:Nat->Option Code}
theorem Ji(x y):au Q β σ Ro D (Tf x y) (Tf (ab σ x) (ab σ y)):=by
 cases x;case int k a=>
  cases y;case int k' b=>rw[cr,cr];exact ae (by simp[Ren.ren])
  case pointer p=>cases p with
   |none=>exact aj
   |some p=>exact dm trivial
  all_goals exact aj
 case float k a=>
  cases y;case float k' b=>
   rw[eC,eC];refine mg ?_;simp[Tf];split
   .exact aQ (T:=λ_=>True) (jH λn=>trivial) λn _=>cj (eS _ _)
   all_goals exact cj (eS _ _)
  case pointer p=>cases p with
   |none=>exact aj
   |some p=>exact dm trivial
  all_goals exact aj
 case string a=>
  cases y;case string b=>
   rw[ct,ct];refine am (sC .leq a b) λv=> ?_
   refine am (vR v) λc=>ae ?_
   simp[Ren.ren]
  case pointer p=>cases p with
   |none=>exact aj
   |some p=>exact dm trivial
  all_goals exact aj
 case pointer q=>
  cases q with
  |some q=>cases y<;>exact dm trivial
  |none=>
   cases y;case pointer p=>cases p with
    |none=>exact aj
    |some p=>exact dm trivial
   all_goals exact aj
 all_goals
  cases y;case pointer p=>cases p with
   |none=>exact aj
   |some p=>exact dm trivial
  all_goals exact aj
theorem uh:∀(l:List No) x,au Q β σ Ro D (l.foldlM Tf x) ((l.map (ab σ)).foldlM Tf (ab σ x))
 |[],x=>ae rfl
 |y::l,x=>am (Ji x y) λv=>uh l v
theorem LN(ats t args):au Q β σ Ro D (Tx ats t args) (Tx ats t (args.map (ab σ))):=by
 unfold Tx;rw[T0];cases args.toList with
 |nil=>exact aj
 |cons x l=>exact uh l x
theorem EN{cl}(A:lf Q β)(F:Fit Q σ){ρ ρ'}(hρ:∀x,ρ' x=ab σ (ρ x))(hf:∀f,ρ (.func f)= .func (.func f) #[] #[])(hS:∀x,qC D (ρ x)){o c}(ho:o.op= .call c)(hc:lp Q cl c=true):oI Q β σ Ro D cl (IN ρ o) (IN ρ' o):=by
 simp[lp,Bool.or_eq_true]at hc;rcases hc with hc|hc
 .exact GD A F hρ hf ho hc
 .simp only[IN,ho,resolve,qv hρ];cases hk:c.callee;case builtin b=>
   rw[hk]at hc;cases b;case append=>
    refine CI (EM F ?_ o.type (c.args.map ρ));intro xt hxt k hu;simp_all[ml]
   case min=>exact gM (cF (LN c.argTypes o.type (c.args.map ρ)))
   all_goals cases hc
  all_goals(rw[hk]at hc;cases hc)
theorem LQ(A:lf Q β)(F:Fit Q σ){dt cl f ρ ρ'}(hρ:∀x,ρ' x=ab σ (ρ x))(hc:ρ (.const (.pointer none))= .pointer none/\ρ (.const .nilIface)= .nilIface)(hf:∀f,ρ (.func f)= .func (.func f) #[] #[])(hk:∀x,jh D (ρ x))(hS:∀x,qC D (ρ x)){o}
 (ho:iu Q dt cl f o=true):oI Q β σ Ro D cl (IN ρ o) (IN ρ' o):=by
 simp[iu]at ho;have ho:=ho.1;cases hop:o.op;case call c=>
  simp[hop]at ho;exact EN A F hρ hf hS hop ho.1
 case defer c=>exact gM (CC hρ hop)
 case send ch x=>exact gM (qQ F hρ hc hk (by simp[ng,hop]))
 case recv t ch ok=>exact gM (qQ F hρ hc hk (by simp[ng,hop]))
 all_goals
  rw[hop]at ho;exact gM (qQ F hρ hc hk ho)
theorem Cb(A:lf Q β){dt:bM}{cl f}(hd:dt.all (·.1 !=f)=true)(args):YP (alt Q β) (NK dt cl) (Sv f args):=by
 refine vv ?_;rw[ft];cases hf:Q.funcs[f]? with
 |none=>exact fi
 |some fn=>
  simp only[x5,j5,A.num f fn hf,if_neg BY];cases hb:β f with
  |some c=>
   have e:(ax β f fn).body.isNone=false:=by simp[ax,hb]
   rw[e,if_neg BY];exact bY hd
  |none=>
   have e:ax β f fn=fn:=by simp[ax,hb]
   rw[e];cases hn:fn.body.isNone with
   |false=>
    exact bY hd
   |true=>
    obtain⟨h1,ex,h2,h3⟩:=A.lib f fn hf hb hn;rw[h1,h2];exact cN λ_=>nK
theorem Mf(A:lf Q β){dt:bM}{cl f}{ρ:Tc->No}(hf:∀f,ρ (.func f)= .func (.func f) #[] #[])(hd:∀t,(f,t)∈dt->∀fn a b,ρ (.tmp t)= .func fn a b->∃h,fn= .func h/\dt.all (·.1 !=h)=true)(hn:∀t,(f,t)∈dt->ρ (.tmp t)≠.nilFunc){o}
 (ho:iu Q dt cl f o=true):YP (alt Q β) (NK dt cl) (IN ρ o):=by
 unfold iu at ho;rw[OF]at ho;have ho:=ho.1;cases hop:o.op;case call c=>
  rw[hop]at ho;dsimp only at ho;rw[OF]at ho;obtain⟨h1,h2⟩:=ho;unfold IN;rw[hop];dsimp only;unfold resolve;unfold lp nG at h1;cases hk:c.callee;case value x=>
   rw[hk]at h1 h2;cases x;case func g=>
    dsimp only at h2 ⊢;rw[hf];exact Cb A h2 _
   all_goals cases h1
  case builtin b=>
   rw[hk]at h1;cases b;case len=>exact nK
   case recover=>exact bY trivial
   case append=>exact nK
   case min=>exact nK
   all_goals cases h1
  grind
 case defer c=>
  rw[hop]at ho;dsimp only at ho;unfold IN;rw[hop];dsimp only;unfold resolve;cases hk:c.callee;case value x=>
   rw[hk]at ho;cases x;case tmp t=>
    dsimp only at ho ⊢;have hm:(f,t)∈dt:=by grind
    unfold TY;cases hv:ρ (.tmp t);case func fn a b=>
     obtain⟨h,rfl,hh⟩:=hd t hm fn a b hv;exact bY hh
    case nilFunc=>exact absurd hv (hn t hm)
    all_goals exact fi
   all_goals cases ho
  case builtin b=>
   rw[hk]at ho;cases b;case close=>exact bY ho
   all_goals cases ho
  grind
 case send ch x=>
  rw[hop]at ho;unfold IN;rw[hop];exact bY ⟨rfl,_,rfl,.inl ⟨ho,rfl,rfl⟩⟩
 case recv t ch ok=>
  rw[hop]at ho;unfold IN;rw[hop];refine cN λd=> ?_
  cases d;case chan dir e=>exact cN λz=>bY ⟨rfl,_,rfl,.inr ⟨by simpa using ho,_,rfl,rfl⟩⟩
  all_goals exact fi
 all_goals
  rw[hop]at ho;dsimp only at ho;unfold ng at ho;rw[hop]at ho;try dsimp only at ho
 all_goals try(exact absurd ho BY)
 all_goals
  unfold IN;rw[hop];dsimp only
 case nilCheck x=>
  cases ρ x;case pointer a=>cases a with
   |none=>exact cN (s:=program) λp=>fi
   |some a=>exact bY trivial
  case nilIface=>exact cN (s:=program) λp=>fi
  case nilFunc=>exact cN (s:=program) λp=>fi
  case func fn first captured=>
   cases fn;case method name=>
    dsimp only;split
    .exact cN (s:=program) λp=>fi
    .exact cN λp=>cN λb=>by
      split
      .exact fi
      .exact bY trivial
    .exact bY trivial
   all_goals exact bY trivial
  all_goals exact bY trivial
 all_goals first
  |exact nK
  |exact Ly
  |exact bY trivial
  |exact cN λ_=>bY trivial
end
end
theorem yr{α}(P)(s:Sem α){x}:∀w es,x∈es->x∈(s.runT P w es).2:=by
 induction s with
 |pure a=>exactλw es h=>h
 |halt y=>exactλw es h=>h
 |load m a k ih=>
  grind [AT]
 |store m a v k ih=>
  intro w es h;cases v;all_goals simp[AT]
  case agg=>exact h
  case tuple=>exact h
  all_goals
   split
   .split
    .exact h
    .exact ih _ _ (SG.2 (.inl h))
   .split
    .exact ih _ _ (Tb.2 (.inl h))
    .exact h
 |new o k ih=>exactλw es h=>ih _ _ _ h
 |shape r k ih=>exactλw es h=>ih _ _ _ h
 |freeze a n k ih=>exactλw es h=>ih _ _ h
 |frozen a k ih=>exactλw es h=>ih _ _ _ h
 |getObj r k ih=>
  grind [AT]
 |setObj r o k ih=>
  grind [AT]
 |choose q k ih=>
  grind [AT]
 |sys c k ih=>exactλw es h=>ih _ _ _ (SG.2 (.inl h))
 |program k ih=>exactλw es h=>ih _ _ _ h
 |mark m k ih=>exactλw es h=>ih _ _ (SG.2 (.inl h))
theorem sU{P}{w w1:By}{a v b l}(h:w.farStore P a v b= .ok (w1,l)):∀r,w1.heap[r]?≠w.heap[r]?->∃x∈l,x.block=r:=by
 intro r hr;unfold SV at h;split at h
 .rename_i at_ u hv;split at h
  .rename_i y hy;simp only[Except.ok.injEq]at h;subst h;unfold Td at hy;cases hs:w.seen P at_ u a b with
   |error e=>
    rw[hs]at hy;simp only[bind,SM,pure,T4,throw,throwThe,SJ]at hy;split at hy<;>cases hy
   |ok z=>
    obtain⟨c,e,fz,first,like,cells⟩:=z;rw[hs]at hy;have h0:w.heap[at_.block]?=some (.cells c e fz):=by
     unfold U0 at hs;simp only[bind,SM,pure,T4,throw,throwThe,SJ]at hs;repeat' split at hs
     all_goals first
      |(cases hs;done)
      |(
       simp only[Except.ok.injEq,Prod.mk.injEq]at hs;obtain⟨rfl,rfl,rfl,_⟩:=hs;assumption)
    simp only[bind,SM,pure,T4,throw,throwThe,SJ]at hy;split at hy
    .cases hy
    split at hy
    .split at hy
     .cases hy
     .split at hy
      .cases hy
      .rename_i c2 hf;simp only[Except.ok.injEq,Prod.mk.injEq]at hy;obtain⟨rfl,rfl⟩:=hy;dsimp only at hr;rw[Array.getElem?_setIfInBounds]at hr;split at hr
       .rename_i hb;subst hb;cases cells with
        |nil=>
         have e:c2=c:=by
          have e2:(Except.ok c:Except String (Array No))= .ok c2:=hf;simpa using e2.symm
         subst e;exfalso;apply hr;rw[h0];have:=(Sy.1 h0).1;simp[this]
        |cons x xs=>exact⟨_,TQ.2 ⟨x,.head _,rfl⟩,rfl⟩
       .exact absurd rfl hr
    .cases hy
  .cases h
 .cases h
def qz(es:Array SE)(b:Nat):Prop:=∃e∈es,e.write=true/\∃a,e.loc= .cell a/\a.block=b
theorem qz.mono{es es' b}(h:qz es b)(hs:∀e∈es,e∈es'):qz es' b:=let⟨e,he,h⟩:=h;⟨e,hs e he,h⟩
theorem vW{α}(P)(s:Sem α):bE P s->∀w es b,b<w.heap.size->(dh (s.runT P w es).1).heap[b]?≠w.heap[b]?->qz (s.runT P w es).2 b:=by
 induction s with
 |pure a=>exactλ_ w es b hb h=>absurd rfl h
 |halt y=>exactλ_ w es b hb h=>absurd rfl h
 |load m a k ih=>
  intro hn w es b hb h;simp only[AT]at h ⊢;split at h
  .exact ih _ (hn _) _ _ b hb h
  .split at h
   .exact ih _ (hn _) _ _ b hb h
   .exact absurd rfl h
 |store m a v k ih=>
  intro hn w es b hb h;have key:∀v:No,(∀cs,v≠.agg cs)->(∀cs,v≠.tuple cs)->(dh ((SO m a v k).runT P w es).1).heap[b]?≠w.heap[b]?->qz ((SO m a v k).runT P w es).2 b:=λv h1 h2 h=>by
   have e:(SO m a v k).runT P w es=(match w.cell? a with
    |some _=>if w.frozen? a then(.halt (.unsupported (.unsafePointer "a write to bytes that a string shares")) w,es)else k.runT P (w.setCell a v) (es.push ⟨.cell a,true,m== .atomic⟩)
    |none=>match w.farStore P a v (m== .atomic)with
     | .ok (w,touched)=>k.runT P w (es++touched.toArray.map (⟨.cell ·,true,m== .atomic⟩))
     | .error h=>(.halt h w,es)):=by
    cases v<;>first |rfl|exact absurd rfl (h1 _)|exact absurd rfl (h2 _)
   rw[e]at h ⊢;split at h
   .split at h
    .exact absurd rfl h
    .rename_i hz;rw[if_neg hz];by_cases h0:a.block=b
     .exact⟨⟨.cell a,true,m== .atomic⟩,yr P k _ _ (SG.2 (.inr rfl)),rfl,a,rfl,h0⟩
     .refine ih hn _ _ b (by simpa[SF]using hb) ?_;have e2:(w.setCell a v).heap[b]?=w.heap[b]?:=by
       simp[SF,Sz,h0]
      rw[e2];omega
   .split at h
    .rename_i w1 l hf;by_cases hc:w1.heap[b]?=w.heap[b]?
     .refine ih hn _ _ b (by rw[mC hf];omega) ?_;rw[hc];omega
     .obtain⟨x,hx,hxb⟩:=sU hf b hc;exact⟨⟨.cell x,true,m== .atomic⟩,yr P k _ _ (Tb.2 (.inr (TL.2 ⟨x,by simpa using hx,rfl⟩))),rfl,x,rfl,hxb⟩
    .exact absurd rfl h
  cases v;case agg cs=>exact absurd rfl h
  case tuple cs=>exact absurd rfl h
  all_goals exact key _ (λ_ h=>by cases h) (λ_ h=>by cases h) h
 |new o k ih=>
  intro hn w es b hb h;refine ih _ (hn.2 _) _ es b (by grind) ?_;have e:(w.heap.push o)[b]?=w.heap[b]?:=by
   rw[Sx,if_neg (by omega)]
  show(dh ((k w.heap.size).runT P {w with heap:=w.heap.push o} es).1).heap[b]?≠(w.heap.push o)[b]?;rw[e];exact h
 |shape r k ih=>exactλhn w es b hb h=>ih _ (hn _) _ _ b hb h
 |freeze a n k ih=>exactλhn=>hn.elim
 |frozen a k ih=>exactλhn w es b hb h=>ih _ (hn _) _ _ b hb h
 |getObj r k ih=>
  intro hn w es b hb h;simp only[AT]at h ⊢;split at h
  .exact absurd rfl h
  .exact ih _ (hn _) _ _ b hb h
  .exact absurd rfl h
 |setObj r o k ih=>exactλhn=>hn.elim
 |choose q k ih=>
  intro hn w es b hb h;simp only[AT]at h ⊢;by_cases hq:q.forced=true
  .rw[if_pos hq]at h ⊢;exact ih _ (hn _) _ _ b hb h
  .rw[if_neg hq]at h ⊢;exact ih _ (hn _) {w with drawn:=w.drawn+1} _ b hb h
 |sys c k ih=>
  intro hn w es b hb h;have e:(w.sys c).2.heap=w.heap:=by
   unfold TP;obtain⟨k0,_,_,h3,_⟩:=nJ (Th c w.os) w<;>grind
  refine ih _ (hn _) (w.sys c).2 _ b (by rw[e];omega) ?_;rw[e];exact h
 |program k ih=>exactλhn w es b hb h=>ih _ hn _ _ b hb h
 |mark m k ih=>exactλhn w es b hb h=>ih hn.2 _ _ b hb h
def aJ(w:By)(b:Nat):Prop:=∃c t f,w.heap[b]?=some (.cells c t f)
def mR(w:By)(b:Nat):Prop:=∃c t,w.heap[b]?=some (.cells c t (0,c.size))
theorem rv{w a v}(h:w.cell? a=some v):aJ w a.block/\∃c t f,w.heap[a.block]?=some (.cells c t f)/\a.off<c.size:=by
 unfold World.cell? at h;cases ho:w.heap[a.block]? with
 |none=>rw[ho]at h;cases h
 |some o=>
  rw[ho]at h;cases o;case cells c e fz=>
   dsimp only at h;split at h
   .cases h
   .exact⟨⟨c,e,fz,ho⟩,c,e,fz,rfl,(Sy.1 h).1⟩
  all_goals cases h
theorem po{P w w1 a v b l}(h:w.farStore P a v b= .ok (w1,l)):(∀r,aJ w r->aJ w1 r)/\(∀r,mR w r->w1.heap[r]?=w.heap[r]?)/\∀x∈l,aJ w1 x.block/\¬ mR w x.block/\aJ w x.block:=by
 unfold SV at h;split at h
 .rename_i at_ u hv;split at h
  .rename_i y hy;simp only[Except.ok.injEq]at h;subst h;unfold Td at hy;cases hs:w.seen P at_ u a b with
   |error e=>
    rw[hs]at hy;simp only[bind,SM,pure,T4,throw,throwThe,SJ]at hy;split at hy<;>cases hy
   |ok z=>
    obtain⟨c,e,fz,first,like,cells⟩:=z;rw[hs]at hy;have h1:w.heap[at_.block]?=some (.cells c e fz):=by
     unfold U0 at hs;simp only[bind,SM,pure,T4,throw,throwThe,SJ]at hs;repeat' split at hs
     all_goals first
      |(cases hs;done)
      |(
       simp only[Except.ok.injEq,Prod.mk.injEq]at hs;obtain⟨rfl,rfl,rfl,_⟩:=hs;assumption)
    have hlt:=(Sy.1 h1).1;simp only[bind,SM,pure,T4,throw,throwThe,SJ]at hy;split at hy
    .cases hy
    split at hy
    .split at hy
     .cases hy
     .split at hy
      .cases hy
      .rename_i c2 hf;simp only[Except.ok.injEq,Prod.mk.injEq]at hy;obtain⟨rfl,rfl⟩:=hy;have h2:mR w at_.block->cells=[]:=by
        rintro⟨c3,t3,h3⟩;rw[h1]at h3;simp only[Option.some.injEq,Obj.cells.injEq]at h3;obtain⟨rfl,rfl,rfl⟩:=h3;cases cells with
        |nil=>rfl
        |cons x xs=>
         exfalso;obtain⟨i,s,bs⟩:=x;rw[List.foldlM_cons]at hf;simp only[bind,SM,pure,T4,throw,throwThe,SJ]at hf;split at hf
         .cases hf
         .rename_i h0;split at h0
          .cases h0
          .split at h0
           .cases h0
           .split at h0
            .grind
            .cases h0
       refine⟨λr hr=> ?_,λr hr=> ?_,λx hx=> ?_⟩
       .by_cases hb:at_.block=r
        .subst hb;exact⟨c2,e,fz,by simp[hlt]⟩
        .obtain⟨c4,t4,f4,h4⟩:=hr;exact⟨c4,t4,f4,by grind⟩
       .by_cases hb:at_.block=r
        .subst hb;have:=h2 hr;subst this;have e:c2=c:=by
          have e2:(Except.ok c:Except String (Array No))= .ok c2:=hf;grind
         grind
        grind
       .obtain⟨y,hy,rfl⟩:=TQ.1 hx;refine⟨⟨c2,e,fz,by simp[hlt]⟩,λhz=> ?_,⟨c,e,fz,h1⟩⟩;rw[h2 hz]at hy;cases hy
    .cases hy
  .cases h
 .cases h
theorem Ib{P w a v b l}(h:w.farLoad P a b= .ok (v,l)):∀x∈l,aJ w x.block:=by
 unfold TG at h;split at h
 .rename_i at_ u hv;split at h
  .rename_i y hy;simp[Except.ok.injEq]at h;subst h;unfold World.viewLoad at hy;cases hs:w.seen P at_ u a b with
   |error e=>
    rw[hs]at hy;cases hy
   |ok z=>
    obtain⟨c,e,fz,first,like,cells⟩:=z;rw[hs]at hy;have h0:w.heap[at_.block]?=some (.cells c e fz):=by
     simp[U0,bind,SM]at hs;repeat' split at hs
     all_goals first
      |(cases hs;done)
      |(
       obtain⟨rfl,rfl,rfl,_⟩:=hs;assumption)
    simp[bind,SM]at hy;split at hy
    .obtain⟨_,rfl⟩:=hy;intro x hx;obtain⟨y,_,rfl⟩:=TQ.1 hx;exact⟨c,e,fz,h0⟩
    .cases hy
  .cases h
 .cases h
def kz(w w1:By)(e:SE):Prop:=match e.loc with
 | .cell a=>aJ w1 a.block/\(e.write=true->¬ mR w a.block)
 | .obj _=>e.write=false
 | .mark m=>Meek m/\e.write=false/\e.sync=true
 |_=>True
theorem kz.back{w w0 w1 e}(h:kz w w1 e)(hf:∀b,mR w0 b->mR w b):kz w0 w1 e:=by
 obtain⟨loc,wr,sy⟩:=e;cases loc;case cell a=>exact⟨h.1,λhw hz=>h.2 hw (hf _ hz)⟩
 all_goals exact h
theorem Kd{w a v b}(h:mR w b):mR (w.setCell a v) b:=by
 obtain⟨c,t,hc⟩:=h;unfold SF;by_cases h0:a.block=b
 .refine⟨if a.spot.isSome then c else c.setIfInBounds a.off v,t,?_⟩;grind
 .exact⟨c,t,by simp[Sz,h0,hc]⟩
theorem yT{w a v b}(h:aJ w b):aJ (w.setCell a v) b:=by
 obtain⟨c,t,f,hc⟩:=h;unfold SF;by_cases h0:a.block=b
 .subst h0;exact⟨if a.spot.isSome then c else c.setIfInBounds a.off v,t,f,by simp[Sz,hc]⟩
 .exact⟨c,t,f,by simp[Sz,h0,hc]⟩
theorem uG(w:By)(c):(w.sys c).2.heap=w.heap:=by
 unfold TP;obtain⟨k0,_,_,h3,_⟩:=nJ (Th c w.os) w<;>grind
theorem ni{α}(P)(s:Sem α):bE P s->∀w es b,aJ w b->aJ (dh (s.runT P w es).1) b:=by
 induction s with
 |pure a=>exactλ_ w es b h=>h
 |halt y=>exactλ_ w es b h=>h
 |load m a k ih=>
  intro hn w es b h;simp only[AT];split
  .exact ih _ (hn _) _ _ b h
  .split
   .exact ih _ (hn _) _ _ b h
   .exact h
 |store m a v k ih=>
  intro hn w es b h;have key:∀v:No,(∀cs,v≠.agg cs)->(∀cs,v≠.tuple cs)->aJ (dh ((SO m a v k).runT P w es).1) b:=λv h1 h2=>by
   have e:(SO m a v k).runT P w es=(match w.cell? a with
    |some _=>if w.frozen? a then(.halt (.unsupported (.unsafePointer "a write to bytes that a string shares")) w,es)else k.runT P (w.setCell a v) (es.push ⟨.cell a,true,m== .atomic⟩)
    |none=>match w.farStore P a v (m== .atomic)with
     | .ok (w,touched)=>k.runT P w (es++touched.toArray.map (⟨.cell ·,true,m== .atomic⟩))
     | .error h=>(.halt h w,es)):=by
    cases v<;>first |rfl|exact absurd rfl (h1 _)|exact absurd rfl (h2 _)
   rw[e];split
   .split
    .exact h
    .exact ih hn _ _ b (yT h)
   .split
    .rename_i hf;exact ih hn _ _ b ((po hf).1 b h)
    .exact h
  cases v;case agg cs=>exact h
  case tuple cs=>exact h
  all_goals exact key _ (λ_ h=>by cases h) λ_ h=>by cases h
 |new o k ih=>
  intro hn w es b h;refine ih _ (hn.2 _) _ es b ?_;obtain⟨c,t,f,hc⟩:=h;exact⟨c,t,f,by grind⟩
 |shape r k ih=>exactλhn w es b h=>ih _ (hn _) _ _ b h
 |freeze a n k ih=>exactλhn=>hn.elim
 |frozen a k ih=>exactλhn w es b h=>ih _ (hn _) _ _ b h
 |getObj r k ih=>
  intro hn w es b h;simp only[AT];split
  .exact h
  .exact ih _ (hn _) _ _ b h
  .exact h
 |setObj r o k ih=>exactλhn=>hn.elim
 |choose q k ih=>
  intro hn w es b h;simp only[AT];split
  .exact ih _ (hn _) _ _ b h
  .exact ih _ (hn _) {w with drawn:=w.drawn+1} _ b h
 |sys c k ih=>
  intro hn w es b h;refine ih _ (hn _) (w.sys c).2 _ b ?_;simp_all[uG,aJ]
 |program k ih=>exactλhn w es b h=>ih _ hn _ _ b h
 |mark m k ih=>exactλhn w es b h=>ih hn.2 _ _ b h
theorem vU{α}(P)(s:Sem α):bE P s->∀w es e,e∈(s.runT P w es).2->e∈es\/kz w (dh (s.runT P w es).1) e:=by
 induction s with
 |pure a=>exactλ_ w es e h=>.inl h
 |halt y=>exactλ_ w es e h=>.inl h
 |load m a k ih=>
  intro hn w es e h;simp only[AT]at h ⊢;cases hc:w.cell? a with
  |some v=>
   rw[hc]at h;dsimp only at h ⊢;rcases ih _ (hn _) _ _ e h with h1|h1
   .rcases SG.1 h1 with h1|rfl
    .exact .inl h1
    .exact .inr ⟨ni P _ (hn _) _ _ _ (rv hc).1,λhw=>by cases hw⟩
   grind
  |none=>
   rw[hc]at h;dsimp only at h ⊢;cases hl:w.farLoad P a (m== .atomic)with
   |ok r=>
    obtain⟨v,l⟩:=r;rw[hl]at h;dsimp only at h ⊢;rcases ih _ (hn _) _ _ e h with h1|h1
    .rcases Tb.1 h1 with h1|h1
     .exact .inl h1
     .obtain⟨x,hx,rfl⟩:=TL.1 h1;exact .inr ⟨ni P _ (hn _) _ _ _ (Ib hl x (by simpa using hx)),λhw=>by cases hw⟩
    grind
   |error e2=>rw[hl]at h;grind
 |store m a v k ih=>
  intro hn w es e h;have key:∀v:No,(∀cs,v≠.agg cs)->(∀cs,v≠.tuple cs)->e∈((SO m a v k).runT P w es).2->e∈es\/kz w (dh ((SO m a v k).runT P w es).1) e:=λv h1 h2 h=>by
   have e0:(SO m a v k).runT P w es=(match w.cell? a with
    |some _=>if w.frozen? a then(.halt (.unsupported (.unsafePointer "a write to bytes that a string shares")) w,es)else k.runT P (w.setCell a v) (es.push ⟨.cell a,true,m== .atomic⟩)
    |none=>match w.farStore P a v (m== .atomic)with
     | .ok (w,touched)=>k.runT P w (es++touched.toArray.map (⟨.cell ·,true,m== .atomic⟩))
     | .error h=>(.halt h w,es)):=by
    cases v<;>first |rfl|exact absurd rfl (h1 _)|exact absurd rfl (h2 _)
   rw[e0]at h ⊢;cases hc:w.cell? a with
   |some v0=>
    rw[hc]at h;dsimp only at h ⊢;by_cases hz:w.frozen? a=true
    .rw[if_pos hz]at h;grind
    .rw[if_neg hz]at h ⊢;rcases ih hn _ _ e h with h1|h1
     .rcases SG.1 h1 with h1|rfl
      .exact .inl h1
      .refine .inr ⟨ni P k hn _ _ _ (yT (rv hc).1),λ_ hf=>hz ?_⟩;obtain⟨_,c,t,f,h2,h3⟩:=rv hc;obtain⟨c',t',h4⟩:=hf;rw[h2]at h4;simp_all[Option.some.injEq,Obj.cells.injEq,TF]
     .exact .inr (h1.back λb=>Kd)
   |none=>
    rw[hc]at h;dsimp only at h ⊢;cases hl:w.farStore P a v (m== .atomic)with
    |ok r=>
     obtain⟨w1,l⟩:=r;rw[hl]at h;dsimp only at h ⊢;obtain⟨k1,k2,k3⟩:=po hl;rcases ih hn _ _ e h with h1|h1
     .rcases Tb.1 h1 with h1|h1
      .exact .inl h1
      .obtain⟨x,hx,rfl⟩:=TL.1 h1;have:=k3 x (by simpa using hx);exact .inr ⟨ni P k hn _ _ _ this.1,λ_=>this.2.1⟩
     .exact .inr (h1.back λb ⟨c,t,hb⟩=>⟨c,t,by rw[k2 b ⟨c,t,hb⟩];omega⟩)
    |error e2=>rw[hl]at h;grind
  cases v;case agg cs=>exact .inl h
  case tuple cs=>exact .inl h
  all_goals exact key _ (λ_ h=>by cases h) (λ_ h=>by cases h) h
 |new o k ih=>
  intro hn w es e h;refine(ih _ (hn.2 _) _ es e h).imp id λh1=>h1.back λb ⟨c,t,hb⟩=>⟨c,t,?_⟩
  have hlt:=(Sy.1 hb).1;grind
 |shape r k ih=>exactλhn w es e h=>ih _ (hn _) _ _ e h
 |freeze a n k ih=>exactλhn=>hn.elim
 |frozen a k ih=>exactλhn w es e h=>ih _ (hn _) _ _ e h
 |getObj r k ih=>
  intro hn w es e h;simp only[AT]at h ⊢;cases ho:w.heap[r]? with
  |none=>rw[ho]at h;grind
  |some o=>
   rw[ho]at h;cases o;case cells c t f=>exact .inl h
   all_goals
    dsimp only at h ⊢;rcases ih _ (hn _) _ _ e h with h1|h1
    .rcases SG.1 h1 with h1|rfl
     .exact .inl h1
     .exact .inr rfl
    .exact .inr h1
 |setObj r o k ih=>exactλhn=>hn.elim
 |choose q k ih=>
  intro hn w es e h;simp only[AT]at h ⊢;by_cases hq:q.forced=true
  .rw[if_pos hq]at h ⊢;exact ih _ (hn _) _ _ e h
  .rw[if_neg hq]at h ⊢;exact ih _ (hn _) {w with drawn:=w.drawn+1} _ e h
 |sys c k ih=>
  intro hn w es e h;rcases ih _ (hn _) (w.sys c).2 _ e h with h1|h1
  .rcases SG.1 h1 with h1|rfl
   .exact .inl h1
   .exact .inr trivial
  .exact .inr (h1.back λb hb=>by unfold mR;rw[uG];exact hb)
 |program k ih=>exactλhn w es e h=>ih _ hn _ _ e h
 |mark m k ih=>
  intro hn w es e h;rcases ih hn.2 _ _ e h with h1|h1
  .rcases SG.1 h1 with h1|rfl
   .exact .inl h1
   .exact .inr ⟨hn.1,rfl,rfl⟩
  .exact .inr h1
def gV(w:By)(i:Nat)(o:Obj):Prop:=(w.heap.size<=i/\jv o)\/(aJ w i/\∃c t f,o= .cells c t f)\/w.heap[i]?=some o
theorem Ff{w i o x}(hx:jv x)(h:gV {w with heap:=w.heap.push x} i o):gV w i o:=by
 rcases h with⟨h1,h2⟩|⟨⟨c,t,f,h1⟩,h2⟩|h
 .exact .inl ⟨by grind,h2⟩
 .rw[Sx]at h1;split at h1
  .obtain⟨c,t,f,rfl⟩:=h2;exact .inl ⟨by omega,trivial⟩
  .exact .inr (.inl ⟨⟨c,t,f,h1⟩,h2⟩)
 .rw[Sx]at h;split at h
  .cases h;exact .inl ⟨by omega,hx⟩
  .exact .inr (.inr h)
theorem Fe{w a v i o}(h:gV (w.setCell a v) i o):gV w i o:=by
 have hc:aJ (w.setCell a v) i->aJ w i:=λ⟨c,t,f,h⟩=>by
  simp[SF,Sz]at h;split at h
  .cases hi:w.heap[i]? with
   |none=>rw[hi]at h;cases h
   |some x=>
    rw[hi]at h;cases x;case cells c e f=>exact⟨c,e,f,hi⟩
    all_goals(simp at h)
  .exact⟨c,t,f,h⟩
 rcases h with⟨h1,h2⟩|⟨h1,h2⟩|h
 .exact .inl ⟨by simpa using h1,h2⟩
 .exact .inr (.inl ⟨hc h1,h2⟩)
 .simp[SF,Sz]at h;split at h
  .cases hi:w.heap[i]? with
   |none=>rw[hi]at h;cases h
   |some x=>
    rw[hi]at h;cases x;case cells c e f=>simp[x5]at h;subst h;exact .inr (.inl ⟨⟨c,e,f,hi⟩,_,_,_,rfl⟩)
    all_goals
     simp[x5]at h;subst h;exact .inr (.inr hi)
  .exact .inr (.inr h)
theorem Fg{P w w1 a v b l}(hf:w.farStore P a v b= .ok (w1,l)){i o}(h:gV w1 i o):gV w i o:=by
 rcases h with⟨h1,h2⟩|⟨h1,h2⟩|h
 .exact .inl ⟨by rw[<- mC hf];omega,h2⟩
 .by_cases hc:w1.heap[i]?=w.heap[i]?
  .obtain⟨c,t,f,h3⟩:=h1;exact .inr (.inl ⟨⟨c,t,f,hc▸h3⟩,h2⟩)
  .obtain⟨x,hx,rfl⟩:=sU hf i hc;exact .inr (.inl ⟨((po hf).2.2 x hx).2.2,h2⟩)
 .by_cases hc:w1.heap[i]?=w.heap[i]?
  .exact .inr (.inr (hc▸h))
  .obtain⟨x,hx,rfl⟩:=sU hf i hc;obtain⟨⟨c,t,f,h0⟩,_,hx3⟩:=(po hf).2.2 x hx;rw[h0]at h;cases h;exact .inr (.inl ⟨hx3,_,_,_,rfl⟩)
theorem vV{α}(P)(s:Sem α):bE P s->∀w es i o,(dh (s.runT P w es).1).heap[i]?=some o->gV w i o:=by
 induction s with
 |pure a=>exactλ_ w es i o h=>.inr (.inr h)
 |halt y=>exactλ_ w es i o h=>.inr (.inr h)
 |load m a k ih=>
  intro hn w es i o h;simp only[AT]at h;split at h
  .exact ih _ (hn _) _ _ i o h
  .split at h
   .exact ih _ (hn _) _ _ i o h
   .exact .inr (.inr h)
 |store m a v k ih=>
  intro hn w es i o h;have key:∀v:No,(∀cs,v≠.agg cs)->(∀cs,v≠.tuple cs)->(dh ((SO m a v k).runT P w es).1).heap[i]?=some o->gV w i o:=λv h1 h2 h=>by
   have e:(SO m a v k).runT P w es=(match w.cell? a with
    |some _=>if w.frozen? a then(.halt (.unsupported (.unsafePointer "a write to bytes that a string shares")) w,es)else k.runT P (w.setCell a v) (es.push ⟨.cell a,true,m== .atomic⟩)
    |none=>match w.farStore P a v (m== .atomic)with
     | .ok (w,touched)=>k.runT P w (es++touched.toArray.map (⟨.cell ·,true,m== .atomic⟩))
     | .error h=>(.halt h w,es)):=by
    cases v<;>first |rfl|exact absurd rfl (h1 _)|exact absurd rfl (h2 _)
   rw[e]at h;split at h
   .split at h
    .exact .inr (.inr h)
    .exact Fe (ih hn _ _ i o h)
   .split at h
    .rename_i hf;exact Fg hf (ih hn _ _ i o h)
    .exact .inr (.inr h)
  cases v;case agg cs=>exact .inr (.inr h)
  case tuple cs=>exact .inr (.inr h)
  all_goals exact key _ (λ_ h=>by cases h) (λ_ h=>by cases h) h
 |new x k ih=>exactλhn w es i o h=>Ff hn.1 (ih _ (hn.2 _) _ es i o h)
 |shape r k ih=>exactλhn w es i o h=>ih _ (hn _) _ _ i o h
 |freeze a n k ih=>exactλhn=>hn.elim
 |frozen a k ih=>exactλhn w es i o h=>ih _ (hn _) _ _ i o h
 |getObj r k ih=>
  intro hn w es i o h;simp only[AT]at h;split at h
  .exact .inr (.inr h)
  .exact ih _ (hn _) _ _ i o h
  .exact .inr (.inr h)
 |setObj r o k ih=>exactλhn=>hn.elim
 |choose q k ih=>
  intro hn w es i o h;simp only[AT]at h;split at h
  .exact ih _ (hn _) _ _ i o h
  .exact ih _ (hn _) {w with drawn:=w.drawn+1} _ i o h
 |sys c k ih=>
  intro hn w es i o h;have:=ih _ (hn _) (w.sys c).2 _ i o h;simp_all[uG,gV,aJ,this]
 |program k ih=>exactλhn w es i o h=>ih _ hn _ _ i o h
 |mark m k ih=>exactλhn w es i o h=>ih hn.2 _ _ i o h
theorem sG{α}(P)(s:Sem α):bE P s->∀w es h w1 es1,s.runT P w es=(.halt h w1,es1)->qA h\/∃g,h= .unsupported (.initOrder g)/\∃c t,w1.heap[g]?=some (.pending c t):=by
 have hfar:∀(w:By)(a:Addr)(b:Bool)(h:Halt),w.farLoad P a b= .error h->qA h\/∃g,h= .unsupported (.initOrder g)/\∃c t,w.heap[g]?=some (.pending c t):=λw a b h e=>by
  unfold TG Tr at e;repeat' split at e
  all_goals first
   |(cases e;done)
   |(
    simp only[Except.error.injEq]at e;subst e;first |exact .inl (.inr (.inr trivial))|exact .inr ⟨_,rfl,_,_,by assumption⟩)
 have hfarS:∀(w:By)(a:Addr)(v:No)(b:Bool)(h:Halt),w.farStore P a v b= .error h->qA h\/∃g,h= .unsupported (.initOrder g)/\∃c t,w.heap[g]?=some (.pending c t):=λw a v b h e=>by
  unfold SV Tr at e;repeat' split at e
  all_goals first
   |(cases e;done)
   |(
    simp only[Except.error.injEq]at e;subst e;first |exact .inl (.inr (.inr trivial))|exact .inr ⟨_,rfl,_,_,by assumption⟩)
 induction s with
 |pure a=>simp
 |halt y=>
  intro hn w es h w1 es1 e;have e:((.halt y w,es):Result α×Array SE)=(.halt h w1,es1):=e;cases e;exact .inl hn
 |load m a k ih=>
  intro hn w es h w1 es1 e;simp only[AT]at e;cases hc:w.cell? a with
  |some v=>rw[hc]at e;exact ih _ (hn _) _ _ _ _ _ e
  |none=>
   rw[hc]at e;dsimp only at e;cases hl:w.farLoad P a (m== .atomic)with
   |ok r=>rw[hl]at e;exact ih _ (hn _) _ _ _ _ _ e
   |error y=>rw[hl]at e;grind
 |store m a v k ih=>
  intro hn w es h w1 es1 e;have key:∀v:No,(∀cs,v≠.agg cs)->(∀cs,v≠.tuple cs)->(SO m a v k).runT P w es=(.halt h w1,es1)->qA h\/∃g,h= .unsupported (.initOrder g)/\∃c t,w1.heap[g]?=some (.pending c t):=λv h1 h2 e=>by
   have e0:(SO m a v k).runT P w es=(match w.cell? a with
    |some _=>if w.frozen? a then(.halt (.unsupported (.unsafePointer "a write to bytes that a string shares")) w,es)else k.runT P (w.setCell a v) (es.push ⟨.cell a,true,m== .atomic⟩)
    |none=>match w.farStore P a v (m== .atomic)with
     | .ok (w,touched)=>k.runT P w (es++touched.toArray.map (⟨.cell ·,true,m== .atomic⟩))
     | .error h=>(.halt h w,es)):=by
    cases v<;>first |rfl|exact absurd rfl (h1 _)|exact absurd rfl (h2 _)
   rw[e0]at e;cases hc:w.cell? a with
   |some v0=>
    rw[hc]at e;dsimp only at e;split at e
    .cases e;exact .inl (.inr (.inr trivial))
    .exact ih hn _ _ _ _ _ e
   |none=>
    rw[hc]at e;dsimp only at e;cases hl:w.farStore P a v (m== .atomic)with
    |ok r=>rw[hl]at e;exact ih hn _ _ _ _ _ e
    |error y=>rw[hl]at e;grind
  cases v;case agg cs=>simp only[AT]at e;cases e;exact .inl (.inr (.inr trivial))
  case tuple cs=>simp only[AT]at e;cases e;exact .inl (.inr (.inr trivial))
  all_goals exact key _ (λ_ h=>by cases h) (λ_ h=>by cases h) e
 |new x k ih=>exactλhn w es h w1 es1 e=>ih _ (hn.2 _) _ es h w1 es1 e
 |shape r k ih=>exactλhn w es h w1 es1 e=>ih _ (hn _) _ _ h w1 es1 e
 |freeze a n k ih=>exactλhn=>hn.elim
 |frozen a k ih=>exactλhn w es h w1 es1 e=>ih _ (hn _) _ _ h w1 es1 e
 |getObj r k ih=>
  intro hn w es h w1 es1 e;simp only[AT]at e;cases ho:w.heap[r]? with
  |none=>rw[ho]at e;cases e;exact .inl (.inr (.inr trivial))
  |some o=>
   rw[ho]at e;cases o;case cells c t f=>cases e;exact .inl (.inr (.inr trivial))
   all_goals exact ih _ (hn _) _ _ _ _ _ e
 |setObj r o k ih=>exactλhn=>hn.elim
 |choose q k ih=>
  intro hn w es h w1 es1 e;simp only[AT]at e;by_cases hq:q.forced=true
  .rw[if_pos hq]at e;exact ih _ (hn _) _ _ _ _ _ e
  .rw[if_neg hq]at e;exact ih _ (hn _) {w with drawn:=w.drawn+1} _ _ _ _ e
 |sys c k ih=>exactλhn w es h w1 es1 e=>ih _ (hn _) (w.sys c).2 _ h w1 es1 e
 |program k ih=>exactλhn w es h w1 es1 e=>ih _ hn _ _ h w1 es1 e
 |mark m k ih=>exactλhn w es h w1 es1 e=>ih hn.2 _ _ h w1 es1 e
theorem DM{α P}{s:Sem α}(hn:bE P s){w}(hp:∀(i:Nat) c t,w.heap[i]?≠some (Obj.pending c t)){es es1 g w1}(h:s.runT P w es=(.halt (.unsupported (.initOrder g)) w1,es1)):False:=by
 rcases sG P s hn w es _ _ _ h with(⟨v,e⟩|e|e)|⟨g',e,c,t,hg⟩
 .cases e
 .cases e
 .exact e
 .cases e;rcases vV P s hn w es g (.pending c t) (by rw[h];exact hg)with⟨_,h2⟩|⟨_,_,_,_,h2⟩|h2
  .exact h2
  .cases h2
  grind
section
structure G3(Q:up)(β:Nat->Option Code):Prop where
 nf:∀(f:Nat)(fn:Func),Q.funcs[f]?=some fn->β f=none->fn.body.isNone=true->∀e,T7 fn=some e->∀P args,Nf P (e args)
section
variable{Q P:up}{β:Nat->Option Code}
theorem ww(A:lf Q β)(N:G3 Q β)(f args):Nf (alt Q β) (Sv f args):=by
 refine⟨?_⟩;show bE (alt Q β) (match(alt Q β).funcs[f]? with
  |none=>_
  |some fn=>_)
 rw[ft];cases hf:Q.funcs[f]? with
 |none=>exact .inr (.inr trivial)
 |some fn=>
  simp only[x5,j5,A.num f fn hf];cases hb:β f with
  |some c=>
   have e:(ax β f fn).body.isNone=false:=by simp[ax,hb]
   rw[e];exact trivial
  |none=>
   have e:ax β f fn=fn:=by simp[ax,hb]
   rw[e];cases hn:fn.body.isNone with
   |false=>exact trivial
   |true=>
    obtain⟨h1,ex,h2,h3⟩:=A.lib f fn hf hb hn;rw[h1,h2];exact(@dl _ _ _ _ _ (Ba _ f) λ_=> @dl _ _ _ _ _ (N.nf f fn hf hb hn ex h2 _ args) λ_=>fQ).nf
theorem uq(A:lf Q β)(N:G3 Q β)(f:TR)(hb:β f=none)(args):Nf Q (Sv f args):=by
 refine⟨?_⟩;show bE Q (match Q.funcs[f]? with
  |none=>_
  |some fn=>_)
 cases hf:Q.funcs[f]? with
 |none=>exact .inr (.inr trivial)
 |some fn=>
  simp only[A.num f fn hf];cases hn:fn.body.isNone with
  |false=>exact trivial
  |true=>
   obtain⟨h1,ex,h2,h3⟩:=A.lib f fn hf hb hn;rw[h1,h2];exact(@dl _ _ _ _ _ (Ba _ f) λ_=> @dl _ _ _ _ _ (N.nf f fn hf hb hn ex h2 _ args) λ_=>fQ).nf
theorem B8{α}(t){f:TypeDesc->Sem α}(h:∀d,P.underlying t=some d->Nf P (f d)):Nf P (underlying t>>=f):=by
 refine⟨?_⟩;show bE P (T9 (match P.underlying t with
  |some d=>pure d
  |none=>stuck "no such type") f)
 cases hd:P.underlying t with
 |none=>exact .inr (.inr trivial)
 |some d=>exact(h d hd).nf
theorem D1(hU:∀t,P.underlying t=Q.underlying t){s d}(hs:ml Q s=true)(hd:ml Q d=true)(x):Nf P (convert s d x):=by
 refine B8 s λe he=>B8 d λe' he'=> ?_
 obtain⟨k,rfl⟩:=pg hs e (hU s▸he);obtain⟨k',rfl⟩:=pg hd e' (hU d▸he');cases x;case pointer a=>cases a<;>(exact zq2)
 all_goals(exact zq2)
theorem He(hU:∀t,P.underlying t=Q.underlying t){dt cl f ρ}(hf:∀f,ρ (.func f)= .func (.func f) #[] #[]){o}(ho:iu Q dt cl f o=true)
 (hc:∀(g:Nat) c,o.op= .call c->c.callee= .value (.func g)->∀args,Nf P (Sv g args)):Nf P (IN ρ o):=by
 unfold iu at ho;rw[OF]at ho;have ho:=ho.1;cases hop:o.op;case call c=>
  rw[hop]at ho;dsimp only at ho;rw[OF]at ho;obtain⟨h1,h2⟩:=ho;unfold IN;rw[hop];dsimp only;unfold resolve;unfold lp nG at h1;cases hk:c.callee;case value x=>
   rw[hk]at h1 h2;cases x;case func g=>
    dsimp only at h2 ⊢;rw[hf];exact hc g c hop hk _
   all_goals cases h1
  case builtin b=>
   rw[hk]at h1;cases b;case len=>exact show Nf P (do pure (TE (<- Ty c.argTypes o.type (c.args.map ρ))):Sem Next)from @dl _ _ _ _ _ zq2 λ_=>fQ
   case recover=>exact show Nf P (pure Next.recover:Sem Next)from fQ
   case append=>exact show Nf P (do pure (TE (<- Tg c.argTypes o.type (c.args.map ρ))):Sem Next)from @dl _ _ _ _ _ zq2 λ_=>fQ
   case min=>exact show Nf P (do pure (TE (<- Tx c.argTypes o.type (c.args.map ρ))):Sem Next)from @dl _ _ _ _ _ zq2 λ_=>fQ
   all_goals cases h1
  all_goals(rw[hk]at h1;cases h1)
 case defer c=>
  unfold IN;rw[hop];dsimp only;refine @dl _ _ _ _ _ ?_ λ_=>fQ
  unfold resolve;cases c.callee;case value x=>unfold TY;dsimp only;split <;>exact zq2
  all_goals exact zq2
 case send ch x=>
  unfold IN;rw[hop];exact fQ
 case recv t ch ok=>
  unfold IN;rw[hop];dsimp only;refine @dl _ _ _ _ _ zq2 λd=> ?_
  cases d<;>exact zq2
 all_goals
  rw[hop]at ho;dsimp only at ho;unfold ng at ho;rw[hop]at ho;try dsimp only at ho
 all_goals try(exact absurd ho BY)
 all_goals
  unfold IN;rw[hop];dsimp only
 case convert s d x=>
  rw[OF]at ho;exact @dl _ _ _ _ _ (D1 hU ho.1 ho.2 _) λ_=>fQ
 all_goals repeat' (first
  |exact zq2
  |(refine @dl _ _ _ _ _ ?_ λ_=> ?_)
  |(refine @Nx _ _ _ _ _ _ ?_ ?_)
  |split
  |dsimp only)
end
def jn(σ:Nat->Nat)(e:PanicEntry):PanicEntry:= {e with v:=ab σ e.v}
def oa(σ:Nat->Nat):FrameMode->FrameMode
 | .panicking chain=>.panicking (chain.map (jn σ))
 |m=>m
def aC(σ:Nat->Nat)(fr:AS):AS:= {fr with tmps:=fr.tmps.map (ab σ),defers:=fr.defers.map (lu σ),mode:=oa σ fr.mode}
section
variable{σ:Nat->Nat}
@[simp] theorem DF(fr):(aC σ fr).fn=fr.fn:=rfl
@[simp] theorem sJ(fr):(aC σ fr).todo=fr.todo:=rfl
@[simp] theorem oS(fr):(aC σ fr).kind=fr.kind:=rfl
@[simp] theorem sK(fr):(aC σ fr).roundOf=fr.roundOf:=rfl
@[simp] theorem yu(fr):(aC σ fr).tmps=fr.tmps.map (ab σ):=rfl
@[simp] theorem jG(fr):(aC σ fr).defers=fr.defers.map (lu σ):=rfl
@[simp] theorem fL(fr):(aC σ fr).mode=oa σ fr.mode:=rfl
theorem Kk(fr){x}(hc:∀v,x= .const v->ab σ v=v)(hg:∀g,x= .global g->σ g=g):(aC σ fr).eval x=ab σ (fr.eval x):=by
 cases x with
 |tmp t=>
  simp[SU];cases fr.tmps[t]? <;>simp
 |const v=>simp_all[SU]
 |global g=>simp[SU,bi,hg g rfl]
 |func f=>simp[SU,kO]
theorem JL(fr):(aC σ fr).oper?=fr.oper?:=rfl
theorem Cc(ops tmps j):yielded ops (tmps.map (ab σ)) j=yielded ops tmps j:=by
 unfold yielded;cases ops[j]?.bind (·.dst)with
 |none=>rfl
 |some d=>
  simp[TW];cases tmps[d]? with
  |none=>rfl
  |some v=>cases v<;>simp
theorem gq{fr}(ht:∀d w r s k,fr.todo≠.call d w r s::k)(he:∀r a k,fr.todo≠.extern r a::k)(v):aC σ (fr.finish v)=(aC σ fr).finish (ab σ v):=by
 unfold SD;rw[sJ];split
 .rename_i ops i rest k heq;cases ops[i]?.bind (·.dst)with
  |none=>rfl
  |some d=>simp only[aC,Tz]
 .rfl
 .rfl
 .rename_i d w r s k heq;exact absurd heq (ht d w r s k)
 .rename_i r a k heq;exact absurd heq (he r a k)
 .rfl
theorem j3(fr vs):aC σ (fr.raise vs)=(aC σ fr).raise (vs.map (jn σ)):=by
 grind [oa,aC,T3]
theorem sI:jn σ goexitEntry=goexitEntry:=by simp[jn,goexitEntry]
end
def qt:No->Bool
 | .bool _| .int _ _| .float _ _| .complex _ _ _| .string _| .nilFunc| .nilIface=>true
 | .pointer none| .slice none _ _| .map none| .chan none=>true
 | .iface _ (.int _ _)| .iface _ (.string _)| .iface _ (.bool _)=>true
 | .agg cs=>cs.all λv=>match v with
  | .bool _| .int _ _| .float _ _| .complex _ _ _| .string _| .nilFunc| .nilIface=>true
  | .pointer none| .slice none _ _| .map none| .chan none=>true
  |_=>false
 | .tuple cs=>cs.isEmpty
 |_=>false
theorem wh{v}(h:qt v=true)(σ):ab σ v=v:=by
 cases v;case agg cs=>
  rw[fy];congr 1
  unfold qt at h;rw[Array.all_eq_true]at h;apply Array.ext
  .simp
  .intro i h1 h2;rw[Array.getElem_map];have:=h i h2;generalize cs[i]=x at this ⊢;cases x;case pointer a=>cases a<;>first |(simp;done)|cases this
   case slice a n c=>cases a<;>first |(simp;done)|cases this
   case map a=>cases a<;>first |(simp;done)|cases this
   case chan a=>cases a<;>first |(simp;done)|cases this
   all_goals first |(simp;done)|cases this
 case pointer a=>cases a<;>first |(simp;done)|cases h
 case slice a n c=>cases a<;>first |(simp;done)|cases h
 case map a=>cases a<;>first |(simp;done)|cases h
 case chan a=>cases a<;>first |(simp;done)|cases h
 case iface t v=>cases v<;>first |(simp;done)|cases h
 case tuple cs=>
  simp_all[qt,h]
 all_goals first |(simp;done)|cases h
def Nu(Q:up):Tc->Bool
 | .const v=>qt v
 | .global g=>decide (g<=Q.globals.size)
 |_=>true
def mH(Q:up)(dt:bM)(cl:Bool)(f:Nat)(o:Oper):Bool:=iu Q dt cl f o&&o.op.operands.all (Nu Q)
def codeOk(Q:up)(dt:bM)(cl:Bool)(f:Nat):Code->Bool
 | .region _ ops _=>ops.all (mH Q dt cl f ·)
 | .seq a b=>codeOk Q dt cl f a&&codeOk Q dt cl f b
 | .cond c a b=>Nu Q c&& (codeOk Q dt cl f a&&codeOk Q dt cl f b)
 | .block _ b=>codeOk Q dt cl f b
 | .loop b=>codeOk Q dt cl f b
 | .scope b=>codeOk Q dt cl f b
 | .rangeFunc _ _ _ _=>false
 |_=>true
def gW(Q:up)(dt:bM)(cl:Bool)(f:Nat):Item->Prop
 | .code c=>codeOk Q dt cl f c=true
 | .inBlock _=>True
 | .inLoop c=>codeOk Q dt cl f c=true
 | .inScope c=>codeOk Q dt cl f c=true
 | .inRegion ops is=>∀i∈is,∀o,ops[i]?=some o->mH Q dt cl f o=true
 |_=>False
theorem pX{Q dt cl f ops}(h:ops.all (mH Q dt cl f ·)=true)(is):gW Q dt cl f (.inRegion ops is):=λi _ o ho=>by
 grind
def rD(dt:bM)(v:No):Prop:=(∀fn a b,v= .func fn a b->∃h,fn= .func h/\dt.all (·.1 !=h)=true)/\v≠.nilFunc
theorem lT{dt}:rD dt undef:=⟨λfn a b h=>by simp[undef]at h,by simp[undef]⟩
structure ck(Q:up)(dt:bM)(cl:Bool)(fr:AS):Prop where
 round:fr.roundOf=none
 items:∀i∈fr.todo,gW Q dt cl fr.fn i
 regs:∀t,(fr.fn,t)∈dt->rD dt (fr.tmps.getD t undef)
 defs:∀d∈fr.defers,Om dt cl d.target
 kind:fr.kind= .normal\/fr.kind= .deferred
 init:Q.inits.idxOf? fr.fn=none
section
variable{Q:up}{dt:bM}{cl:Bool}
theorem ck.todo{fr}(h:ck Q dt cl fr){t}(ht:∀i∈t,gW Q dt cl fr.fn i):ck Q dt cl {fr with todo:=t}:=⟨h.round,ht,h.regs,h.defs,h.kind,h.init⟩
theorem ck.mode{fr}(h:ck Q dt cl fr)(m):ck Q dt cl {fr with mode:=m}:=⟨h.round,h.items,h.regs,h.defs,h.kind,h.init⟩
theorem ck.raise{fr}(h:ck Q dt cl fr)(vs):ck Q dt cl (fr.raise vs):=by
 unfold T3;split <;>exact h.mode _
theorem ck.dC{fr}(h:ck Q dt cl fr):(∀d w r s k,fr.todo≠.call d w r s::k)/\∀r a k,fr.todo≠.extern r a::k:=by
 constructor
 .intro d w r s k e;exact h.items (.call d w r s) (by simp[e])
 .intro r a k e;exact h.items (.extern r a) (by simp[e])
theorem Kc(a:Array No)(d t v)(h:rD dt (a.getD t undef))(hv:d=t->rD dt v):rD dt ((a.setIfInBounds d v).getD t undef):=by
 simp[SX]at h ⊢;grind
theorem ck.finish{fr}(h:ck Q dt cl fr){v}(hv:∀o t,fr.oper?=some o->o.dst=some t->(fr.fn,t)∈dt->rD dt v):ck Q dt cl (fr.finish v):=by
 have hk:(fr.finish v).kind=fr.kind:=by grind [SD]
 have hf:(fr.finish v).fn=fr.fn:=by grind [SD]
 have hr:(fr.finish v).roundOf=fr.roundOf:=by grind [SD]
 have hd:(fr.finish v).defers=fr.defers:=by grind [SD]
 refine⟨hr.trans h.round,?_,?_,by rw[hd];exact h.defs,by rw[hk];exact h.kind,by rw[hf];exact h.init⟩
 .rw[hf];intro i hi;unfold SD at hi;split at hi
  .rename_i ops j rest k heq;have h0:=h.items (.inRegion ops (j::rest)) (by rw[heq];simp);rcases T2.1 hi with rfl|hi
   .exactλj hj o ho=>h0 j (.tail _ hj) o ho
   .exact h.items i (by rw[heq];grind)
  .rename_i l k heq;exact absurd (h.items (.inRangeFunc l) (by rw[heq];simp)) id
  .rename_i k heq;exact h.items i (by rw[heq];grind)
  .rename_i d w r s k heq;exact absurd heq (h.dC.1 d w r s k)
  .rename_i r a k heq;exact absurd heq (h.dC.2 r a k)
  .exact h.items i hi
 .intro t ht;rw[hf]at ht;unfold SD;split
  .rename_i ops j rest k heq;have ho:fr.oper?=ops[j]?:=by unfold Frame.oper?;rw[heq]
   dsimp only;cases hx:ops[j]?.bind (·.dst)with
   |none=>exact h.regs t ht
   |some d=>
    obtain⟨o,ho2,hdst⟩:=Option.bind_eq_some_iff.1 hx;refine Kc _ _ _ _ (h.regs t ht) λhdt=> ?_
    grind
  .exact h.regs t ht
  .exact h.regs t ht
  .rename_i d w r s k heq;exact absurd heq (h.dC.1 d w r s k)
  .rename_i r a k heq;exact absurd heq (h.dC.2 r a k)
  .exact h.regs t ht
theorem q6{f}(id):∀k t,(∀i∈k,gW Q dt cl f i)->exitTo id k=some t->∀i∈t,gW Q dt cl f i
 |[],t,_,h=>by cases h
 |x::k,t,hk,h=>by
  have hk':=λi hi=>hk i (.tail _ hi)
  cases x;case inBlock id'=>
   unfold exitTo at h;split at h
   .grind
   .exact q6 id k t hk' h
  all_goals exact q6 id k t hk' h
theorem lE{f}:∀c l r,codeOk Q dt cl f c=true->findLabel c l=some r->codeOk Q dt cl f r=true
 | .seq a b,l,r,hc,h=>by
  simp[codeOk]at hc;unfold findLabel at h;split at h
  .rename_i rest hr;cases h;simp[codeOk];exact⟨lE a l rest hc.1 hr,hc.2⟩
  .exact lE b l r hc.2 h
 | .label l',l,r,hc,h=>by
  unfold findLabel at h;split at h
  .cases h;rfl
  .cases h
 | .skip,_,_,_,h=>by cases h
 | .region _ _ _,_,_,_,h=>by cases h
 | .cond _ _ _,_,_,_,h=>by cases h
 | .block _ _,_,_,_,h=>by cases h
 | .loop _,_,_,_,h=>by cases h
 | .rangeFunc _ _ _ _,_,_,_,h=>by cases h
 | .exit _,_,_,_,h=>by cases h
 | .scope _,_,_,_,h=>by cases h
 | .goto _,_,_,_,h=>by cases h
 | .ret,_,_,_,h=>by cases h
 | .refuse _,_,_,_,h=>by cases h
theorem q5{f}(l):∀k t,(∀i∈k,gW Q dt cl f i)->gotoIn l k=some t->∀i∈t,gW Q dt cl f i
 |[],t,_,h=>by cases h
 |x::k,t,hk,h=>by
  have hk':=λi hi=>hk i (.tail _ hi)
  cases x;case inScope body=>
   unfold gotoIn at h;split at h
   .rename_i rest hr;cases h;intro i hi;rcases T2.1 hi with rfl|hi
    .exact lE body l rest (hk (.inScope body) (.head _)) hr
    grind
   .exact q5 l k t hk' h
  all_goals exact q5 l k t hk' h
end
theorem FQ{α}(x:Ask α)(w:By):(w.ask x).2.output=w.output:=let⟨_,_,_,_,_,h,_⟩:=nJ x w;h
theorem Er(w:By)(c):(w.sys c).2.output=w.output:=by
 unfold TP;have h3:=FQ (Th c w.os) w;grind
theorem Fx{P}{w w1:By}{a v b l}(h:w.farStore P a v b= .ok (w1,l)):w1.output=w.output:=by
 unfold SV at h;split at h
 .split at h
  .rename_i hv;simp[Except.ok.injEq]at h;subst h;simp[Td,bind,SM]at hv;repeat' split at hv
   all_goals first
    |(cases hv;done)
    |(obtain⟨rfl,_⟩:=hv;rfl)
  .cases h
 .cases h
theorem CP{α}(P)(s:Sem α):∀w es,(dh (s.runT P w es).1).output=w.output:=by
 induction s with
 |pure a=>exactλw es=>rfl
 |halt x=>exactλw es=>rfl
 |load m a k ih=>
  intro w es;simp only[AT];split
  .exact ih _ _ _
  .split
   .exact ih _ _ _
   rfl
 |store m a v k ih=>
  intro w es;cases v;all_goals simp only[AT]
  case agg=>rfl
  case tuple=>rfl
  all_goals
   split
   .split
    .rfl
    .exact(ih _ _).trans rfl
   .split
    .rename_i hf;exact(ih _ _).trans (Fx hf)
    .rfl
 |new o k ih=>exactλw es=>(ih _ _ _).trans rfl
 |shape r k ih=>exactλw es=>ih _ _ _
 |freeze a n k ih=>exactλw es=>(ih _ _).trans (by grind [World.freeze])
 |frozen a k ih=>exactλw es=>ih _ _ _
 |getObj r k ih=>
  intro w es;simp only[AT];split
  .rfl
  .exact ih _ _ _
  rfl
 |setObj r o k ih=>
  intro w es;simp only[AT];split
  .rfl
  .exact(ih _ _).trans rfl
  rfl
 |choose q k ih=>
  grind [AT]
 |sys c k ih=>exactλw es=>(ih _ _ _).trans (Er w c)
 |program k ih=>exactλw es=>ih _ _ _
 |mark m k ih=>exactλw es=>ih _ _
theorem GR{α P}{s:Sem α}(hn:bE P s){w b}(h:mR w b):(dh (s.runT P w #[]).1).heap[b]?=w.heap[b]?:=by
 refine Tp λhne=> ?_
 have hlt:b<w.heap.size:=by
  obtain⟨c,t,h⟩:=h<;>grind
 obtain⟨e,he,hw,a,hl,rfl⟩:=vW P s hn w #[] b hlt hne;rcases vU P s hn w #[] e he with h1|h1
 .simp at h1
 simp_all[kz]
def pz(Ro:Nat->Prop)(w:By):Prop:=∀i,Ro i->mR w i
structure Oj(σ:Nat->Nat)(Ro:Nat->Prop)(w1:By)(e:SE):Prop where
 cell:∀a',e.loc= .cell a'->∃a,a'=bi σ a/\aJ w1 a.block/\(e.write=true->¬ Ro a.block)
 obj:∀r,e.loc= .obj r->e.write=false
 mark:∀m,e.loc= .mark m->Meek m/\e.write=false/\e.sync=true
structure gR(σ:Nat->Nat)(Ro:Nat->Prop)(D:Known)(w w' w1 w1':By)(es':Array SE):Prop where
 rel:eo σ Ro D w1 w1'
 size:w1'.heap.size+w.heap.size=w'.heap.size+w1.heap.size
 le:w.heap.size<=w1.heap.size
 ro:pz Ro w1
 frame:∀b,b<w'.heap.size->w1'.heap[b]?≠w'.heap[b]?->∃i,σ i=b/\aJ w1 i/\¬ Ro i
 events:∀e∈es',Oj σ Ro w1 e
 output:w1'.output=w'.output
 kinds:∀(i:Nat)(o:Obj),w1.heap[i]?=some o->gV w i o
section
variable{σ:Nat->Nat}{Ro:Nat->Prop}{D:Known}{Q:up}{β:Nat->Option Code}
theorem gR.refl{w w'}(h:eo σ Ro D w w')(hr:pz Ro w):gR σ Ro D w w' w w' #[]:=⟨h,rfl,AI _,hr,λb _ h=>absurd rfl h,λe he=>by simp at he,rfl,λi o h=>.inr (.inr h)⟩
theorem gR.less{w w' w1 w1' es es2}(h:gR σ Ro D w w' w1 w1' es)(hs:∀e∈es2,e∈es):gR σ Ro D w w' w1 w1' es2:=⟨h.rel,h.size,h.le,h.ro,h.frame,λe he=>h.events e (hs e he),h.output,h.kinds⟩
theorem tw{α}{s s':Sem α}(hn:bE (alt Q β) s)(hn':bE Q s'){w w' w1 w1'}(hR:pz Ro w)(h1:dh (s.runT (alt Q β) w #[]).1=w1)(h1':dh (s'.runT Q w' #[]).1=w1')
 (hS:Sub (σ:=σ) (s.runT (alt Q β) w #[]).2 (s'.runT Q w' #[]).2) (hrel:eo σ Ro D w1 w1') (hz:w1'.heap.size+w.heap.size=w'.heap.size+w1.heap.size):gR σ Ro D w w' w1 w1' (s'.runT Q w' #[]).2:=by
 have touch:∀e∈(s.runT (alt Q β) w #[]).2,kz w w1 e:=λe he=>by
  rcases vU _ s hn w #[] e he with h|h<;>grind
 have ev:∀e'∈(s'.runT Q w' #[]).2,Oj σ Ro w1 e':=λe' he'=>by
  obtain⟨e,he,rfl⟩:=hS e' he';have ht:=touch e he;obtain⟨loc,wr,sy⟩:=e;unfold kz at ht;cases loc with
  |cell a=>exact⟨λa' h=>by simp[ii]at h;exact⟨a,h.symm,ht.1,λhw hr=>ht.2 hw (hR _ hr)⟩,λr h=>by simp[ii]at h,λm h=>by simp[ii]at h⟩
  |obj r=>exact⟨λa' h=>by simp[ii]at h,λr _=>ht,λm h=>by simp[ii]at h⟩
  |mark m=>
   cases m;case extern f=>exact⟨λa' h=>by simp[ii]at h,λr h=>by simp[ii]at h,λm h=>by simp_all[ii]⟩
   case noRoom=>exact⟨λa' h=>by simp[ii]at h,λr h=>by simp[ii]at h,λm h=>by simp_all[ii]⟩
   all_goals exact absurd ht.1 id
  |output=>exact⟨λa' h=>by simp[ii]at h,λr h=>by simp[ii]at h,λm h=>by simp[ii]at h⟩
  |goroutines=>exact⟨λa' h=>by simp[ii]at h,λr h=>by simp[ii]at h,λm h=>by simp[ii]at h⟩
 refine⟨hrel,hz,?_,λi hi=> ?_,λb hb hne=> ?_,ev,?_,by rw[<- h1];exact vV _ s hn w #[]⟩
 .rw[<- h1];exact runT_size _ s w #[]
 .have:=GR hn (hR i hi);rw[h1]at this;obtain⟨c,t,h⟩:=hR i hi;exact⟨c,t,this.trans h⟩
 .rw[<- h1']at hne;obtain⟨e,he,hw,a',hl,rfl⟩:=vW Q s' hn' w' #[] b hb hne;obtain⟨a,rfl,h2,h3⟩:=(ev e he).cell a' hl;exact⟨a.block,rfl,h2,h3 hw⟩
 .rw[<- h1'];exact CP Q s' w' #[]
end
def lZ(dt:bM)(fr:AS):Prop:=∀o t,fr.oper?=some o->o.dst=some t->(fr.fn,t)∉dt
def ej(dt:bM)(fr:AS):List AS->Prop
 |[]=>fr.kind= .normal
 |c::cs=>(fr.kind= .normal->lZ dt c)/\ej dt c cs
structure C9(D0:AS):Prop where
 todo:∃why,D0.todo=[.code (.refuse why)]
 mode:D0.mode= .run
structure uD(Q:up)(D0:AS)(dt:bM)(cl:Bool)(g:SI):Prop where
 frame:ck Q dt cl g.frame
 callers:∀c∈g.callers.dropLast,ck Q dt cl c
 stack:ej dt g.frame g.callers.dropLast
 last:g.callers=g.callers.dropLast++[D0]
structure mQ(σ:Nat->Nat)(rest:List AS)(g g':SI):Prop where
 frame:g'.frame=aC σ g.frame
 callers:g'.callers=g.callers.dropLast.map (aC σ)++rest
 dying:g.dying=none/\g'.dying=none
 status:g.status= .running/\g'.status= .running
def tP(D0:AS):GStep->Prop
 | .ended _ _ _=>True
 | .go g _ _=>g.status≠.running\/(g.status= .running/\g.dying=none/\g.callers=[]/\(g.frame=D0\/∃chain,g.frame= {D0 with mode:=.panicking chain}))
 |_=>False
theorem sY(cs:List AS)(D0):(cs++[D0]).dropLast=cs:=by simp
theorem gQ{Q D0 dt cl fr cs st dy}(h1:ck Q dt cl fr)(h2:∀c∈cs,ck Q dt cl c)(h3:ej dt fr cs):uD Q D0 dt cl {frame:=fr,callers:=cs++[D0],status:=st,dying:=dy}:=
 ⟨h1,by rw[sY];omega,by rw[sY];omega,by rw[sY]⟩
theorem fO{σ rest fr cs D0}:mQ σ rest {frame:=fr,callers:=cs++[D0],status:=.running,dying:=none} {frame:=aC σ fr,callers:=cs.map (aC σ)++rest,status:=.running,dying:=none}:=
 ⟨rfl,by simp,⟨rfl,rfl⟩,⟨rfl,rfl⟩⟩
def stepW:GStep->By
 | .go _ w _=>w
 | .comm _ _ _ _ w _=>w
 | .spawn _ _ w _=>w
 | .count _ w _=>w
 | .timer _ _ w _=>w
 | .alone _ _ w _=>w
 | .newcoro _ _ _ w _=>w
 | .coroswitch _ _ _ w _=>w
 | .collect _ w _=>w
 | .watch _ w _=>w
 | .ended _ w _=>w
theorem fJ(es x):stepW (IT es x)=stepW x:=by cases x<;>rfl
end
section
variable[aD]
section
variable{Q:up}{β:Nat->Option Code}{σ:Nat->Nat}{Ro:Nat->Prop}{D:Known}{dt:bM}{cl:Bool}{D0:AS}{rest:List AS}
def qB(cl:Bool)(cs:Array CommCase)(bl:Bool)(sh:CommShape):Prop:=bl=true/\∃c,cs=#[c]/\((cl=true/\sh= .send/\c.send.isSome=true)\/(cl=false/\∃ok,sh= .recv ok/\c.send=none))
def eh(Q:up)(β:Nat->Option Code)(σ:Nat->Nat)(Ro:Nat->Prop)(D:Known)(dt:bM)(cl:Bool)(D0:AS)(rest:List AS)(w w':By)(x x':GStep):Prop:=
 (∃g1 w1 es g1' w1' es',x= .go g1 w1 es/\x'= .go g1' w1' es'/\mQ σ rest g1 g1'/\uD Q D0 dt cl g1/\gR σ Ro D w w' w1 w1' es'/\¬ Big x.es)\/
 (∃g1 cs bl sh w1 es g1' w1' es',x= .comm g1 cs bl sh w1 es/\x'= .comm g1' (cs.map (jS σ)) bl sh w1' es'/\qB cl cs bl sh/\mQ σ rest g1 g1'/\uD Q D0 dt cl g1/\lZ dt g1.frame/\gR σ Ro D w w' w1 w1' es'/\¬ Big x.es)\/
 (∃g w es,x= .go g w es/\qc Q β g/\¬ Big x.es)\/(cl=false/\Big x.es/\Big x'.es)\/(tP D0 x/\¬ Big x.es)
theorem cJ{fr fr2}(cs)(h:fr2.kind=fr.kind)(hs:ej dt fr cs):ej dt fr2 cs:=by
 cases cs with
 |nil=>exact h.trans hs
 |cons c cs=>exact⟨λhk=>hs.1 (h▸hk),hs.2⟩
theorem xp{fr cs}(hf:ck Q dt cl fr)(hb:ej dt fr cs):tryRecover (aC σ fr) (cs.map (aC σ)++rest)=(tryRecover fr cs).map λx=>(ab σ x.1,x.2.map (aC σ)++rest):=by
 unfold tryRecover;rw[oS];rcases hf.kind with hk|hk
 .simp[hk]
 .rw[hk];cases cs with
  |nil=>
   have:fr.kind= .normal:=hb;rw[hk]at this;cases this
  |cons c cs=>
   simp[SQ,SY,fL];cases hm:c.mode with
   |panicking chain=>
    cases chain with
    |nil=>rfl
    |cons e older=>
     obtain⟨v,r,gx⟩:=e;cases r<;>cases gx<;>simp[oa,jn,aC]
   |run=>rfl
   |returning=>rfl
theorem vC{fr cs}(hf:ck Q dt cl fr)(hb:ej dt fr cs):tryRecover fr (cs++[D0])=(tryRecover fr cs).map λx=>(x.1,x.2++[D0]):=by
 unfold tryRecover;rcases hf.kind with hk|hk
 .simp[hk]
 .rw[hk];cases cs with
  |nil=>
   have:fr.kind= .normal:=hb;rw[hk]at this;cases this
  |cons c cs=>
   simp[SY];cases hm:c.mode with
   |panicking chain=>
    cases chain with
    |nil=>rfl
    |cons e older=>
     obtain⟨v,r,gx⟩:=e;cases r<;>cases gx<;>simp
   |run=>rfl
   |returning=>rfl
theorem zc{fr cs}(hc:∀c∈cs,ck Q dt cl c){v cs2}(h:tryRecover fr cs=some (v,cs2))(hk:fr.kind= .normal\/fr.kind= .deferred)(hb:ej dt fr cs):
 (∀c∈cs2,ck Q dt cl c)/\ej dt fr cs2:=by
 unfold tryRecover at h;rcases hk with hk|hk
 .rw[hk]at h;cases h
 .rw[hk]at h;cases cs with
  |nil=>cases h
  |cons c cs=>
   dsimp only at h;split at h
   .obtain⟨_,rfl⟩:=h;refine⟨λx hx=> ?_,⟨λhk2=>hb.1 hk2,cJ (fr:=c) cs rfl hb.2⟩⟩
    .rcases T2.1 hx with rfl|hx
     .exact(hc c (.head _)).mode _
     grind
   .cases h
theorem uw(A:lf Q β){f}(hb:β f=none)(args k):aC σ (Sw (alt Q β) f args k)=Sw Q f (args.map (ab σ)) k:=by
 simp[Sw,ft];cases hf:Q.funcs[f]? with
 |none=>simp[aC,oa]
 |some fn=>
  have e:ax β f fn=fn:=by simp[ax,hb]
  simp[aC,oa,e]
structure th(Q:up)(β:Nat->Option Code)(dt:bM)(cl:Bool):Prop where
 code:∀f fn c,Q.funcs[f]?=some fn->β f=none->fn.body=some c->dt.all (·.1 !=f)=true->codeOk Q dt cl f c=true
 init:∀f,β f=none->Q.inits.idxOf? f=none
theorem BA(G:th Q β dt cl){f}(hb:β f=none)(hd:dt.all (·.1 !=f)=true)(args){k}(hk:k= .normal\/k= .deferred):ck Q dt cl (Sw (alt Q β) f args k):=by
 refine⟨rfl,λi hi=> ?_,λt ht=> ?_,λd hd=>(by cases hd),hk,G.init f hb⟩
 .simp[Sw,ft]at hi;have:i= .code ((((Q.funcs[f]?.map (ax β f)).bind (·.body))).getD (.refuse "unsupported: a function without a Go body is entered")):=by grind
  subst this;cases hf:Q.funcs[f]? with
  |none=>rfl
  |some fn=>
   have e:ax β f fn=fn:=by simp[ax,hb]
   simp[e];cases hc:fn.body with
   |none=>rfl
   |some c=>exact G.code f fn c hf hb hc hd
 grind [Sw]
def P9(r:Result Next)(es:Array SE):Array SE:=match r with
 | .halt .blocked _| .halt .waiting _| .halt (.unsupported (.initOrder _)) _=> #[]
 |_=>es
def MY(P:up)(dt:bM)(fr:AS)(s:Sem Next):Prop:=∀o t,fr.oper?=some o->o.dst=some t->(fr.fn,t)∈dt->YP P (λn=>∃fn a b,n= .value (.func (.func fn) a b)/\dt.all (·.1 !=fn)=true) s
theorem bh{es y}(h:¬ Big es)(hy:¬ Big y.es):¬ Big (IT es y).es:=λh=>h
theorem Hc{r es}(h:¬ Big es):¬ Big (P9 r es):=λh=>h
theorem uM{α}(P)(s:Sem α)(w):w.heap.size<=(dh (s.run P w)).heap.size:=by
 rw[<- Sem.runT_fst P s w #[]];exact runT_size P s w #[]
theorem qx(P fr cs m w):w.heap.size<=(stepW (endFatal P fr cs none m w)).heap.size/\(endFatal P fr cs none m w).es=#[]:=by
 refine⟨?_,Df m⟩
 .unfold endFatal;dsimp only;split
  .rename_i w1 h;have:=congrArg (λr=>(dh r).heap.size) h;dsimp only[dh]at this;show w.heap.size<=w1.heap.size;rw[<- this];exact uM _ _ _
  .rename_i w1 h;have:=congrArg (λr=>(dh r).heap.size) h;dsimp only[dh]at this;show w.heap.size<=w1.heap.size;rw[<- this];exact uM _ _ _
  .rename_i w1 hne h;have:=congrArg (λr=>(dh r).heap.size) h;dsimp only[dh]at this;show w.heap.size<=w1.heap.size;rw[<- this];exact uM _ _ _
theorem IC(A:lf Q β)(G:th Q β dt cl){fr cs s s' w w'}(hg:ck Q dt cl fr)(hcs:∀c∈cs,ck Q dt cl c)(hbot:ej dt fr cs)
 (hs:oI Q β σ Ro D cl s s') (hy:YP (alt Q β) (NK dt cl) s) (hn:bE (alt Q β) s) (hn':¬ tQ β (s.runT (alt Q β) w #[])->bE Q s') (hfin:MY (alt Q β) dt fr s)
 (hw:eo σ Ro D w w') (hD:Dom D w) (hR:pz Ro w) (hF:g6 σ w w' (stepW (stepG.apply (alt Q β) true fr (cs++[D0]) none s w)).heap.size):
 eh Q β σ Ro D dt cl D0 rest w w' (stepG.apply (alt Q β) true fr (cs++[D0]) none s w) (stepG.apply Q true (aC σ fr) (cs.map (aC σ)++rest) none s' w'):=by
 have hni:∀x w1 es,s.runT (alt Q β) w #[]=(.halt x w1,es)->∀g,x= .unsupported (.initOrder g)->False:=λx w1 es h g e=>by
  subst e;exact DM hn (λi c t hi=>hw.blk i _ hi) h
 have hkind:∀k:CallKind,k≠.early->(k==Ud)=false:=λk hk=>by cases k<;>first |rfl|exact absurd rfl hk
 have hke:(fr.kind==Ud)=false:=hkind _ (by rcases hg.kind with h|h<;>rw[h]<;>simp);have hWsz:(dh (s.runT (alt Q β) w #[]).1).heap.size<=(stepW (stepG.apply (alt Q β) true fr (cs++[D0]) none s w)).heap.size:=by
  unfold stepG.apply;simp only[if_true,hke,If,if_false,hg.round];have h7:=hy w #[];have ha:=hni;generalize s.runT (alt Q β) w #[]=x at h7 ha ⊢;obtain⟨r,es⟩:=x;cases r with
  |ok n w1=>
   have:=h7 n w1 es rfl;cases n;case value v=>exact AI _
   case skip=>exact AI _
   case enter f a=>exact AI _
   case defer d=>exact AI _
   case comm c b sh=>exact AI _
   case recover=>
    dsimp only;cases tryRecover fr (cs++[D0])with
    |none=>exact AI _
    |some x=>exact AI _
   all_goals exact this.elim
  |halt h w1=>
   cases h;case panic v=>exact AI _
   case goexit=>exact AI _
   case blocked=>exact AI _
   case waiting=>exact AI _
   case exit c=>exact AI _
   case throw m=>exact AI _
   case stuck m=>exact AI _
   case fatal m=>
    rw[fJ];exact(qx _ _ _ _ _).1
   case unsupported u=>
    cases u;case initOrder g=>exact(ha _ _ _ rfl _ rfl).elim
    all_goals exact AI _
 by_cases hfoul:tQ β (s.runT (alt Q β) w #[])
 .obtain⟨f,args,w1,h1,h2,h3⟩:=hfoul;refine .inr (.inr (.inl ?_));unfold stepG.apply;simp only[if_true,hke,If,if_false,hg.round];generalize s.runT (alt Q β) w #[]=x at h1 h3 ⊢;obtain⟨r,es⟩:=x;dsimp only at h1 h3;subst h1;dsimp only;split
  .rename_i d r sv k heq;exact absurd heq (hg.dC.1 d true r sv k)
  .exact⟨_,_,_,rfl,⟨f,args,.normal,rfl,h2,rfl,λd hd=>by cases hd⟩,bh (aN h3) av⟩
 have hl:=hn' hfoul;have hS:=hs w w' #[] #[] hw hD av tB (jW hF hWsz);have h0:=λ(w1 w1':By)=>tw (σ:=σ) (Ro:=Ro) (D:=D) hn hl (w:=w) (w':=w') (w1:=w1) (w1':=w1') hR
 have hf:=sG _ s hn w #[];have h7:=hy w #[];have hh:∀o t,fr.oper?=some o->o.dst=some t->(fr.fn,t)∈dt->∀n w1 es1,s.runT (alt Q β) w #[]=(.ok n w1,es1)->∃fn a b,n= .value (.func (.func fn) a b)/\dt.all (·.1 !=fn)=true:=λo t h1 h2 h3=>hfin o t h1 h2 h3 w #[]
 unfold stepG.apply;simp only[if_true,hke,sJ,oS,sK,DF,If,if_false,hg.round];generalize s.runT (alt Q β) w #[]=x at hS h0 h7 hh hni hfoul hf ⊢;generalize s'.runT Q w' #[]=x' at hS h0 ⊢;obtain⟨r,es⟩:=x;obtain⟨r',es'⟩:=x';rcases hS with⟨hnb,hS⟩|hS|hS
 .rcases hS with⟨n,w1,w1',h1,h2,h3,h4,h5⟩|⟨h,w1,w1',h1,h2,h3,h4,h5,h6⟩|⟨h,w1,h1,h2⟩
  .dsimp only at h1 h2;subst h1 h2;have hW:gR σ Ro D w w' w1 w1' es':=h0 w1 w1' rfl rfl h3 h4 h5;have h8:gR σ Ro D w w' w1 w1' (seen Q fr.fn es'):=hW.less (lr _ _ _);have h9:=h7 n w1 es rfl;have hf1:=λo t h1 h2 h3=>hh o t h1 h2 h3 n w1 es rfl
   have hto:∀fr2:AS,fr2.kind=fr.kind->ck Q dt cl fr2->(∃g1 w1_1 es_1 g1' w1'_1 es'_1,IT (seen (alt Q β) fr.fn es) (.go {frame:=fr2,callers:=cs++[D0],status:=.running,dying:=none} w1)= .go g1 w1_1 es_1/\
    IT (seen Q fr.fn es') (.go {frame:=aC σ fr2,callers:=cs.map (aC σ)++rest,status:=.running,dying:=none} w1')= .go g1' w1'_1 es'_1/\mQ σ rest g1 g1'/\uD Q D0 dt cl g1/\gR σ Ro D w w' w1_1 w1'_1 es'_1/\¬ Big (IT (seen (alt Q β) fr.fn es) (.go {frame:=fr2,callers:=cs++[D0],status:=.running,dying:=none} w1)).es):=λfr2 hk2 h2=>
    ⟨{frame:=fr2,callers:=cs++[D0],status:=.running,dying:=none},_,_,_,_,_,rfl,rfl,fO,gQ h2 hcs (cJ cs hk2 hbot),by rw[SC];omega,bh (aN hnb) av⟩
   have hfk:∀v,(fr.finish v).kind=fr.kind:=λv=>by grind [SD]
   cases n;case value v=>
    refine .inl ?_;have:=hto (fr.finish v) (hfk v) (hg.finish λo t h1 h2 h3=>by
     obtain⟨f,a,b,e,he⟩:=hf1 o t h1 h2 h3;cases e;exact⟨λfn a b e=>by cases e;exact⟨_,rfl,he⟩,by simp⟩)
    rw[gq hg.dC.1 hg.dC.2]at this;exact this
   case skip=>
    refine .inl ?_;have:=hto (fr.finish undef) (hfk _) (hg.finish λo t h1 h2 h3=>lT);rw[gq hg.dC.1 hg.dC.2,jl]at this;exact this
   case enter f args=>
    refine .inl ?_;have hj:β f=none:=by
     cases hb:β f with
     |none=>rfl
     |some c=>exact absurd ⟨f,args,w1,rfl,by rw[hb];rfl,hnb⟩ hfoul
    dsimp only[Ren.ren,qV];split
    .rename_i d r sv k heq;exact absurd heq (hg.dC.1 d true r sv k)
    refine⟨{frame:=Sw (alt Q β) f args .normal,callers:=fr::cs++[D0],status:=.running,dying:=none},_,_,{frame:=Sw Q f (args.map (ab σ)) .normal,callers:=(fr::cs).map (aC σ)++rest,status:=.running,dying:=none},_,_,rfl,rfl,?_,gQ (BA G hj h9 args (.inl rfl)) (λc hc=> ?_) ⟨λ_ o t h1 h2 h3=> ?_,hbot⟩,by rw[SC];exact h8,bh (aN hnb) av⟩
    .rw[<- uw A hj args .normal];exact fO
    .rcases T2.1 hc with rfl|hc
     .exact hg
     .exact hcs c hc
    .obtain⟨f,a,b,e,he⟩:=hf1 o t h1 h2 h3;cases e
   case defer d=>
    refine .inl ?_;have hd2:ck Q dt cl {fr with defers:=d::fr.defers,roundOf:=none}:=⟨rfl,hg.items,hg.regs,λx hx=>(by
     rcases T2.1 hx with rfl|hx
     .exact h9
     .exact hg.defs x hx),hg.kind,hg.init⟩
    have:=hto ({fr with defers:=d::fr.defers,roundOf:=none}.finish undef) (by unfold SD;split <;>rfl) (hd2.finish λo t h1 h2 h3=>lT);rw[gq hd2.dC.1 hd2.dC.2,jl]at this;exact this
   case comm c b sh=>
    refine .inr (.inl ⟨{frame:=fr,callers:=cs++[D0],status:=.running,dying:=none},_,_,_,_,_,{frame:=aC σ fr,callers:=cs.map (aC σ)++rest,status:=.running,dying:=none},_,_,rfl,rfl,h9,fO,gQ hg hcs hbot,λo t h1 h2 h3=> ?_,by rw[SC];exact h8,bh (aN hnb) av⟩);obtain⟨f,a,b,e,he⟩:=hf1 o t h1 h2 h3;cases e
   case recover=>
    refine .inl ?_;dsimp only;show∃g1 w1_1 es_1 g1' w1'_1 es'_1,IT _ (match tryRecover fr (cs++[D0])with |some (v,callers)=>_|none=>_)=_/\IT _ (match tryRecover (aC σ fr) (cs.map (aC σ)++rest)with |some (v,callers)=>_|none=>_)=_/\_;rw[xp hg hbot,vC hg hbot];cases hr:tryRecover fr cs with
    |none=>
     have:=hto (fr.finish .nilIface) (hfk _) (hg.finish λo t h1 h2 h3=>by
      obtain⟨f,a,b,e,he⟩:=hf1 o t h1 h2 h3;cases e)
     rw[gq hg.dC.1 hg.dC.2,db]at this;exact this
    |some x=>
     obtain⟨v,cs2⟩:=x;obtain⟨k1,k2⟩:=zc hcs hr hg.kind hbot;refine⟨{frame:=fr.finish v,callers:=cs2++[D0],status:=.running,dying:=none},_,_,{frame:=(aC σ fr).finish (ab σ v),callers:=cs2.map (aC σ)++rest,status:=.running,dying:=none},_,_,rfl,rfl,?_,gQ (hg.finish λo t h1 h2 h3=> ?_) k1 ?_,by rw[SC];exact h8,bh (aN hnb) av⟩
     .rw[<- gq hg.dC.1 hg.dC.2 v];exact fO
     .obtain⟨f,a,b,e,he⟩:=hf1 o t h1 h2 h3;cases e
     .exact cJ cs2 (hfk v) k2
   all_goals exact h9.elim
  .dsimp only at h1 h3;subst h1 h3;have h8:gR σ Ro D w w' w1 w1' (seen Q fr.fn es'):=(h0 w1 w1' rfl rfl h4 h5 h6).less (lr _ _ _);have hto:∀fr2:AS,fr2.kind=fr.kind->ck Q dt cl fr2->(∃g1 w1_1 es_1 g1' w1'_1 es'_1,IT (seen (alt Q β) fr.fn es) (.go {frame:=fr2,callers:=cs++[D0],status:=.running,dying:=none} w1)= .go g1 w1_1 es_1/\
    IT (seen Q fr.fn es') (.go {frame:=aC σ fr2,callers:=cs.map (aC σ)++rest,status:=.running,dying:=none} w1')= .go g1' w1'_1 es'_1/\mQ σ rest g1 g1'/\uD Q D0 dt cl g1/\gR σ Ro D w w' w1_1 w1'_1 es'_1/\¬ Big (IT (seen (alt Q β) fr.fn es) (.go {frame:=fr2,callers:=cs++[D0],status:=.running,dying:=none} w1)).es):=λfr2 hk2 h2=>
    ⟨{frame:=fr2,callers:=cs++[D0],status:=.running,dying:=none},_,_,_,_,_,rfl,rfl,fO,gQ h2 hcs (cJ cs hk2 hbot),by rw[SC];exact h8,bh (aN hnb) av⟩
   have hrk:∀vs,(fr.raise vs).kind=fr.kind:=λv=>by unfold T3;split <;>rfl
   have hplain:(∀v,h≠.panic v)->h≠.goexit->¬ Dead h->(∀g,h≠.unsupported (.initOrder g))->False:=λq1 q2 q3 q4=>by
    rcases hf h w1 es rfl with(⟨v,e⟩|e|e)|⟨g,e,_⟩
    .exact q1 v e
    .exact q2 e
    .exact q3 e
    .exact q4 g e
   cases h;case panic v=>
    refine .inl ?_;have:=hto (fr.raise [{v,recovered:=false}]) (hrk _) (hg.raise _);rw[j3]at this;exact this
   case goexit=>
    refine .inl ?_;have:=hto (fr.raise [goexitEntry]) (hrk _) (hg.raise _);rw[j3,SQ,sI]at this;exact this
   case exit c=>exact(hplain (by simp) (by simp) (by simp[Dead]) (by simp)).elim
   case throw m=>exact(hplain (by simp) (by simp) (by simp[Dead]) (by simp)).elim
   case fatal m=>exact(hplain (by simp) (by simp) (by simp[Dead]) (by simp)).elim
   case unsupported u=>
    cases u;case initOrder g=>exact(hni _ _ _ rfl _ rfl).elim
    all_goals exact absurd trivial h2
   all_goals exact absurd trivial h2
  .dsimp only at h1;subst h1;refine .inr (.inr (.inr (.inr ?_)));have hnw:∀r,¬ Big (P9 r es):=λr=>Hc hnb
   cases h;case blocked=>exact⟨.inl (by simp),bh (aN av) av⟩
   case waiting=>exact⟨.inl (by simp),bh (aN av) av⟩
   case stuck m=>exact⟨trivial,bh (aN hnb) av⟩
   case unsupported u=>
    cases u;case initOrder g=>exact h2.elim
    all_goals exact⟨trivial,bh (aN hnb) av⟩
   all_goals exact h2.elim
 .exact absurd hS hfoul
 .exact hS.2.1.elim
end
section
variable{Q:up}{β:Nat->Option Code}{σ:Nat->Nat}{Ro:Nat->Prop}{D:Known}{dt:bM}{cl:Bool}{D0:AS}{rest:List AS}
def fZ(Q:up)(fr:AS)(x:Tc):No:=if Nu Q x then fr.eval x else undef
theorem yQ(F:Fit Q σ)(fr x):fZ Q (aC σ fr) x=ab σ (fZ Q fr x):=by
 unfold fZ;split
 .rename_i h;refine Kk fr (λv hv=> ?_) λg hg=> ?_
  .subst hv;exact wh h σ
  .subst hg;exact F.low g (of_decide_eq_true h)
 simp
theorem CZ{f o}(h:mH Q dt cl f o=true):∀cs b,o.op≠.select cs b:=λcs b e=>by
 simp_all[mH,iu,ng]
theorem Bz{f o}(h:mH Q dt cl f o=true)(fr):IN fr.eval o=IN (fZ Q fr) o:=by
 refine execOp_congr o (CZ h) λx hx=> ?_
 unfold mH at h;obtain⟨i,hi,rfl⟩:=Array.mem_iff_getElem.1 hx;simp_all[fZ]
def IQ(Q:up)(D:Known)(fr:AS):Prop:=(∀v∈fr.tmps,jh D v/\qC D v)/\∀g,g<=Q.globals.size->D g
theorem AN{v}(h:qt v=true):jh D v/\qC D v:=by
 refine⟨λa e=> ?_,λa l c e=> ?_⟩
 .subst e;cases h
 .subst e;cases h
theorem uv{fr}(hK:IQ Q D fr)(x):jh D (fZ Q fr x)/\qC D (fZ Q fr x):=by
 have hu:jh D undef/\qC D undef:=⟨λa e=>by simp[undef]at e,λa l c e=>by simp[undef]at e⟩;unfold fZ;split
 .rename_i h;cases x with
  |tmp t=>
   simp[SU];cases ht:fr.tmps[t]? with
   |none=>exact hu
   |some v=>exact hK.1 v (Array.mem_of_getElem? ht)
  |const v=>exact AN h
  |global g=>exact⟨λa e=>by simp[SU]at e;subst e;exact hK.2 g (of_decide_eq_true h),λa l c e=>by simp[SU]at e⟩
  |func f=>exact⟨λa e=>by simp[SU]at e,λa l c e=>by simp[SU]at e⟩
 omega
structure Env(Q:up)(β:Nat->Option Code)(σ:Nat->Nat)(dt:bM)(cl:Bool):Prop where
 apt:lf Q β
 nf:G3 Q β
 prog:th Q β dt cl
 fit:Fit Q σ
 tame:bz (alt Q β)
theorem wE{P ρ o h}{a b}(ho:o.op= .makeFunc (.func h) a b)(hd:dt.all (·.1 !=h)=true):YP P (λn=>∃fn a b,n= .value (.func (.func fn) a b)/\dt.all (·.1 !=fn)=true) (IN ρ o):=by
 simp only[IN,ho];exact bY ⟨_,_,_,rfl,hd⟩
theorem wM{fr cs w w'}(hg:ck Q dt cl fr)(hcs:∀c∈cs,ck Q dt cl c)(hbot:ej dt fr cs)(hw:eo σ Ro D w w')(hR:pz Ro w):
 eh Q β σ Ro D dt cl D0 rest w w' (.go {frame:=fr,callers:=cs++[D0],status:=.running,dying:=none} w) (.go {frame:=aC σ fr,callers:=cs.map (aC σ)++rest,status:=.running,dying:=none} w'):=
 .inl ⟨{frame:=fr,callers:=cs++[D0],status:=.running,dying:=none},_,_,_,_,_,rfl,rfl,fO,gQ hg hcs hbot,gR.refl hw hR,av⟩
theorem lx{x x' w w'}(h:tP D0 x)(hb:x.es=#[]):eh Q β σ Ro D dt cl D0 rest w w' x x':=.inr (.inr (.inr (.inr ⟨h,av⟩)))
theorem yx(P)(fn id:Nat)(w):(choose (.order fn id)).run P w= .ok (w.tape w.drawn (.order fn id)) {w with drawn:=w.drawn+1}:=by
 simp[Sem.run,Question.forced,Question.cut]
theorem Ik{w w'}(hw:eo σ Ro D w w')(hR:pz Ro w):gR σ Ro D w w' {w with drawn:=w.drawn+1} {w' with drawn:=w'.drawn+1} #[]:=
 ⟨⟨hw.inj,hw.tape,by rw[hw.drawn],hw.ro,hw.blk,hw.num,hw.os⟩,rfl,AI _,hR,λb _ h=>absurd rfl h,λe he=>by simp at he,rfl,λi o h=>.inr (.inr h)⟩
theorem HV(A:lf Q β){ρ}(hf:∀f,ρ (.func f)= .func (.func f) #[] #[]){o c g}{code fn}(ho:o.op= .call c)(hk:c.callee= .value (.func g))(hb:β g=some code)(hfn:Q.funcs[g]?=some fn)(w):
 tQ β ((IN ρ o).runT (alt Q β) w #[]):=by
 have e:(IN ρ o).runT (alt Q β) w #[]=(Sv g (#[]++c.args.map ρ++ #[])).runT (alt Q β) w #[]:=by
  unfold IN;rw[ho];simp only[resolve,hk,hf];rfl
 rw[e];have e2:∀args,(do
  match(<- program).funcs[g]? with
  |none=>stuck "call: no such function"
  |some fn=>
   if fn.name== "runtime.NumGoroutine" then pure .numGoroutine
   else if fn.body.isNone then
    mark (.extern g)
    if let some e:=Te fn then return<- e args
    match T7 fn with
    |some e=>pure (.value (<- e args))
    |none=>
     if fn.name.endsWith ".init" && !fn.name.startsWith "(" && !fn.name.startsWith "gosem." then pure (.value (.tuple #[]))
     else unsupported (.extern fn.name)
   else pure (.enter g args):Sem Next).runT (alt Q β) w #[]=(.ok (.enter g args) w,#[]):=λargs=>by
  show(match(alt Q β).funcs[g]? with
   |none=>stuck "call: no such function"
   |some fn=>_:Sem Next).runT (alt Q β) w #[]=_
  simp only[ft,hfn,x5,j5,A.num g fn hfn,if_neg BY];have e:(ax β g fn).body.isNone=false:=by simp[ax,hb]
  simp[e,if_neg BY]
 exact⟨g,_,w,congrArg Prod.fst (e2 _),by simp[hb],av⟩
theorem JK(E:Env Q β σ dt cl){fr cs w w'}(hg:ck Q dt cl fr)(hcs:∀c∈cs,ck Q dt cl c)(hbot:ej dt fr cs)(hK:IQ Q D fr)(hH:an w)
 (hw:eo σ Ro D w w') (hD:Dom D w) (hR:pz Ro w) (hF:g6 σ w w' (stepW (stepG.oper (alt Q β) true fr (cs++[D0]) none w)).heap.size):
 eh Q β σ Ro D dt cl D0 rest w w' (stepG.oper (alt Q β) true fr (cs++[D0]) none w) (stepG.oper Q true (aC σ fr) (cs.map (aC σ)++rest) none w'):=by
 unfold stepG.oper at hF ⊢;rw[JL];cases ho:fr.oper? with
 |none=>exact lx trivial rfl
 |some o=>
  rw[ho]at hF;dsimp only at hF ⊢;have hop:mH Q dt cl fr.fn o=true:=by
   unfold Frame.oper? at ho;split at ho
   .rename_i ops i is k heq;exact hg.items (.inRegion ops (i::is)) (by rw[heq];simp) i (.head _) o ho
   grind
  have hsim:iu Q dt cl fr.fn o=true:=by
   simp_all[OF,mH,hop]
  have hround:(aC σ fr).roundOf=none:=hg.round;have key:stepG.apply (alt Q β) true fr (cs++[D0]) none (IN fr.eval o) w=stepG.apply (alt Q β) true fr (cs++[D0]) none (IN (fZ Q fr) o) w:=by rw[Bz hop]
  have key':stepG.apply Q true (aC σ fr) (cs.map (aC σ)++rest) none (IN (aC σ fr).eval o) w'=stepG.apply Q true (aC σ fr) (cs.map (aC σ)++rest) none (IN (fZ Q (aC σ fr)) o) w':=by rw[Bz hop]
  have hρ:∀x,fZ Q (aC σ fr) x=ab σ (fZ Q fr x):=yQ E.fit fr;have hf:∀fr:AS,∀f,fZ Q fr (.func f)= .func (.func f) #[] #[]:=λfr f=>rfl
  have hreg:∀t,(fr.fn,t)∈dt->rD dt (fZ Q fr (.tmp t)):=λt ht=>hg.regs t ht
  have hmain:eh Q β σ Ro D dt cl D0 rest w w' (stepG.apply (alt Q β) true fr (cs++[D0]) none (IN (fZ Q fr) o) w) (stepG.apply Q true (aC σ fr) (cs.map (aC σ)++rest) none (IN (fZ Q (aC σ fr)) o) w'):=by
   have hF2:g6 σ w w' (stepW (stepG.apply (alt Q β) true fr (cs++[D0]) none (IN (fZ Q fr) o) w)).heap.size:=by
    rw[<- key];rw[hg.round]at hF;omega
   refine IC E.apt E.prog hg hcs hbot (LQ E.apt E.fit hρ ⟨rfl,rfl⟩ (hf fr) (λx=>(uv hK x).1) (λx=>(uv hK x).2) hsim) (Mf E.apt (hf fr) (λt ht=>(hreg t ht).1) (λt ht=>(hreg t ht).2) hsim) ?_ ?_ ?_ hw hD hR hF2
   .exact(He (P:=alt Q β) (λt=>rfl) (hf fr) hsim λg c _ _ args=>ww E.apt E.nf g args).nf
   .intro hfoul;refine(He (P:=Q) (λt=>rfl) (hf _) hsim λg c hc hk args=> ?_).nf;cases hb:β g with
    |none=>exact uq E.apt E.nf g hb args
    |some code=>
     cases hfn:Q.funcs[g]? with
     |none=>
      refine⟨?_⟩;show bE Q (match Q.funcs[g]? with |none=>_|some fn=>_);rw[hfn];exact .inr (.inr trivial)
     |some fn=>exact absurd (HV E.apt (hf fr) hc hk hb hfn w) hfoul
   .intro o' t h1 h2 h3;rw[ho]at h1;cases h1;have h4:=hsim;unfold iu at h4;rw[OF]at h4;have h5:=h4.2;rw[h2]at h5;dsimp only at h5;have h6:dt.contains (fr.fn,t)=true:=by grind
    rw[h6]at h5;cases h0:o.op;case makeFunc fn a b=>
     rw[h0]at h5;cases fn;case func h=>exact wE h0 (by simpa using h5)
     all_goals(simp at h5)
    all_goals(rw[h0]at h5;simp at h5)
  simp_all
end
section
variable{Q:up}{β:Nat->Option Code}{σ:Nat->Nat}{Ro:Nat->Prop}{D:Known}{dt:bM}{cl:Bool}{D0:AS}{rest:List AS}
theorem Kh(E:Env Q β σ dt cl){fr cs w w'}(m m')(hg:ck Q dt cl fr)(hcs:∀c∈cs,ck Q dt cl c)(hbot:ej dt fr cs)(hK:IQ Q D fr)(hH:an w)
 (hw:eo σ Ro D w w') (hD:Dom D w) (hR:pz Ro w) (hF:g6 σ w w' (stepW (stepG.exec (alt Q β) m true fr (cs++[D0]) none w)).heap.size):
 eh Q β σ Ro D dt cl D0 rest w w' (stepG.exec (alt Q β) m true fr (cs++[D0]) none w) (stepG.exec Q m' true (aC σ fr) (cs.map (aC σ)++rest) none w'):=by
 obtain⟨fn,tmps,todo,defers,mode,kind,roundOf⟩:=fr;obtain rfl:roundOf=none:=hg.round;have hto:∀t:List Item,(∀i∈t,gW Q dt cl fn i)->eh Q β σ Ro D dt cl D0 rest w w' (.go {frame:=({fn,tmps,todo:=t,defers,mode,kind,roundOf:=none}:AS),callers:=cs++[D0],status:=.running,dying:=none} w) (.go {frame:=aC σ {fn,tmps,todo:=t,defers,mode,kind,roundOf:=none},callers:=cs.map (aC σ)++rest,status:=.running,dying:=none} w'):=λt ht=>
  wM (hg.todo ht) hcs (cJ (fr:= {fn,tmps,todo,defers,mode,kind,roundOf:=none}) cs rfl hbot) hw hR
 have hret:eh Q β σ Ro D dt cl D0 rest w w' (.go {frame:=({fn,tmps,todo,defers,mode:=.returning,kind,roundOf:=none}:AS),callers:=cs++[D0],status:=.running,dying:=none} w) (.go {frame:=aC σ {fn,tmps,todo,defers,mode:=.returning,kind,roundOf:=none},callers:=cs.map (aC σ)++rest,status:=.running,dying:=none} w'):=
  wM (hg.mode .returning) hcs (cJ (fr:= {fn,tmps,todo,defers,mode,kind,roundOf:=none}) cs rfl hbot) hw hR
 have hitem:∀it k,todo=it::k->gW Q dt cl fn it/\∀i∈k,gW Q dt cl fn i:=λit k h=>by
  subst h;exact⟨hg.items it (.head _),λi hi=>hg.items i (.tail _ hi)⟩
 have hcons:∀(i:Item)(k:List Item),gW Q dt cl fn i->(∀i∈k,gW Q dt cl fn i)->∀j∈i::k,gW Q dt cl fn j:=λi k h1 h2 j hj=>by
  grind
 unfold stepG.exec at hF ⊢;dsimp only[sJ,sK]at hF ⊢;cases todo with
 |nil=>exact hret
 |cons it k=>
  obtain⟨hi,hk⟩:=hitem it k rfl;cases it with
  |code c=>
   cases c with
   |ret=>exact hret
   |skip=>exact hto k hk
   |label l=>exact hto k hk
   |seq a b=>
    have hi:codeOk Q dt cl fn (.seq a b)=true:=hi;unfold codeOk at hi;rw[OF]at hi;exact hto _ (hcons _ _ hi.1 (hcons _ _ hi.2 hk))
   |cond c a b=>
    have hi:codeOk Q dt cl fn (.cond c a b)=true:=hi;unfold codeOk at hi;rw[OF,OF]at hi;have he:(aC σ ({fn:=fn,tmps:=tmps,todo:=.code (.cond c a b)::k,defers:=defers,mode:=mode,kind:=kind,roundOf:=none}:AS)).eval c=ab σ (({fn:=fn,tmps:=tmps,todo:=.code (.cond c a b)::k,defers:=defers,mode:=mode,kind:=kind,roundOf:=none}:AS).eval c):=by
     have:=yQ E.fit ({fn:=fn,tmps:=tmps,todo:=.code (.cond c a b)::k,defers:=defers,mode:=mode,kind:=kind,roundOf:=none}:AS) c;simp_all[if_pos,fZ,this]
    dsimp only;rw[he];cases({fn:=fn,tmps:=tmps,todo:=.code (.cond c a b)::k,defers:=defers,mode:=mode,kind:=kind,roundOf:=none}:AS).eval c;case bool v=>
     rw[fK];cases v
     .exact hto _ (hcons _ _ hi.2.2 hk)
     .exact hto _ (hcons _ _ hi.2.1 hk)
    all_goals exact lx trivial rfl
   |block id body=>exact hto _ (hcons _ _ hi (hcons _ _ trivial hk))
   |loop body=>exact hto _ (hcons _ _ hi (hcons _ _ hi hk))
   |scope body=>exact hto _ (hcons _ _ hi (hcons _ _ hi hk))
   |exit id=>
    dsimp only;cases he:exitTo id k with
    |some t=>exact hto t (q6 id k t hk he)
    |none=>
     exact lx trivial rfl
   |goto l=>
    dsimp only;cases he:gotoIn l k with
    |some t=>exact hto t (q5 l k t hk he)
    |none=>
     exact lx trivial rfl
   |rangeFunc f params a b=>
    have hi:codeOk Q dt cl fn (.rangeFunc f params a b)=true:=hi;cases hi
   |refuse why=>exact lx trivial rfl
   |region id ops draw=>
    have hi:ops.all (mH Q dt cl fn ·)=true:=hi;dsimp only;cases draw with
    |false=>exact hto _ (hcons _ _ (pX hi _) hk)
    |true=>
     simp only[Bool.not_true,If,if_false];rw[yx,yx];dsimp only;have e:w'.tape w'.drawn (.order fn id)=w.tape w.drawn (.order fn id):=by rw[hw.tape,hw.drawn]
     have e2:w'.tape w'.drawn (.order (aC σ {fn,tmps,todo:=.code (.region id ops true)::k,defers,mode,kind,roundOf:=none}).fn id)=w.tape w.drawn (.order fn id):=e;rw[e2];have:=Ik hw hR;exact .inl ⟨{frame:= {fn,tmps,todo:=_,defers,mode,kind,roundOf:=none},callers:=cs++[D0],status:=.running,dying:=none},_,_,_,_,_,rfl,rfl,fO,gQ (hg.todo (hcons _ _ (pX hi _) hk)) hcs (cJ (fr:= {fn,tmps,todo:=.code (.region id ops true)::k,defers,mode,kind,roundOf:=none}) cs rfl hbot),this,av⟩
  |inBlock id=>exact hto k hk
  |inScope c=>exact hto k hk
  |inLoop body=>exact hto _ (hcons _ _ hi (hcons _ _ hi hk))
  |inRegion ops todo=>
   cases todo with
   |nil=>exact hto k hk
   |cons i is=>
    dsimp only at hF ⊢;have h0:((ops[i]?.map (T8 · (yielded ops (aC σ {fn,tmps,todo:=.inRegion ops (i::is)::k,defers,mode,kind,roundOf:=none}).tmps))).getD false)=((ops[i]?.map (T8 · (yielded ops tmps))).getD false):=by
     have:yielded ops (aC σ {fn,tmps,todo:=.inRegion ops (i::is)::k,defers,mode,kind,roundOf:=none}).tmps=yielded ops tmps:=funext λj=>Cc ops tmps j
     rw[this]
    by_cases hb:(ops[i]?.map (T8 · (yielded ops tmps))).getD false=true
    .have hb':=h0.trans hb;rw[if_pos hb]at hF;rw[if_pos hb,if_pos hb'];exact JK E hg hcs hbot hK hH hw hD hR hF
    .have hb':¬ (ops[i]?.map (T8 · (yielded ops (aC σ {fn,tmps,todo:=.inRegion ops (i::is)::k,defers,mode,kind,roundOf:=none}).tmps))).getD false=true:=λh=>hb (h0.symm.trans h)
     rw[if_neg hb,if_neg hb'];have:=wM (D0:=D0) (Q:=Q) (β:=β) (σ:=σ) (Ro:=Ro) (D:=D) (rest:=rest) (fr:=SD {fn:=fn,tmps:=tmps,todo:=.inRegion ops (i::is)::k,defers:=defers,mode:=mode,kind:=kind,roundOf:=none} undef) (cs:=cs) (w:=w) (w':=w') (hg.finish λo t h1 h2 h3=>lT) hcs (cJ cs (by unfold SD;rfl) hbot) hw hR;rw[gq hg.dC.1 hg.dC.2,jl]at this;exact this
  |inRangeFunc l=>exact hi.elim
  |endRangeFunc l=>exact hi.elim
  |beginRound=>exact hi.elim
  |call d a b c=>exact hi.elim
  |extern r a=>exact hi.elim
end
section
variable{Q:up}{β:Nat->Option Code}{σ:Nat->Nat}{Ro:Nat->Prop}{D:Known}{dt:bM}{cl:Bool}{D0:AS}{rest:List AS}
def AtClose(g:SI):Prop:=(∀h:g.frame.mode= .run,False)/\∃d ds a t c r,g.frame.defers=d::ds/\d.target= .builtin .close a t c/\d.args=#[.chan (some r)]
theorem Cv(F:Fit Q σ)(fn tmps):au Q β σ Ro D (results fn tmps) (results fn (tmps.map (ab σ))):=by
 have hget:∀t,(tmps.map (ab σ)).getD t undef=ab σ (tmps.getD t undef):=λt=>by
  simp[SX];cases tmps[t]? <;>simp
 refine am (α:=Array No) (Ak (λx=> ?_) fn.results) λvs=>ae ?_
 .cases x with
  |tmp t=>
   simp[hget];exact ae rfl
  |cell a t=>
   simp[hget];exact am (EL F _) λx=>ui t x
 .by_cases h:vs.size=1
  .simp[dif_pos h,Ren.ren]
  simp_all[Ren.ren]
theorem wv{P}(fn tmps):Nf P (results fn tmps):=by
 refine @dl _ _ _ _ _ (@Mk _ _ _ _ (λx=> ?_) _) λvs=>fQ
 cases x with
 |tmp t=>exact fQ
 |cell a t=>exact @dl _ _ _ _ _ zq2 λx=>zq2
theorem CQ(f fn tmps):results (ax β f fn) tmps=results fn tmps:=by
 grind [results,ax]
theorem rU:∀l:List PanicEntry,(l.map (jn σ)).dropWhile (!·.goexit)=(l.dropWhile (!·.goexit)).map (jn σ)
 |[]=>rfl
 |x::l=>by
  rw[SQ,List.dropWhile_cons,List.dropWhile_cons];have:(jn σ x).goexit=x.goexit:=rfl;rw[this];split
  .exact rU l
  rfl
theorem sZ(h4:C9 D0){fr cs w w' w1 w1' es es'}(m m')(hg:ck Q dt cl fr)(hcs:∀c∈cs,ck Q dt cl c)(hbot:ej dt fr cs)(v)(hW:gR σ Ro D w w' w1 w1' es')(hb:¬ Big es):
 eh Q β σ Ro D dt cl D0 rest w w' (IT es (doReturn (alt Q β) m fr (cs++[D0]) none v w1)) (IT es' (doReturn Q m' (aC σ fr) (cs.map (aC σ)++rest) none (ab σ v) w1')):=by
 cases cs with
 |nil=>
  have hk:fr.kind= .normal:=hbot;refine .inr (.inr (.inr (.inr ?_)));unfold doReturn;dsimp only;rw[U2,hk];dsimp only;have hfin:D0.finish v=D0:=by
   obtain⟨why,h⟩:=h4.todo;simp_all[SD]
  rw[hfin];exact⟨.inr ⟨rfl,rfl,rfl,.inl rfl⟩,bh hb av⟩
 |cons c cs=>
  have hc:=hcs c (.head _);have h0:∀x∈cs,ck Q dt cl x:=λx hx=>hcs x (.tail _ hx)
  have hto:∀fr2:AS,fr2.kind=c.kind->ck Q dt cl fr2->eh Q β σ Ro D dt cl D0 rest w w' (IT es (.go {frame:=fr2,callers:=cs++[D0],status:=.running,dying:=none} w1)) (IT es' (.go {frame:=aC σ fr2,callers:=cs.map (aC σ)++rest,status:=.running,dying:=none} w1')):=λfr2 hk2 h2=>
   .inl ⟨{frame:=fr2,callers:=cs++[D0],status:=.running,dying:=none},_,_,_,_,_,rfl,rfl,fO,gQ h2 h0 (cJ cs hk2 hbot.2),by rw[SC];omega,bh hb av⟩
  rw[SQ,SY,SY];unfold doReturn;dsimp only;rw[oS];rcases hg.kind with hk|hk
  .rw[hk];have:=hto (c.finish v) (by unfold SD;split <;>rfl) (hc.finish λo t h1 h2 h3=>absurd h3 (hbot.1 hk o t h1 h2));rw[gq hc.dC.1 hc.dC.2]at this;exact this
  .rw[hk];dsimp only;rw[fL];cases hm:c.mode with
   |run=>exact hto c rfl hc
   |returning=>exact hto c rfl hc
   |panicking chain=>
    cases chain with
    |nil=>exact hto c rfl hc
    |cons e older=>
     obtain⟨ev,er,eg⟩:=e;cases er with
     |false=>exact hto c rfl hc
     |true=>
      have e1:oa σ (.panicking (⟨ev,true,eg⟩::older))= .panicking (⟨ab σ ev,true,eg⟩::older.map (jn σ)):=rfl;rw[e1];dsimp only;rw[rU];cases hd:older.dropWhile (!·.goexit)with
      |nil=>exact hto {c with mode:=.returning} rfl (hc.mode _)
      |cons x l=>exact hto {c with mode:=.panicking (x::l)} rfl (hc.mode _)
theorem s7(A:lf Q β)(f args):YP (alt Q β) (λn=>(∃v,n= .value v)\/n= .enter f args) (Sv f args):=by
 unfold Sv;refine vv ?_;rw[ft];cases hf:Q.funcs[f]? with
 |none=>exact fi
 |some fn=>
  dsimp only[x5];rw[j5,A.num f fn hf,if_neg BY];cases hb:β f with
  |some c=>
   have e:(ax β f fn).body.isNone=false:=by unfold ax;rw[hb];rfl
   rw[e,if_neg BY];exact bY (.inr rfl)
  |none=>
   have e:ax β f fn=fn:=by unfold ax;rw[hb]
   rw[e];cases hn:fn.body.isNone with
   |false=>
    exact bY (.inr rfl)
   |true=>
    obtain⟨h1,ex,h2,h3⟩:=A.lib f fn hf hb hn;rw[h1,h2];exact cN λ_=>cN λv=>bY (.inl ⟨v,rfl⟩)
section
variable{P:up}{fr:AS}{cs:List AS}{f:Nat}{args cap:Array No}{w w1:By}{es:Array SE}{D0:AS}
theorem vj{v}(h:(Sv f (args++cap)).runT P w #[]=(.ok (.value v) w1,es)):IS P fr cs none ⟨.fn (.func f) cap,args⟩ w=IT (seen P fr.fn es) (.go {frame:=fr,callers:=cs,status:=.running,dying:=none} w1):=by
 have e:(invoke (.fn (.func f) cap) args).runT P w #[]=(.ok (.value v) w1,es):=h;simp_all[IS]
theorem oD{g:Nat}{a}(h:(Sv f (args++cap)).runT P w #[]=(.ok (.enter g a) w1,es)):IS P fr cs none ⟨.fn (.func f) cap,args⟩ w=IT (seen P fr.fn es) (.go {frame:=Sw P g a .deferred,callers:=fr::cs,status:=.running,dying:=none} w1):=by
 have e:(invoke (.fn (.func f) cap) args).runT P w #[]=(.ok (.enter g a) w1,es):=h;simp_all[IS]
theorem vk{v}(h:(Sv f (args++cap)).runT P w #[]=(.halt (.panic v) w1,es)):IS P fr cs none ⟨.fn (.func f) cap,args⟩ w=IT (seen P fr.fn es) (.go {frame:=fr.raise [{v,recovered:=false}],callers:=cs,status:=.running,dying:=none} w1):=by
 have e:(invoke (.fn (.func f) cap) args).runT P w #[]=(.halt (.panic v) w1,es):=h;simp_all[IS]
theorem tb(h:(Sv f (args++cap)).runT P w #[]=(.halt .goexit w1,es)):IS P fr cs none ⟨.fn (.func f) cap,args⟩ w=IT (seen P fr.fn es) (.go {frame:=fr.raise [goexitEntry],callers:=cs,status:=.running,dying:=none} w1):=by
 have e:(invoke (.fn (.func f) cap) args).runT P w #[]=(.halt .goexit w1,es):=h;simp_all[IS]
theorem MJ{h}(hr:(Sv f (args++cap)).runT P w #[]=(.halt h w1,es))(h1:Dead h)(hb:¬ Big es\/h= .blocked\/h= .waiting):tP D0 (IS P fr cs none ⟨.fn (.func f) cap,args⟩ w)/\¬ Big (IS P fr cs none ⟨.fn (.func f) cap,args⟩ w).es:=by
 have e:(invoke (.fn (.func f) cap) args).runT P w #[]=(.halt h w1,es):=hr;simp only[IS,TD,If,if_false,e];have hb2:h≠.blocked/\h≠.waiting->¬ Big es:=λhh=>by
  grind
 cases h;case blocked=>exact⟨.inl (by simp),bh (aN av) av⟩
 case waiting=>exact⟨.inl (by simp),bh (aN av) av⟩
 case stuck m=>exact⟨trivial,bh (aN (hb2 ⟨by simp,by simp⟩)) av⟩
 case unsupported u=>exact⟨trivial,bh (aN (hb2 ⟨by simp,by simp⟩)) av⟩
 all_goals exact h1.elim
end
theorem MI{P fr cs}{f:Nat}{args cap w w1 es r}(hr:(Sv f (args++cap)).runT P w #[]=(r,es))(hy:∃h,r= .halt h w1):w1.heap.size<=(stepW (IS P fr cs none ⟨.fn (.func f) cap,args⟩ w)).heap.size:=by
 obtain⟨h,rfl⟩:=hy;have e:(invoke (.fn (.func f) cap) args).runT P w #[]=(.halt h w1,es):=hr;simp only[IS,TD,If,if_false,e,fJ];cases h;case fatal m=>exact(qx P fr cs m w1).1
 all_goals exact AI _
theorem NT(E:Env Q β σ dt cl){fr cs w w' f args cap}(hg:ck Q dt cl fr)(hcs:∀c∈cs,ck Q dt cl c)(hbot:ej dt fr cs)(hH:an w)
 (hdf:dt.all (·.1 !=f)=true) (hw:eo σ Ro D w w') (hD:Dom D w) (hR:pz Ro w) (hF:g6 σ w w' (stepW (IS (alt Q β) fr (cs++[D0]) none ⟨.fn (.func f) cap,args⟩ w)).heap.size):
 eh Q β σ Ro D dt cl D0 rest w w' (IS (alt Q β) fr (cs++[D0]) none ⟨.fn (.func f) cap,args⟩ w) (IS Q (aC σ fr) (cs.map (aC σ)++rest) none ⟨.fn (.func f) (cap.map (ab σ)),args.map (ab σ)⟩ w'):=by
 have hs:=rN (Ro:=Ro) (D:=D) (cl:=cl) E.apt E.fit f (args++cap);have hy:=s7 E.apt f (args++cap) w #[];have hn:=(ww E.apt E.nf f (args++cap)).nf;rw[T1]at hs;by_cases hfoul:tQ β ((Sv f (args++cap)).runT (alt Q β) w #[])
 .obtain⟨g,a,w1,h1,h2,h8⟩:=hfoul;refine .inr (.inr (.inl ?_));cases hx:(Sv f (args++cap)).runT (alt Q β) w #[]with
  |mk r es=>
   rw[hx]at h1 h8;dsimp only at h1 h8;subst h1;rw[oD hx];exact⟨_,_,_,rfl,⟨g,a,.deferred,rfl,h2,rfl,λd hd=>by cases hd⟩,bh (aN h8) av⟩
 have hn':bE Q (Sv f (args.map (ab σ)++cap.map (ab σ))):=by
  cases hb:β f with
  |none=>exact(uq E.apt E.nf f hb _).nf
  |some code=>
   cases hfn:Q.funcs[f]? with
   |none=>
    show bE Q (match Q.funcs[f]? with |none=>_|some fn=>_);rw[hfn];exact .inr (.inr trivial)
   |some fn=>
    exfalso;apply hfoul;have e2:∀args,(Sv f args).runT (alt Q β) w #[]=(.ok (.enter f args) w,#[]):=λargs=>by
     unfold Sv;rw[aM];show(match(alt Q β).funcs[f]? with
      |none=>stuck "call: no such function"
      |some fn=>_:Sem Next).runT (alt Q β) w #[]=_
     rw[ft,hfn];dsimp only[x5];rw[j5,E.apt.num f fn hfn,if_neg BY];have e:(ax β f fn).body.isNone=false:=by unfold ax;rw[hb];rfl
     rw[e,if_neg BY];rfl
    exact⟨f,_,w,congrArg Prod.fst (e2 _),by rw[hb];rfl,av⟩
 have hto:∀(es es':Array SE)(w1 w1':By)(fr2:AS),fr2.kind=fr.kind->ck Q dt cl fr2->gR σ Ro D w w' w1 w1' es'->¬ Big es->eh Q β σ Ro D dt cl D0 rest w w' (IT (seen (alt Q β) fr.fn es) (.go {frame:=fr2,callers:=cs++[D0],status:=.running,dying:=none} w1)) (IT (seen Q fr.fn es') (.go {frame:=aC σ fr2,callers:=cs.map (aC σ)++rest,status:=.running,dying:=none} w1')):=λes es' w1 w1' fr2 hk2 h2 hW hnb=>
  .inl ⟨{frame:=fr2,callers:=cs++[D0],status:=.running,dying:=none},_,_,_,_,_,rfl,rfl,fO,gQ h2 hcs (cJ cs hk2 hbot),by rw[SC];exact hW.less (lr _ _ _),bh (aN hnb) av⟩
 cases hx:(Sv f (args++cap)).runT (alt Q β) w #[]with
 |mk r es=>
 cases hx':(Sv f (args.map (ab σ)++cap.map (ab σ))).runT Q w' #[]with
 |mk r' es'=>
 have h7:=λ(w1 w1':By)=>tw (σ:=σ) (Ro:=Ro) (D:=D) hn hn' (w:=w) (w':=w') (w1:=w1) (w1':=w1') hR
 rw[hx,hx']at h7;have hsim:g6 σ w w' (dh r).heap.size->Ca σ Ro D w w' (r,es) (r',es')\/tQ β (r,es)\/cl=false/\Big es/\Big es'/\C4 r':=λh=>by
  have:=hs w w' #[] #[] hw hD av tB (by rw[hx];omega);rw[hx,hx']at this;omega
 rw[hx]at hfoul hy;have hbig:cl=false->Big es->Big es'->C4 r'->eh Q β σ Ro D dt cl D0 rest w w' (IS (alt Q β) fr (cs++[D0]) none ⟨.fn (.func f) cap,args⟩ w) (IS Q (aC σ fr) (cs.map (aC σ)++rest) none ⟨.fn (.func f) (cap.map (ab σ)),args.map (ab σ)⟩ w'):=λ_ k1 _ _=>k1.elim
 cases r with
 |ok n w1=>
  rcases hy n w1 es rfl with⟨v,rfl⟩|rfl
  .rw[vj hx,fJ]at hF;rcases hsim hF with⟨hnb,hS⟩|h|⟨hcl,k1,k2,k3⟩
   .rcases hS with⟨n,v1,v1',h1,h2,h3,h4,h5⟩|⟨h,v1,v1',h1,_⟩|⟨h,v1,h1,_⟩
    .dsimp only at h1 h2;cases h1;subst h2;rw[vj hx,vj hx'];exact hto es es' w1 v1' fr rfl hg (h7 w1 v1' rfl rfl h3 h4 h5) hnb
    .cases h1
    grind
   .exact absurd h hfoul
   grind
  .rw[oD hx,fJ]at hF;rcases hsim hF with⟨hnb,hS⟩|h|⟨hcl,k1,k2,k3⟩
   .rcases hS with⟨n,v1,v1',h1,h2,h3,h4,h5⟩|⟨h,v1,v1',h1,_⟩|⟨h,v1,h1,_⟩
    .dsimp only at h1 h2;cases h1;subst h2;rw[oD hx,oD hx'];have ha:β f=none:=by
      cases hb:β f with
      |none=>rfl
      |some c=>exact absurd ⟨f,_,w1,rfl,by rw[hb];rfl,hnb⟩ hfoul
     refine .inl ⟨{frame:=Sw (alt Q β) f (args++cap) .deferred,callers:=fr::cs++[D0],status:=.running,dying:=none},_,_,{frame:=Sw Q f ((args++cap).map (ab σ)) .deferred,callers:=(fr::cs).map (aC σ)++rest,status:=.running,dying:=none},_,_,rfl,rfl,?_,gQ (BA E.prog ha hdf _ (.inr rfl)) (λc hc=> ?_) ⟨λhk=>(by cases hk),hbot⟩,by rw[SC];exact(h7 w1 v1' rfl rfl h3 h4 h5).less (lr _ _ _),bh (aN hnb) av⟩
     .rw[<- uw E.apt ha _ .deferred];exact fO
     .rcases T2.1 hc with rfl|hc
      .exact hg
      .exact hcs c hc
    .cases h1
    .cases h1
   .exact absurd h hfoul
   .exact hbig hcl k1 k2 k3
 |halt h w1=>
  by_cases hp:(∃v,h= .panic v)\/h= .goexit
  .have hF2:g6 σ w w' w1.heap.size:=by
    rcases hp with⟨v,rfl⟩|rfl
    .rw[vk hx,fJ]at hF;exact hF
    .rw[tb hx,fJ]at hF;exact hF
   have hrk:∀vs,(fr.raise vs).kind=fr.kind:=λv=>by unfold T3;split <;>rfl
   rcases hsim hF2 with⟨hnb,hS⟩|hh|⟨hcl,k1,k2,k3⟩
   .rcases hS with⟨n,v1,v1',h1,_⟩|⟨h0,v1,v1',h1,h2,h3,h4,h5,h6⟩|⟨h0,v1,h1,h2⟩
    .cases h1
    .dsimp only at h1 h3;cases h1;subst h3;have hW:=h7 w1 v1' rfl rfl h4 h5 h6;rcases hp with⟨v,rfl⟩|rfl
     .rw[vk hx,vk (by rw[hx'];rfl)];have:=hto es es' w1 v1' (fr.raise [{v,recovered:=false}]) (hrk _) (hg.raise _) hW hnb;rw[j3]at this;exact this
     .rw[tb hx,tb (by rw[hx'];rfl)];have:=hto es es' w1 v1' (fr.raise [goexitEntry]) (hrk _) (hg.raise _) hW hnb;rw[j3,SQ,sI]at this;exact this
    .dsimp only at h1;cases h1;rcases hp with⟨v,rfl⟩|rfl<;>exact h2.elim
   .exact absurd hh hfoul
   .exact hbig hcl k1 k2 k3
  .have h9:Dead h:=by
    rcases sG _ _ hn w #[] h w1 es hx with(⟨v,e⟩|e|e)|⟨g,e,_⟩
    .exact absurd (.inl ⟨v,e⟩) hp
    .exact absurd (.inr e) hp
    .exact e
    .exfalso;subst e;exact DM hn (λi c t hi=>hw.blk i _ hi) hx
   have hF2:g6 σ w w' w1.heap.size:=by
    refine jW hF ?_;exact MI hx ⟨_,rfl⟩
   rcases hsim hF2 with⟨hnb,hS⟩|hh|⟨hcl,k1,k2,k3⟩
   .exact .inr (.inr (.inr (.inr (MJ hx h9 (.inl hnb)))))
   .exact absurd hh hfoul
   .exact hbig hcl k1 k2 k3
theorem Di{args}(h1:args≠#[.chan none])(h2:∀r,args≠#[.chan (some r)])(a t):Ti a t args=stuck "close: one channel expected" :=by
 obtain⟨l⟩:=args;cases l with
 |nil=>rfl
 |cons x l=>
  cases l with
  |nil=>
   cases x;case chan o=>
    cases o with
    |none=>exact absurd rfl h1
    |some r=>exact absurd rfl (h2 r)
   all_goals rfl
  |cons y l=>rfl
theorem MH{P}{fr:AS}{cs:List AS}{a t c args h w es}(hr:(Ti a t args).runT P w #[]=(.halt h w,es)):(invoke (.builtin .close a t c) args).runT P w #[]=(.halt h w,es):=by
 show(Ti a t args>>=λv=>pure (TE v)).runT P w #[]=_;rw[aM,hr]
theorem MG(E:Env Q β σ dt cl){fr cs w w' a t c args}(hg:ck Q dt cl fr)(hcs:∀c∈cs,ck Q dt cl c)(hbot:ej dt fr cs)(hch:∀r,args≠#[.chan (some r)])(hw:eo σ Ro D w w')(hR:pz Ro w):
 eh Q β σ Ro D dt cl D0 rest w w' (IS (alt Q β) fr (cs++[D0]) none ⟨.builtin .close a t c,args⟩ w) (IS Q (aC σ fr) (cs.map (aC σ)++rest) none ⟨.builtin .close a t c,args.map (ab σ)⟩ w'):=by
 by_cases h1:args=#[.chan none]
 .subst h1;have hp:∀(P:up)(w:By),(Ti a t #[.chan none]).runT P w #[]=(.halt (.panic (.iface P.rt.plainError (strVal "close of nil channel"))) w,#[]):=λP w=>rfl
  have hcd:∀(P:up)(fr:AS)(cs:List AS)(w:By),IS P fr cs none ⟨.builtin .close a t c,#[.chan none]⟩ w=IT (seen P fr.fn #[]) (.go {frame:=fr.raise [{v:=.iface P.rt.plainError (strVal "close of nil channel"),recovered:=false}],callers:=cs,status:=.running,dying:=none} w):=λP fr cs w=>by
   rfl
  have e1:(#[.chan none]:Array No).map (ab σ)=#[.chan none]:=by simp
  rw[e1,hcd,hcd];have hrk:(fr.raise [{v:=.iface Q.rt.plainError (strVal "close of nil channel"),recovered:=false}]).kind=fr.kind:=by unfold T3;split <;>rfl
  have hW:=tw (σ:=σ) (Ro:=Ro) (D:=D) (Q:=Q) (β:=β) (s:=(Ts (.panic .nilIface):Sem Unit)) (s':=(Ts (.panic .nilIface):Sem Unit)) (.inl ⟨_,rfl⟩) (.inl ⟨_,rfl⟩) (w:=w) (w':=w') hR rfl rfl tB hw rfl;have h0:(aC σ fr).raise [{v:=.iface Q.rt.plainError (strVal "close of nil channel"),recovered:=false}]=aC σ (fr.raise [{v:=.iface Q.rt.plainError (strVal "close of nil channel"),recovered:=false}]):=by
   rw[j3];simp[jn,strVal]
  refine .inl ⟨{frame:=fr.raise [{v:=.iface Q.rt.plainError (strVal "close of nil channel"),recovered:=false}],callers:=cs++[D0],status:=.running,dying:=none},_,_,_,_,_,rfl,rfl,?_,gQ (hg.raise _) hcs (cJ cs hrk hbot),?_,bh (aN av) av⟩
  .rw[h0];exact fO
  .rw[SC];exact hW.less (lr _ _ _)
 .have hs:=Di h1 hch a t;have hcd:IS (alt Q β) fr (cs++[D0]) none ⟨.builtin .close a t c,args⟩ w=IT (seen (alt Q β) fr.fn #[]) (.ended (.stuck "close: one channel expected" (fr.pos (alt Q β))) w):=by
   unfold IS;simp only[TD,If,if_false,MH (P:=alt Q β) (c:=c) (fr:=fr) (cs:=cs) (w:=w) (h:=.stuck "close: one channel expected") (es:=#[]) (by rw[hs];rfl)]
  rw[hcd];exact .inr (.inr (.inr (.inr ⟨trivial,bh (aN av) av⟩)))
theorem Em(h7:C9 D0)(E:Env Q β σ dt cl){fr cs w w'}(m m')(hg:ck Q dt cl fr)(hcs:∀c∈cs,ck Q dt cl c)(hbot:ej dt fr cs)(hH:an w)(hm:fr.mode= .run->False)
 (hnc:∀d ds a t c r,fr.defers=d::ds->d.target= .builtin .close a t c->d.args≠#[.chan (some r)])
 (hw:eo σ Ro D w w') (hD:Dom D w) (hR:pz Ro w) (hF:g6 σ w w' (stepW (unwind (alt Q β) m fr (cs++[D0]) none w)).heap.size):
 eh Q β σ Ro D dt cl D0 rest w w' (unwind (alt Q β) m fr (cs++[D0]) none w) (unwind Q m' (aC σ fr) (cs.map (aC σ)++rest) none w'):=by
 cases hds:fr.defers with
 |nil=>
  unfold unwind at hF ⊢;rw[jG,hds];rw[hds]at hF;dsimp only[List.map_nil]at hF ⊢;rw[fL];cases hmo:fr.mode with
  |run=>exact absurd hmo hm
  |panicking chain=>
   dsimp only[oa];have h9:∀(P:up)(fr:AS),ck Q dt cl fr->fr.catches P=false:=λP fr h=>by
    unfold TK;split
    .rename_i h1 h2;exact absurd h2 (h.dC.1 _ _ _ _ _)
    rfl
   rw[h9 _ _ hg];have h8:(aC σ fr).catches Q=false:=by
    simp_all[TK]
   rw[h8];simp only[If,if_false];cases cs with
   |nil=>
    rw[U2];have ha:D0.raise chain= {D0 with mode:=.panicking chain}:=by
     unfold T3;rw[h7.mode]
    dsimp only;rw[ha];exact lx (.inr ⟨rfl,rfl,rfl,.inr ⟨chain,rfl⟩⟩) rfl
   |cons c cs=>
    have hc:=hcs c (.head _);rw[SY];have:=wM (D0:=D0) (Q:=Q) (β:=β) (σ:=σ) (Ro:=Ro) (D:=D) (rest:=rest) (fr:=c.raise chain) (cs:=cs) (w:=w) (w':=w') (hc.raise chain) (λx hx=>hcs x (.tail _ hx)) (cJ cs (by grind [T3]) hbot.2) hw hR;rw[j3]at this;exact this
  |returning=>
   rw[hmo]at hF;dsimp only[oa]at hF ⊢;rw[ft]at hF ⊢;rw[DF];cases hfn:Q.funcs[fr.fn]? with
   |none=>
    dsimp only[Option.map_none];have:=sZ h7 (β:=β) (rest:=rest) (es:=#[]) m m' hg hcs hbot (fr.tmps.getD 0 undef) (gR.refl hw hR) av;have e0:∀x:GStep,IT #[] x=x:=λx=>by cases x<;>simp[IT]
    rw[e0,e0]at this;have e1:(aC σ fr).tmps.getD 0 undef=ab σ (fr.tmps.getD 0 undef):=by
     simp only[yu,SX,SL];cases fr.tmps[0]? <;>simp
    rw[e1];exact this
   |some fn=>
    rw[hfn]at hF;dsimp only[x5]at hF ⊢;rw[CQ]at hF ⊢;have hs:=Cv (Q:=Q) (β:=β) (Ro:=Ro) (D:=D) E.fit fn fr.tmps;have hn:=(wv (P:=alt Q β) fn fr.tmps).nf;have hn':=(wv (P:=Q) fn (fr.tmps.map (ab σ))).nf;have hsz:∀a w1 es,(results fn fr.tmps).runT (alt Q β) w #[]=(.ok a w1,es)->w1.heap.size<=(stepW (IT (seen (alt Q β) fr.fn es) (doReturn (alt Q β) m fr (cs++[D0]) none a w1))).heap.size:=λa w1 es h=>by
     rw[fJ];unfold doReturn;repeat' split
     all_goals exact AI _
    have h0:=λ(w1 w1':By)=>tw (σ:=σ) (Ro:=Ro) (D:=D) hn hn' (w:=w) (w':=w') (w1:=w1) (w1':=w1') hR
    have hS0:=hs w w' #[] #[] hw av tB;rw[yu];generalize (results fn fr.tmps).runT (alt Q β) w #[]=x at hS0 h0 hsz hF ⊢;generalize (results fn (fr.tmps.map (ab σ))).runT Q w' #[]=x' at hS0 h0 ⊢;obtain⟨r,es⟩:=x;obtain⟨r',es'⟩:=x';cases r with
    |halt h w1=>
     have hF1:g6 σ w w' w1.heap.size:=jW hF (by rw[fJ];cases h<;>exact AI _);obtain⟨hnb,_⟩:=hS0 hF1;refine .inr (.inr (.inr (.inr ⟨by cases h<;>trivial,bh (aN hnb) (by cases h<;>exact av)⟩)))
    |ok a w1=>
     have hF1:g6 σ w w' w1.heap.size:=jW hF (hsz a w1 es rfl);obtain⟨hnb,hS⟩:=hS0 hF1;rcases hS with⟨n,v1,v1',h1,h2,h3,h4,h5⟩|⟨h,v1,v1',h1,_⟩|⟨h,v1,h1,_⟩
     .dsimp only at h1 h2;cases h1;subst h2;exact sZ h7 m m' hg hcs hbot a ((h0 w1 v1' rfl rfl h3 h4 h5).less (lr _ _ _)) (aN hnb)
     .cases h1
     .cases h1
 |cons d ds=>
  have h6:=hg.defs d (by rw[hds];exact .head _);obtain⟨tg,args⟩:=d;have hg2:ck Q dt cl {fr with defers:=ds}:=⟨hg.round,hg.items,hg.regs,λx hx=>hg.defs x (by rw[hds];exact .tail _ hx),hg.kind,hg.init⟩;by_cases hcl:∃a t c,tg= .builtin .close a t c
  .obtain⟨a,t,c,rfl⟩:=hcl;unfold unwind;rw[jG,hds];exact MG E hg2 hcs (cJ (fr:=fr) cs rfl hbot) (λr=>hnc _ ds a t c r hds rfl) hw hR
  have hfn:∃f c,tg= .fn (.func f) c:=by
   cases tg;case fn fn c=>
    cases fn;case func f=>exact⟨f,c,rfl⟩
    all_goals exact h6.elim
   case builtin b a t c=>
    cases b;case close=>exact absurd ⟨a,t,c,rfl⟩ hcl
    all_goals exact h6.elim
   all_goals exact h6.elim
  obtain⟨f,cap,rfl⟩:=hfn;have hdf:dt.all (·.1 !=f)=true:=h6;unfold unwind at hF ⊢;rw[jG,hds];rw[hds]at hF;exact NT E hg2 hcs (cJ (fr:=fr) cs rfl hbot) hH hdf hw hD hR hF
theorem Gk(h0:C9 D0)(E:Env Q β σ dt cl){g g' w w'}(m m')(hr:mQ σ rest g g')(hg:uD Q D0 dt cl g)(hK:IQ Q D g.frame)(hH:an w)(hnc:¬ AtClose g)
 (hw:eo σ Ro D w w') (hD:Dom D w) (hR:pz Ro w) (hF:g6 σ w w' (stepW (stepG (alt Q β) m g w)).heap.size):
 eh Q β σ Ro D dt cl D0 rest w w' (stepG (alt Q β) m g w) (stepG Q m' g' w'):=by
 obtain⟨fr,cs,st,dy,off⟩:=g;obtain⟨fr',cs',st',dy',off'⟩:=g';obtain⟨h1,h2,⟨h3,h4⟩,h5,h6⟩:=hr;dsimp only at h1 h2 h3 h4 h5 h6;subst h1 h2 h3 h4 h5 h6;obtain⟨k1,k2,k3,k4⟩:=hg;dsimp only at k1 k2 k3 k4 hK;generalize hcs:cs.dropLast=cs1 at k2 k3 k4;subst k4;cases hm:fr.mode with
 |run=>
  have e1:∀(P:up)(m:Bool)(fr:AS)(cs:List AS)(off:_)(w:By),fr.mode= .run->stepG P m {frame:=fr,callers:=cs,status:=.running,dying:=none,offers:=off} w=stepG.exec P m true fr cs none w:=λP m fr cs off w h=>by
   unfold stepG;dsimp only;rw[h]
  rw[e1 _ _ _ (cs1++[D0]) _ _ hm]at hF ⊢;rw[e1 _ _ _ _ _ _ (by rw[fL,hm];rfl)];exact Kh E m m' k1 k2 k3 hK hH hw hD hR hF
 |_=>
  have e1:∀(P:up)(m:Bool)(fr:AS)(cs:List AS)(off:_)(w:By),(fr.mode= .run->False)->stepG P m {frame:=fr,callers:=cs,status:=.running,dying:=none,offers:=off} w=unwind P m fr cs none w:=λP m fr cs off w h=>by
   unfold stepG;dsimp only;cases hmo:fr.mode with
   |run=>exact absurd hmo h
   |_=>rfl
  have hne:fr.mode= .run->False:=λh=>by rw[hm]at h;cases h
  rw[e1 _ _ _ (cs1++[D0]) _ _ hne]at hF ⊢;rw[e1 _ _ _ _ _ _ (by rw[fL,hm];exact nofun)];exact Em h0 E m m' k1 k2 k3 hH hne (λd ds a t c r e1 e2 e3=>hnc ⟨hne,d,ds,a,t,c,r,e1,e2,e3⟩) hw hD hR hF
end
end
section
structure Part where
 K:Nat->Prop
 κ:Nat->Nat
def Ag(p:Part)(σ:Nat->Nat):Prop:=(∀i j,σ i=σ j->i=j)/\∀i,p.K i->σ i=p.κ i
structure iA(Q:up)(p:Part)(n n':Nat):Prop where
 inj:∀i j,p.K i->p.K j->p.κ i=p.κ j->i=j
 dom:∀i,p.K i->i<n
 ran:∀i,p.K i->p.κ i<n'
 low:∀g,g<=Q.globals.size->p.K g/\p.κ g=g
open Classical in
noncomputable def Part.far(p:Part)(n' t:Nat)(i:Nat):Nat:=if p.K i then p.κ i else n'+t+i
theorem bL{Q p n n'}(h:iA Q p n n')(t):Ag p (p.far n' t):=by
 refine⟨λi j e=> ?_,λi hi=>by simp_all[Part.far]⟩;unfold Part.far at e;split at e
 .rename_i hi;split at e
  .rename_i hj;exact h.inj i j hi hj e
  .have:=h.ran i hi;omega
 .split at e
  .rename_i hj;have:=h.ran j hj;omega
  omega
theorem tI{p:Part}{n' t i}(h:¬ p.K i):p.far n' t i=n'+t+i:=by simp_all[Part.far]
variable[aD]
structure mS(Q:up)(β:Nat->Option Code)(dt:bM)(cl:Bool):Prop where
 apt:lf Q β
 nf:G3 Q β
 prog:th Q β dt cl
 zero:∀σ,l4 Q σ
 tame:bz (alt Q β)
structure Side(Q:up)(β:Nat->Option Code)(D0:AS)(dt:bM)(cl:Bool)(Ro:Nat->Prop)(os:Os)(rest:List AS)(p:Part)(g:SI)(w:By)(g':SI)(w':By):Prop where
 part:iA Q p w.heap.size w'.heap.size
 gok:uD Q D0 dt cl g
 iv:Iv g w
 ro:pz Ro w
 relG:∀σ,Ag p σ->mQ σ rest g g'
 relW:∀σ,Ag p σ->eo σ Ro ⟨p.K,os⟩ (ah w w'.tape w'.drawn) w'
section
variable{Q:up}{β:Nat->Option Code}{D0:AS}{dt:bM}{cl:Bool}{Ro:Nat->Prop}{os:Os}{rest:List AS}{p:Part}{g g':SI}{w w':By}
theorem mS.env(E:mS Q β dt cl){n n'}(hp:iA Q p n n'){σ}(h:Ag p σ):Env Q β σ dt cl:=
 ⟨E.apt,E.nf,E.prog,⟨E.zero σ,λg hg=>(h.2 g (hp.low g hg).1).trans (hp.low g hg).2,h.1⟩,E.tame⟩
theorem sQ(hp:iA Q p w.heap.size w'.heap.size)(hW:∀σ,Ag p σ->eo σ Ro ⟨p.K,os⟩ (ah w w'.tape w'.drawn) w'){i o}(ho:w.heap[i]?=some o)(hn:jv o):p.K i:=by
 refine Tp λhk=> ?_
 have hB:=(hW _ (bL hp 0)).blk i o ho;have h0:w'.heap[p.far w'.heap.size 0 i]?=none:=by
  simp[tI hk]
 rw[h0]at hB;cases o;case cells c e f=>
  by_cases hr:Ro i
  .obtain⟨f',h,_⟩:=(hB.1 hr).2;cases h
  .cases hB.2 hr
 case number a l=>cases hB
 all_goals exact hn.elim
theorem pW(hp:iA Q p w.heap.size w'.heap.size)(hW:∀σ,Ag p σ->eo σ Ro ⟨p.K,os⟩ (ah w w'.tape w'.drawn) w'){i}(h:aJ w i):p.K i:=by
 obtain⟨c,t,f,hc⟩:=h;exact sQ hp hW hc trivial
theorem Side.cells(S:Side Q β D0 dt cl Ro os rest p g w g' w'){i}(h:aJ w i):p.K i:=pW S.part S.relW h
theorem Side.knows(S:Side Q β D0 dt cl Ro os rest p g w g' w'):IQ Q ⟨p.K,os⟩ g.frame:=by
 have ht:∀v∈g.frame.tmps,ab (p.far w'.heap.size 0) v=ab (p.far w'.heap.size 1) v:=λv hv=>by
  have e:g.frame.tmps.map (ab (p.far w'.heap.size 0))=g.frame.tmps.map (ab (p.far w'.heap.size 1)):=congrArg Frame.tmps (((S.relG _ (bL S.part 0)).frame).symm.trans (S.relG _ (bL S.part 1)).frame);simp_all
 have hk:∀i,p.far w'.heap.size 0 i=p.far w'.heap.size 1 i->p.K i:=λi e=>by
  grind [tI]
 refine⟨λv hv=>⟨λa e=> ?_,λa l c e=> ?_⟩,λg hg=>(S.part.low g hg).1⟩
 .have:=ht v hv;simp[e]at this;exact hk _ (congrArg U7 this)
 .have:=ht v hv;simp[e]at this;exact hk _ (congrArg U7 this)
structure Oe(κ:Nat->Nat)(Ro:Nat->Prop)(w1:By)(e:SE):Prop where
 cell:∀a',e.loc= .cell a'->∃i,a'.block=κ i/\aJ w1 i/\(e.write=true->¬ Ro i)
 obj:∀r,e.loc= .obj r->e.write=false
 mark:∀m,e.loc= .mark m->Meek m/\e.write=false/\e.sync=true
structure Grown(p p':Part)(n n' n1 n1':Nat):Prop where
 old:∀i,p.K i->p'.K i/\p'.κ i=p.κ i
 new:∀i,p'.K i->p.K i\/(n<=i/\n'<=p'.κ i)
 le:n<=n1
 le':n'<=n1'
structure Eff(p p':Part)(Ro:Nat->Prop)(w w' w1 w1':By)(es':Array SE):Prop where
 grown:Grown p p' w.heap.size w'.heap.size w1.heap.size w1'.heap.size
 frame:∀b,b<w'.heap.size->w1'.heap[b]?≠w'.heap[b]?->∃i,p'.κ i=b/\aJ w1 i/\¬ Ro i
 events:∀e∈es',Oe p'.κ Ro w1 e
 output:w1'.output=w'.output
 os:w1'.os=w'.os
 kinds:∀(i:Nat)(o:Obj),w1.heap[i]?=some o->gV w i o
theorem vX{K' σ K w1 w1'}(h:eo σ Ro ⟨K,os⟩ w1 w1')(hK:∀i,K i->K' i)(hn:∀i o,w1.heap[i]?=some o->K' i->jv o\/K i):eo σ Ro ⟨K',os⟩ w1 w1':=by
 refine⟨h.inj,h.tape,h.drawn,h.ro,λi o ho=> ?_,λi a l ho=>hK _ (h.num i a l ho),h.os⟩;have hB:=h.blk i o ho;cases o;case cells c e f=>exact hB
 case number a l=>exact hB
 case pending=>exact hB.elim
 case view=>exact hB.elim
 all_goals
  intro hk';rcases hn i _ ho hk' with hx|hx
  .exact hx.elim
  .exact hB hx
open Classical in
noncomputable def Part.grow(p:Part)(n n' n1:Nat):Part:=⟨λi=>p.K i\/(n<=i/\i<n1),λi=>if i<n then p.κ i else n'+(i-n)⟩
theorem xX{n n' n1 n1'}(h:iA Q p n n')(h1:n<=n1)(hs:n1'+n=n'+n1):iA Q (p.grow n n' n1) n1 n1':=by
 have hlt:∀i,p.K i->(p.grow n n' n1).κ i=p.κ i:=λi hi=>by
  show(if i<n then p.κ i else n'+(i-n))=_;rw[if_pos (h.dom i hi)]
 have hge:∀i,n<=i->(p.grow n n' n1).κ i=n'+(i-n):=λi hi=>by
  show(if i<n then p.κ i else n'+(i-n))=_;rw[if_neg (by omega)]
 refine⟨λi j hi hj e=> ?_,λi hi=> ?_,λi hi=> ?_,λg hg=>⟨.inl (h.low g hg).1,(hlt g (h.low g hg).1).trans (h.low g hg).2⟩⟩
 .rcases hi with hi|hi<;>rcases hj with hj|hj
  .rw[hlt i hi,hlt j hj]at e;exact h.inj i j hi hj e
  .rw[hlt i hi,hge j hj.1]at e;have:=h.ran i hi;omega
  .rw[hge i hi.1,hlt j hj]at e;have:=h.ran j hj;omega
  grind
 .rcases hi with hi|hi
  .have:=h.dom i hi;omega
  omega
 .rcases hi with hi|hi
  .rw[hlt i hi];have:=h.ran i hi;omega
  grind
theorem wL{n n' n1 n1'}(h:iA Q p n n')(h1:n<=n1)(hs:n1'+n=n'+n1):Grown p (p.grow n n' n1) n n' n1 n1':=by
 refine⟨λi hi=>⟨.inl hi,?_⟩,λi hi=> ?_,h1,by omega⟩
 .show(if i<n then p.κ i else n'+(i-n))=_;rw[if_pos (h.dom i hi)]
 .rcases hi with hi|hi
  .exact .inl hi
  .refine .inr ⟨hi.1,?_⟩;show n'<=if i<n then p.κ i else n'+(i-n)
   rw[if_neg (by omega)];omega
def KR(Q:up)(β:Nat->Option Code)(D0:AS)(dt:bM)(cl:Bool)(Ro:Nat->Prop)(os:Os)(rest:List AS)(p:Part)(w w':By)(x x':GStep):Prop:=
 (∃g1 w1 es g1' w1' es' p',x= .go g1 w1 es/\x'= .go g1' w1' es'/\Side Q β D0 dt cl Ro os rest p' g1 w1 g1' w1'/\Eff p p' Ro w w' w1 w1' es'/\¬ Big x.es)\/
 (∃g1 c sh w1 es g1' c' w1' es' p',x= .comm g1 #[c] true sh w1 es/\x'= .comm g1' #[c'] true sh w1' es'/\qB cl #[c] true sh/\lZ dt g1.frame/\Side Q β D0 dt cl Ro os rest p' g1 w1 g1' w1'/\(∀σ,Ag p' σ->c'=jS σ c)/\Eff p p' Ro w w' w1 w1' es'/\¬ Big x.es)\/
 (∃g w es,x= .go g w es/\qc Q β g/\¬ Big x.es)\/(cl=false/\Big x.es/\Big x'.es)\/(tP D0 x/\¬ Big x.es)
theorem oP(h1:C9 D0)(E:mS Q β dt cl)(S:Side Q β D0 dt cl Ro os rest p g w g' w')(m')(hnc:¬ AtClose g):
 KR Q β D0 dt cl Ro os rest p w w' (stepG (alt Q β) true g (ah w w'.tape w'.drawn)) (stepG Q m' g' w'):=by
 have hIv:Iv g (ah w w'.tape w'.drawn):=fE S.iv _ _;have hD:Dom ⟨p.K,os⟩ (ah w w'.tape w'.drawn):=λi hi=>S.part.dom i hi
 have hRo:pz Ro (ah w w'.tape w'.drawn):=S.ro;obtain⟨x,hx⟩:∃x,x=stepG (alt Q β) true g (ah w w'.tape w'.drawn):=⟨_,rfl⟩;have hsim:∀n1 p',p'=p.grow w.heap.size w'.heap.size n1->(stepW x).heap.size<=n1->∀σ,Ag p' σ->eh Q β σ Ro ⟨p.K,os⟩ dt cl D0 rest (ah w w'.tape w'.drawn) w' x (stepG Q m' g' w'):=λn1 p' hp' hn σ hσ=>by
  subst hp';have hag:Ag p σ:=⟨hσ.1,λi hi=>by
   rw[hσ.2 i (.inl hi)];show(if i<w.heap.size then p.κ i else w'.heap.size+(i-w.heap.size))=_;rw[if_pos (S.part.dom i hi)]⟩
  rw[hx];refine Gk h1 (E.env S.part hag) true m' (S.relG σ hag) S.gok S.knows hIv.1 hnc (S.relW σ hag) hD hRo ?_;intro j hj;rw[<- hx]at hj;have hj':w.heap.size+j<(stepW x).heap.size:=hj;have:=hσ.2 (w.heap.size+j) (.inr ⟨by omega,by omega⟩);show σ (w.heap.size+j)=w'.heap.size+j;rw[this];show(if w.heap.size+j<w.heap.size then _ else _)=_;rw[if_neg (by omega)];omega
 rw[<- hx];by_cases hfoul:∃g w es,x= .go g w es/\qc Q β g/\¬ Big x.es
 .exact .inr (.inr (.inl hfoul))
 by_cases hbig:cl=false/\Big x.es/\Big (stepG Q m' g' w').es
 .exact .inr (.inr (.inr (.inl hbig)))
 by_cases hlost:tP D0 x/\¬ Big x.es
 .exact .inr (.inr (.inr (.inr hlost)))
 have hmain:∀n1,(stepW x).heap.size<=n1->∀σ,Ag (p.grow w.heap.size w'.heap.size n1) σ->_:=λn1 hn σ hσ=>hsim n1 _ rfl hn σ hσ
 have hle:w.heap.size<=max w.heap.size (stepW x).heap.size:=Nat.le_max_left _ _;have hok0:=xX S.part hle (n1':=w'.heap.size+(max w.heap.size (stepW x).heap.size-w.heap.size)) (by omega);have h0:=hsim _ _ rfl (Nat.le_max_right w.heap.size (stepW x).heap.size) _ (bL hok0 0);rcases h0 with⟨g1,w1,es,g1',w1',es',e1,e2,hR1,hG1,hW1,hNB⟩|⟨g1,cs,bl,sh,w1,es,g1',w1',es',e1,e2,hC,hR1,hG1,hFin,hW1,hNB⟩|h|h|h
 .
  subst e1;have hn1:w.heap.size<=w1.heap.size:=hW1.le;have hmx:max w.heap.size (stepW (.go g1 w1 es)).heap.size=w1.heap.size:=Nat.max_eq_right hn1;rw[hmx]at hok0 hR1 hW1;have hall:∀σ,Ag (p.grow w.heap.size w'.heap.size w1.heap.size) σ->mQ σ rest g1 g1'/\gR σ Ro ⟨p.K,os⟩ (ah w w'.tape w'.drawn) w' w1 w1' es':=λσ hσ=>by
   rcases hsim _ _ rfl (AI _) σ hσ with⟨a1,a2,a3,b1,b2,b3,f1,f2,k1,k2,k3,_⟩|⟨a1,a2,a3,a4,a5,a6,b1,b2,b3,f1,_⟩|h|h|h<;>grind
  have hsz:w1'.heap.size+w.heap.size=w'.heap.size+w1.heap.size:=hW1.size;have hok:=xX S.part hn1 hsz;have htp:∀σ,Ag (p.grow w.heap.size w'.heap.size w1.heap.size) σ->eo σ Ro ⟨(p.grow w.heap.size w'.heap.size w1.heap.size).K,os⟩ (ah w1 w1'.tape w1'.drawn) w1':=λσ hσ=>by
   have hr:=(hall σ hσ).2.rel;rw[hr.tape,hr.drawn,AM];refine vX hr (λi hi=>.inl hi) λi o ho hk=> ?_
   rcases hW1.kinds i o ho with⟨_,h⟩|⟨_,_,_,_,rfl⟩|h
   .exact .inl h
   .exact .inl trivial
   .rcases hk with hk|hk
    .exact .inr hk
    simp_all
  have hI1:Iv g1 w1:=nI E.tame hIv (.go hx.symm);have hcell:∀i,aJ w1 i->(p.grow w.heap.size w'.heap.size w1.heap.size).K i:=λi hi=>pW hok htp hi
  refine .inl ⟨g1,w1,es,g1',w1',es',p.grow w.heap.size w'.heap.size w1.heap.size,rfl,e2,⟨hok,hG1,hI1,hW1.ro,λσ hσ=>(hall σ hσ).1,htp⟩,⟨wL S.part hn1 hsz,λb hb hne=> ?_,λe he=>⟨λa' ha=> ?_,(hW1.events e he).obj,(hW1.events e he).mark⟩,hW1.output,?_,hW1.kinds⟩,hNB⟩
  .obtain⟨i,hi,hc,hr⟩:=hW1.frame b hb hne;refine⟨i,?_,hc,hr⟩;rw[<- hi,(bL hok0 0).2 i (hcell i hc)]
  .obtain⟨a,rfl,hc,hr⟩:=(hW1.events e he).cell a' ha;exact⟨a.block,(bL hok0 0).2 _ (hcell _ hc),hc,hr⟩
  .exact hW1.rel.os.2.trans (S.relW _ (bL S.part 0)).os.2.symm
 .
  obtain⟨rfl,c,rfl,hc0⟩:=hC;subst e1;have hn1:w.heap.size<=w1.heap.size:=hW1.le;have hmx:max w.heap.size (stepW (.comm g1 #[c] true sh w1 es)).heap.size=w1.heap.size:=Nat.max_eq_right hn1;rw[hmx]at hok0 hR1 hW1 e2;have hall:∀σ,Ag (p.grow w.heap.size w'.heap.size w1.heap.size) σ->mQ σ rest g1 g1'/\gR σ Ro ⟨p.K,os⟩ (ah w w'.tape w'.drawn) w' w1 w1' es'/\jS ((p.grow w.heap.size w'.heap.size w1.heap.size).far (w'.heap.size+(w1.heap.size-w.heap.size)) 0) c=jS σ c:=λσ hσ=>by
   rcases hsim _ _ rfl (AI _) σ hσ with⟨a1,a2,a3,b1,b2,b3,f1,_⟩|⟨a1,a2,a3,a4,a5,a6,b1,b2,b3,f1,f2,f3,k1,k2,_,k3,_⟩|h|h|h<;>grind
  have hsz:w1'.heap.size+w.heap.size=w'.heap.size+w1.heap.size:=hW1.size;have hok:=xX S.part hn1 hsz;have htp:∀σ,Ag (p.grow w.heap.size w'.heap.size w1.heap.size) σ->eo σ Ro ⟨(p.grow w.heap.size w'.heap.size w1.heap.size).K,os⟩ (ah w1 w1'.tape w1'.drawn) w1':=λσ hσ=>by
   have hr:=(hall σ hσ).2.1.rel;rw[hr.tape,hr.drawn,AM];refine vX hr (λi hi=>.inl hi) λi o ho hk=> ?_
   rcases hW1.kinds i o ho with⟨_,h⟩|⟨_,_,_,_,rfl⟩|h
   .exact .inl h
   .exact .inl trivial
   .rcases hk with hk|hk
    .exact .inr hk
    .have h2:w.heap[i]?=some o:=h;have:=(Sy.1 h2).1;omega
  have hI1:Iv g1 w1:=by
   rcases ou E.tame hIv with⟨_,_,_,e,_⟩|⟨_,_,_,_,_,_,e,⟨e3,_⟩,_⟩|⟨_,_,_,e⟩
   .rw[<- hx]at e;cases e
   .rw[<- hx]at e;cases e;omega
   simp_all
  have hcell:∀i,aJ w1 i->(p.grow w.heap.size w'.heap.size w1.heap.size).K i:=λi hi=>pW hok htp hi
  rw[Tu,SQ,List.map_nil]at e2;refine .inr (.inl ⟨g1,c,sh,w1,es,g1',_,w1',es',p.grow w.heap.size w'.heap.size w1.heap.size,rfl,e2,⟨rfl,c,rfl,hc0⟩,hFin,⟨hok,hG1,hI1,hW1.ro,λσ hσ=>(hall σ hσ).1,htp⟩,λσ hσ=>(hall σ hσ).2.2,⟨wL S.part hn1 hsz,λb hb hne=> ?_,λe he=>⟨λa' ha=> ?_,(hW1.events e he).obj,(hW1.events e he).mark⟩,hW1.output,?_,hW1.kinds⟩,hNB⟩)
  .obtain⟨i,hi,hc,hr⟩:=hW1.frame b hb hne;refine⟨i,?_,hc,hr⟩;rw[<- hi,(bL hok0 0).2 i (hcell i hc)]
  .obtain⟨a,rfl,hc,hr⟩:=(hW1.events e he).cell a' ha;exact⟨a.block,(bL hok0 0).2 _ (hcell _ hc),hc,hr⟩
  .exact hW1.rel.os.2.trans (S.relW _ (bL S.part 0)).os.2.symm
 .exact absurd h hfoul
 .exact absurd h hbig
 .exact absurd h hlost
end
end
end Go.Proofs.YtkgohmcmmcpigaaGreatDoor
