/- A part of the proof that Folded holds; no condition. -/
import Derived.Calls
import Derived.Conc.Listed
import Derived.Test.YtkgohmcmmcpigabGreatDoorProg
import Derived.WalkKit
import Derived.Lib.Hide
import Derived.Orders
import Derived.Tactics
import Derived.Test.YtkgohmcmmcpigabGreatDoorW02
set_option linter.all false
namespace Go.Proofs.YtkgohmcmmcpigabGreatDoor
open Go
open Go renaming Program->AI,Frame->Sx,World->Sz,execOp->SE,callDeferred->SF,Value->SH,callFunc->SM,Event->T0,Goroutine->T6,behindNumber->TW,TypeId->TY,Operand->U8,runtimePanic->UF,FuncId->V2
open _root_.Option renaming map_some->AS
open _root_.Nat renaming le_refl->Sw,le_trans->UD,lt_of_lt_of_le->V0
open Go.Sem renaming runT->Sy,store->Th,bind->U1,halt->Uz
open _root_.Bool renaming false_eq_true->SC,and_eq_true->SD,false_ne_true->SN,false_and->UL,eq_iff_iff->Vm
open Go.GStep renaming after->SG,go->Te
open _root_.Iff renaming rfl->SK
open Go.Frame renaming enter->SL,finish->SX,eval->Tw,raise->TL,finish_at->UJ,catches->UT
open _root_.Array renaming getElem?_push->SP,getElem?_eq_some_iff->SR,getElem?_modify->SV,append_empty->SW,mem_push->T4,getElem?_map->T9,getD_eq_getD_getElem?->TD,map_append->TI,toList_map->U5,mem_append->U6,size_map->Ul,range->Um,foldl_toList->Uo,map_map->Us,mapM_eq_mapM_toList->Uw,mem_map->UU,replicate->Vn
open Go.World renaming setCell->SZ,shape?->Tg,farStore->Tx,viewStore->U9,noCell->Uy,frozen?->UN,farLoad->UO,sys->UX,seen->Vd
open Go.Op renaming equal->T5,maxDepth->V7,equalIn->Vi
open _root_.MonadExceptOf renaming throw->T7
open Go.Builtin renaming unsafeAdd_->T8,firstCells->Tj,zeroCells->Tl,min2->Uf,append_->Ug,close_->Uk,holdsCells->Un,min_->UG,len_->UH,mayShare->Vc,lenOf->VE,close->Ua
open _root_.Except renaming bind->Ta,pure->TN,error->TR
open _root_.List renaming range'->Tn,map_cons->Tr,cons_append->TG,mem_cons->U0,map_toArray->UE,mem_map->V1,nil_append->Vj,find?_cons->Vk
open Go.MemAct renaming ofEvent->TC
open Go.Instr renaming fill->TH,sliceBound->U4,sliceAt->UQ,indexAt->UR,extract->US,makeInterface->UW,sliceBounds->V6,typeAssert->Va,buildSlice->Vb,sureAddr->Vv,panicnil->Vw,makeFunc->Vx
open Go.Extern renaming find->TZ,findNext->Ue
open Go.Kernel renaming perform->Uj
open Go.Region renaming wanted->Uq
open _root_.Classical renaming byContradiction->Uv
open Go.Next renaming value->Tc,enter->Ts,numGoroutine->UP
open Go.Program renaming eqGuardType->UV,depth->VB
open Go.Exit renaming inBlock->V3,outgrown->U7,panic->UB,normal->UK
open Go.Conv renaming floatToInt->Vl
open Go.Value renaming oneCell'->Vo,pointer->Sv,nilIface->SO,complex->Tf,tuple->Ti,bool->Tk,func->Tp,string->Tq,slice->Tt,float->Tu,chan->TF,iface->TK,int->TU,nilFunc->U2,agg->U3
open Go.CallKind renaming early->UY,normal->Td,deferred->TQ
open Go.Result renaming ok->Tb,halt->SJ
open Go.GoStatus renaming running->Su
open Go.Item renaming inRegion->SI,code->Uc
open Go.Fn renaming func->SQ
open Go.Halt renaming unsupported->SS,stuck->TV,panic->Ud,waiting->V8,blocked->V9
open Go.Mode renaming atomic->SU
open Go.Obj renaming cells->SY,number->Ty,pending->Ui
open Go.FrameMode renaming panicking->Tm,returning->Ut
open Go.Unsupported renaming initOrder->Tv,unsafePointer->Tz
open Go.Loc renaming cell->TE,mark->TP,obj->Ur
open Go.Operand renaming const->TJ,func->Ub
open Go.Target renaming builtin->TS,fn->TX
open Go.TypeDesc renaming string->Uh,struct->V5
open Go.Code renaming cond->Uu,region->Ux
open Go.Steps renaming one->UA
open Go.RuntimeError renaming nilDeref->UI
open Go.Callee renaming builtin->UM
section
open Go.Conc
variable[aD]
def ax(a:Nat->Option Code)(i:Nat)(fn:Func):Func:=
 match a i with
 |some c=> {fn with body:=some c}
 |none=>fn
abbrev alt(Q:AI)(U:Nat->Option Code):AI:=swap Q (ax U)
structure Twin(Q:AI)(U:Nat->Option Code):Prop where
 wait:∀g,aD.lim<=g->Q.stepOf g=none
 data:Q.follows .staticDataAhead=true
 begin:∀f∈Q.inits,∀(fn:Func),Q.funcs[f]?=some fn->(U f).isSome=true->fn.body.isSome=true
 next:∀(f:Nat)(fn:Func),Q.funcs[f]?=some fn->U f=none->fn.body.isNone=true->Ue fn=none
 ext:∀(f:Nat)(fn:Func),Q.funcs[f]?=some fn->U f=none->fn.body.isNone=true->∀e,TZ fn=some e->∀args,Sm Q (ax U) (e args)
def lr(P f b):∀e∈seen P f b,e∈b:=by
 have c:∀(l:List T0)(x:Bool×Array T0)(a:Bool×Array T0->T0->Bool×Array T0)(d:∀x e,∀y∈(a x e).2,y∈x.2\/y=e),∀y∈(l.foldl a x).2,y∈x.2\/y∈l:=by
  intro l;induction l<;>grind
 intro e g;simp[seen,<- Uo]at g;grind
def av:¬ Big #[]:=λh=>h
def aN{P f es}(h:¬ Big es):¬ Big (seen P f es):=λh=>h
def find_congr{b:Type}{p q}:∀{l:List b},(∀x∈l,p x=q x)->l.find? p=l.find? q
 |[],_=>rfl
 |x::l,h=>by
  rw[Vk,Vk,h x (List.mem_cons_self ..),find_congr λy c=>h y (List.mem_cons_of_mem _ c)]
section
variable{P:AI}
def vT{b c}{s:Sem b}(hs:cw P c false s):∀w a,an w->¬ Big a->¬ Big (s.runT P w a).2:=λ_ _ _ _ h=>h
end
section
variable{Q:AI}{U:Nat->Option Code}
theorem iG(f):(alt Q U).funcs[f]?=Q.funcs[f]?.map (ax U f):=by
 show(Q.funcs.mapIdx (ax U))[f]?=_;rw[Array.getElem?_mapIdx]
def lJ:(alt Q U).funcs.size=Q.funcs.size:=Array.size_mapIdx
def CX(f fn):(ax U f fn).name=fn.name:=by unfold ax;split <;>rfl
theorem zn(f fn):(ax U f fn).norace=fn.norace:=by unfold ax;split <;>rfl
def qs(f fn):(ax U f fn).results=fn.results:=by unfold ax;split <;>rfl
def pS{f fn}(h:U f=none):ax U f fn=fn:=by
 simp[ax,h]
def ic{b}{s:Sem b}(hs:Sm Q (ax U) s)(w a):s.runT (alt Q U) w a=s.runT Q w a:=yn hs.sm w a
def km{a}{s:Sem a}(hs:Sm Q (ax U) s)(w):s.run (alt Q U) w=s.run Q w:=Jr hs.sm w
omit [aD] in
theorem aM{i U}(P s)(f:i->Sem U):∀w d,(s>>=f).runT P w d=match s.runT P w d with
 |(Tb a g,e)=>(f a).runT P g e
 |(SJ h g,e)=>(SJ h g,e):=by
 show∀(w:Sz)(d:Array T0),(s.bind f).runT P w d=_;induction s with
 |pure a=>exactλw d=>rfl
 |halt x=>exactλw d=>rfl
 |load m a k b=>
  grind [U1,Sy]
 |store m a v k b=>
  intro w d;cases v;all_goals simp only[U1,Sy]
  all_goals
   cases w.cell? a with
   |some o=>
    dsimp only;split <;>first |rfl|exact b ..
   |none=>
    dsimp only;split <;>first |exact b .. |rfl
 |new o k b=>exactλw d=>b ..
 |shape r k b=>exactλw d=>b ..
 |freeze a n k b=>exactλw d=>b ..
 |frozen a k b=>exactλw d=>b ..
 |getObj r k b=>
  grind [U1,Sy]
 |setObj r o k b=>
  grind [U1,Sy]
 |choose q k b=>
  grind [U1,Sy]
 |sys c k b=>exactλw d=>b ..
 |program k b=>exactλw d=>b ..
 |mark m k b=>exactλw d=>b ..
inductive oH(Q:AI)(U:Nat->Option Code):Sem Next->Prop
 |sm {s:Sem Next} (h:Sm Q (ax U) s):oH Q U s
 |foul {s:Sem Next} {f:V2} {args:Array SH} (hf:(U f).isSome=true) (h:∀w es,s.runT (alt Q U) w es=(Tb (Ts f args) w,es)):oH Q U s
 |bind {α:Type} {s:Sem α} {f:α->Sem Next} (hs:Sm Q (ax U) s) (hst:bU (alt Q U) true false s) (hf:∀a,oH Q U (f a)):oH Q U (s>>=f)
 |prog {f:AI->Sem Next} (e:f (alt Q U)=f Q) (h:oH Q U (f Q)):oH Q U (program>>=f)
def eM{s}(h:Sm Q (ax U) s):oH Q U s:=.sm h
def nY{c}{s:Sem c}{f}(hs:Sm Q (ax U) s)(b:bU (alt Q U) true false s)(d:∀a,oH Q U (f a)):oH Q U (s>>=f):=.bind hs b d
def nX(T:Twin Q U)(f args):oH Q U (SM f args):=by
 have d:(alt Q U).funcs[f]?=Q.funcs[f]?.map (ax U f):=iG f;cases g:U f with
 |none=>
  have m:(alt Q U).funcs[f]?=Q.funcs[f]?:=by
   rw[d];cases Q.funcs[f]? with
   |none=>rfl
   |some a=>exact congrArg some (pS g)
  refine eM ?_;refine mZ (by grind) ?_;cases b:Q.funcs[f]? with
  |none=>exact zq2
  |some a=>
   refine @Ac _ _ _ _ _ _ _ zq2 ?_;cases h:a.body.isNone with
   |false=>simp[SC];exact zq2
   |true=>
    refine @ji _ _ _ _ _ _ zq2 λ_=> ?_
    rw[T.next f a b g h];cases d:TZ a with
    |some e=>exact @ji _ _ _ _ _ _ (T.ext f a b g h e d args) λ_=>zq2
    |none=>dsimp only;split <;>exact zq2
 |some c=>
  have l:∀(P:AI)(w:Sz)(i:Array T0),(SM f args).runT P w i=(match P.funcs[f]? with
   |none=>(stuck "call: no such function" :Sem Next)
   |some a=>
    if(a.name== "runtime.NumGoroutine")=true then pure UP
    else if a.body.isNone=true then(do
     mark (.extern f)
     if let some e:=Ue a then return<- e args
     match TZ a with
     |some e=>pure (Tc (<- e args))
     |none=>
      if a.name.endsWith ".init" && !a.name.startsWith "(" && !a.name.startsWith "gosem." then pure (Tc (Ti #[]))
      else unsupported (.extern a.name))
    else pure (Ts f args)).runT P w i:=λP w i=>rfl
  cases b:Q.funcs[f]? with
  |none=>
   refine eM ⟨⟨?_,?_⟩⟩<;>first |(show(match(alt Q U).funcs[f]? with |none=>_|some a=>_)=match Q.funcs[f]? with |none=>_|some a=>_;simp[d,b])|(show Same Q (ax U) (match Q.funcs[f]? with |none=>_|some a=>_);rw[b];exact(zq2:Sm Q (ax U) (stuck "call: no such function")).sm)
  |some a=>
   have j:(ax U f a).name=a.name:=CX f a;have k:(ax U f a).body.isNone=false:=by
    simp_all[ax]
   by_cases h:(a.name== "runtime.NumGoroutine")=true;refine eM ⟨⟨?_,?_⟩⟩<;>first |(show(match(alt Q U).funcs[f]? with |none=>_|some a=>_)=match Q.funcs[f]? with |none=>_|some a=>_;grind)|(show Same Q (ax U) (match Q.funcs[f]? with |none=>_|some a=>_);simp only[b,if_pos h];exact(zq2:Sm Q (ax U) (pure UP:Sem Next)).sm)
   refine .foul (f:=f) (args:=args) (by simp[g]) λw i=> ?_
   rw[l];simp[*]
def qn(T:Twin Q U)(recv name args):oH Q U (callMethod recv name args):=by
 unfold callMethod;cases recv;case iface t v=>
  exact .prog (by simp[iV]) (nY zq2 zq2 λx=>nX T ..)
 all_goals exact eM zq2
def n9(T:Twin Q U)(t args):oH Q U (invoke t args):=by
 unfold invoke;cases t with
 |nil=>exact eM zq2
 |builtin b a t d=>exact eM zq2
 |collected r=>exact eM zq2
 |coroexit c=>exact eM zq2
 |fn f c=>
  cases f with
  |func f=>exact nX T ..
  |method n=>
   dsimp only;split <;>first |exact qn T .. |exact eM zq2
  |methodOf t n=>
   dsimp only;split <;>first |(refine nY zq2 zq2 λ_=> ?_;repeat' (first |exact qn T ..))|exact eM zq2
  |via t p f q=>
   dsimp only;split <;>first |exact nY zq2 zq2 λ_=>nX T .. |exact eM zq2
  |yield l=>exact eM zq2
def Ez(T:Twin Q U)(a o):oH Q U (SE a o):=by
 unfold SE;cases o.op;case call c=>exact nY zq2 zq2 λd=>n9 T ..
 case nilCheck x=>
  refine eM ?_;repeat' (first
   |exact zq2
   |(with_reducible refine mZ ?_ ?_)
   |(simp[iV])
   |split)
 all_goals first
  |(
   refine eM ?_;repeat' (first
    |exact zq2
    |(refine @ji _ _ _ _ _ _ ?_ λ_=> ?_)
    |(refine @Dy _ _ _ _ _ (λ_=> ?_) _)
    |split))
def qc(Q:AI)(U:Nat->Option Code)(g:T6):Prop:=∃f a k,g.frame=SL (alt Q U) f a k/\(U f).isSome=true/\g.status=Su/\∀d,g.dying=some d->d.calling=true
def PW(Q:AI)(U:Nat->Option Code)(A B:GStep):Prop:=A=B\/∃g w a,A=Te g w a/\qc Q U g/\(Big a->Big B.es)
def FA(f args k cs b w e)(a:∀d,b=some d->d.calling=true):
 PW Q U (Te {frame:=SL (alt Q U) f args k,callers:=cs,status:=Su,dying:=b} w e) (Te {frame:=SL Q f args k,callers:=cs,status:=Su,dying:=b} w e):=by
 cases g:U f with
 |some c=>exact .inr ⟨_,w,e,rfl,⟨f,args,k,rfl,by simp[g],rfl,a⟩,id⟩
 |none=>
  have h:(alt Q U).funcs[f]?=Q.funcs[f]?:=by
   rw[iG];grind [ax]
  refine .inl ?_;simp_all[SL]
def iW(fn a):seen (alt Q U) fn a=seen Q fn a:=by
 have h:∀f:V2,(alt Q U).funcs[f]?.any (·.norace)=Q.funcs[f]?.any (·.norace):=λf=>by
  rw[iG];grind [zn]
 unfold seen;grind
def Dl(a:Sx):a.catches (alt Q U)=a.catches Q:=by
 grind [iG,UT]
def Bi(T:Twin Q U)(k):(alt Q U).initFrom k=Q.initFrom k:=by
 have g:(alt Q U).inits=Q.inits:=rfl;refine congrArg (λx:Option V2=>x.getD Q.main) ?_;rw[<- Array.find?_toList,<- Array.find?_toList];refine find_congr λf h=> ?_
 have a:f∈Q.inits:=by
  have:=Array.mem_toList_iff.1 h;have⟨i,g⟩:=Array.mem_iff_getElem?.1 this<;>grind
 rw[iG];cases b:Q.funcs[f]? with
 |none=>rfl
 |some d=>
  show(ax U f d).body.isSome=d.body.isSome;cases e:U f with
  |none=>rw[pS e]
  |some c=>
   rw[T.begin f a d b (by simp[e])];simp_all[ax]
def B6(a:Sx):a.noResult (alt Q U)=a.noResult Q:=rfl
def rP(a):panicText (alt Q U) a=panicText Q a:=by
 funext v
 cases v<;>rfl
def Et(a):sameBox (swap Q a)=sameBox Q:=by
 rfl
instance xC(f):∀c b,Sm Q f (reportChain c b)
 |[],_=>⟨trivial⟩
 |e::d,b=>by
  have g:=λb=>xC f d b
  repeat' (first
   |exact zq2
   |(with_reducible refine mZ ?_ ?_)
   |(simp[Et])
   |(refine @Ac _ _ _ _ _ _ _ ?_ ?_)
   |split)
def BD(a cs b m w):endFatal (alt Q U) a cs b m w=endFatal Q a cs b m w:=by
 simp only[endFatal,lJ,rP];rw[km];repeat' (first
  |exact zq2
  |(refine @ji _ _ _ _ _ _ ?_ λ_=> ?_)
  |(refine @Cs _ _ _ _ _ (λ_=> ?_) _)
  |split)
instance LL(a s):Sm Q a (withAddress s):=by
 unfold withAddress;exact zq2
def Cg(a d f w):writeOn (alt Q U) a d f w=writeOn Q a d f w:=by
 simp only[writeOn];split;rfl;rw[ic];repeat' (first
  |exact zq2
  |(with_reducible refine mZ ?_ ?_)
  |(simp[A5])
  |(refine @ji _ _ _ _ _ _ ?_ λ_=> ?_)
  |(refine @Ac _ _ _ _ _ _ _ ?_ ?_)
  |split)
end
end
section
@[reducible] def Pu(n:Nat):aD where
 ok:=λ| .go _=>false|_=>true
 cm:=True
 lim:=n
 nogo _:=rfl
 send _ _ _:=trivial
 recv _ _ _ _:=trivial
 select _ _ _:=trivial
@[reducible] def K0(n:Nat):aD where
 ok:=λ| .go _=>false| .send _ _=>false| .recv _ _ _=>false| .select _ _=>false|_=>true
 cm:=False
 lim:=n
 nogo _:=rfl
 send _ _ h:=by cases h
 recv _ _ _ h:=by cases h
 select _ _ h:=by cases h
section
@[reducible] def NC:aD:=K0 0
attribute [local instance] NC
variable(Q:AI)(U:Nat->Option Code)
@[go_sem] theorem aK:(alt Q U).underlying=Q.underlying:=rfl
@[go_sem] theorem PO:(alt Q U).info?=Q.info?:=rfl
@[go_sem] theorem Pa:(alt Q U).types=Q.types:=rfl
@[go_sem] theorem Sk:(alt Q U).rt=Q.rt:=rfl
@[go_sem] theorem Ov:(alt Q U).follows=Q.follows:=rfl
@[go_sem] theorem Pb:(alt Q U).depth=Q.depth:=rfl
@[go_sem] theorem dP(t w):(isAgg t).run (alt Q U) w=(isAgg t).run Q w:=km zq2 w
@[go_sem] theorem dk(t w):(sizeOf t).run (alt Q U) w=(sizeOf t).run Q w:=km zq2 w
@[go_sem] theorem cz(t w):(zeroValue t).run (alt Q U) w=(zeroValue t).run Q w:=km zq2 w
@[go_sem] theorem NZ(t w):(typeInfo t).run (alt Q U) w=(typeInfo t).run Q w:=km zq2 w
@[go_sem] theorem IY(t w):(underlying t).run (alt Q U) w=(underlying t).run Q w:=km zq2 w
end
def ry{Q a f fn}(c:Q.funcs[f]?=some fn)(b:a f=none):(alt Q a).funcs[f]?=some fn:=by
 have:= @iG (K0 0) Q a f;simp[this,c,ax,b]
def a8{P f fn c}(d:P.funcs[f]?=some fn)(a:(fn.name== "runtime.NumGoroutine")=false)(b:fn.body=some c)(args w):(SM f args).run P w=Tb (Ts f args) w:=by
 simp_all[SM]
def only (l:List Nat)(f:Nat):Option Code:=if l.contains f then none else some (.refuse "")
def bP{l f}(h:l.contains f=true):only l f=none:=by unfold only;rw[if_pos h]
def I2{Q:AI}{l:List Nat}{M n:Nat}(d:(decide (M<2^n)&& (List.range n).all λf=>M>>>f%2 !=1||l.contains f&&match Q.funcs[f]? with |some g=> ! g.name== "runtime.NumGoroutine" &&g.body.isSome|none=>false)=true){f}(args w)(h:M>>>f%2=1):(SM f args).run (alt Q (only l)) w=Tb (Ts f args) w:=by
 simp only[SD,decide_eq_true_eq,List.all_eq_true,List.mem_range]at d;have k:f<n:=by
  rcases Nat.lt_or_ge f n with b|b<;>first |exact b|(rw[Nat.shiftRight_eq_div_pow,Nat.div_eq_of_lt (V0 d.1 (Nat.pow_le_pow_right (by decide) b))]at h;cases h)
 have:=d.2 f k;simp only[h,bne_self_eq_false,Bool.false_or,SD]at this;have⟨j,a⟩:=this;split at a<;>first |(rename_i g e;simp only[SD,Bool.not_eq_true']at a;have⟨c,i⟩:=Option.isSome_iff_exists.1 a.2;exact a8 (ry e (bP j)) a.1 i args w)|cases a
end
section
open Go.Conc
def bO(fr:Sx)(cs:List Sx):T6:= {frame:=fr,callers:=cs,status:=Su,dying:=none}
def ND{b:Type}:Sem b->Prop
 | .pure _=>True
 |Uz _=>True
 | .load _ _ k=>∀v,ND (k v)
 | .program k=>∀p,ND (k p)
 |_=>False
def jq{e c s}{f:e->Sem c}(hs:ND s)(d:∀a,ND (f a)):ND (s>>=f):=by
 induction s with
 |pure a=>exact d a
 |halt h=>trivial
 |load m a k b=>exactλv=>b v (hs v)
 |program k b=>exactλv=>b v (hs v)
 |_=>exact hs.elim
def Nz{P f}{s:Sem f}(hs:ND s):∀w b d,s.run P (ah w b d)=cK (s.run P w) b d:=by
 induction s with
 |pure a=>exactλw b d=>rfl
 |halt h=>exactλw b d=>rfl
 |load m a k c=>
  intro w b d;simp[Sem.run];cases w.cell? a with
  |some v=>exact c v (hs v) w b d
  |none=>
   have e:(ah w b d).farLoad P a (m==SU)=w.farLoad P a (m==SU):=rfl;rw[e];cases w.farLoad P a (m==SU)with
   |ok r=>exact c _ (hs _) w b d
   |error h=>rfl
 |program k c=>exactλw b d=>c P (hs P) w b d
 |_=>exact hs.elim
def zp(t):ND (underlying t):=by
 intro p;show ND (match p.underlying t with |some d=>pure d|none=>stuck "no such type");split <;>trivial
def D2(t):ND (typeInfo t):=by
 intro p;show ND (match p.info? t with |some i=>pure i|none=>stuck "no such type");split <;>trivial
def Hh(t):ND (sizeOf t):=jq (D2 t) λ_=>trivial
def Bb(a):∀n i c,ND (loadCellsFrom a i n c)
 |0,i,c=>trivial
 |n+1,i,c=>λv=>Bb a n (i+1) _
def Fb(t a):ND (loadVar t a):=by
 refine jq (jq (zp t) λd=> ?_) λb=> ?_
 split <;>trivial;split;exact jq (Hh t) λn=>jq (Bb a n 0 #[]) λ_=>trivial
 exactλv=>trivial
def Mn{e g:Type}(f:e->Sem g)(h:∀a,ND (f a))(d:Array e):ND (d.mapM f):=by
 rw[Array.mapM_eq_foldlM,<- Array.foldlM_toList];generalize #[]=c;induction d.toList generalizing c with
 |nil=>trivial
 |cons x l i=>
  exact jq (jq (h x) λ_=>trivial) λb=>i b
def ut{P}{b:Sx}{w e}(h:b.leaving P w e)(i d):b.leaving P (ah w i d) e:=by
 cases e with
 |returned v=>
  have⟨f,l,k,c,g,j⟩:=h;refine⟨f,l,k,c,g,?_⟩;have:ND (results c b.tmps):=by
   refine jq (Mn _ (λr=> ?_) _) λ_=>trivial
   split <;>first |trivial|(refine jq ?_ λa=>Fb _ a;unfold asAddr;split <;>first |trivial|exactλp=>trivial)
  rw[Nz this,j];rfl
 |panicked m=>exact h
 |outgrown=>trivial
structure dZ(P:AI) where
 okF:V2->Prop
 H:(T6->Sz->Prop)->T6->Sz->Prop
 re:∀K g w Y d,H K g (ah w Y d)->H K g w
 stop:∀K g w,K g w->H K g w
 bind:∀K K' g w,H K g w->(∀g' w',K g' w'->H K' g' w')->H K' g w
 hit:∀K g w,g.status=Su->(∀g w,K g w->g.status=Su/\okF g.frame.fn)->(∀Y d,yZ P K g (ah w Y d))->H K g w
section
variable{P:AI}{D:dZ P}{K:T6->Sz->Prop}{fr fr':Sx}{cs cs':List Sx}{w:Sz}
def dZ.er{g}(h:D.H K g w)(a d):D.H K g (ah w a d):=D.re K g _ w.tape w.drawn h
def dD{u a}(h:Steps P (lone fr cs u) (lone fr' cs' a))(c:K (bO fr' cs') a):yZ P K (bO fr cs) u:=by
 have⟨n,b⟩:=h;exact⟨n,bO fr' cs',a,b,c⟩
def dZ.go(a:∀b d,yZ P (λg u=>(g.status=Su/\D.okF g.frame.fn)/\D.H K g u) (bO fr cs) (ah w b d)):D.H K (bO fr cs) w:=
 D.bind _ K _ _ (D.hit _ _ _ rfl (λg u h=>h.1) a) λe c h=>h.2
def dZ.one(h:∀u,step P (lone fr cs u)= .next (lone fr' cs' u))(a:D.okF fr'.fn)(b:D.H K (bO fr' cs') w):D.H K (bO fr cs) w:=
 D.go λc d=>dD (UA (h _)) ⟨⟨rfl,a⟩,D.er b c d⟩
theorem dZ.step{f:Sz->Sz}(h:∀a d,step P (lone fr cs (ah w a d))= .next (lone fr' cs' (f (ah w a d))))(b:D.okF fr'.fn)(c:∀a d,D.H K (bO fr' cs') (f (ah w a d))):D.H K (bO fr cs) w:=
 D.go λa d=>dD (UA (h a d)) ⟨⟨rfl,b⟩,c a d⟩
def Cont(D:dZ P)(b:Sx)(k:List Item)(cs:List Sx)(K:T6->Sz->Prop):Exit->Act->Sz->Prop
 |UK,a,w=>D.H K (bO (b.at a k) cs) w
 | .exit f,a,w=>∃e,exitTo f k=some e/\D.H K (bO (b.at a e) cs) w
 | .goto l,a,w=>∃e,gotoIn l k=some e/\D.H K (bO (b.at a e) cs) w
 | .ret,a,w=>∀c,D.H K (bO {b.at a c with mode:=Ut} cs) w
 |UB d,a,w=>∀c,D.H K (bO {b.at a c with mode:=Tm d} cs) w
 |U7,_,_=>False
def cL(D:dZ P)(c:Code)(Q:Exit->Act->Sz->Prop)(a:Act)(w:Sz):Prop:=
 ∀(b:Sx)(k:List Item)(cs:List Sx)(K:T6->Sz->Prop),D.okF b.fn->b.kind≠UY->(∀e f d,Q e f d->Cont D b k cs K e f d)->D.H K (bO (b.at a (Uc c::k)) cs) w
def aV(D:dZ P)(c:Array Oper)(Q:Exit->Act->Sz->Prop)(l:List Nat)(a:Act)(w:Sz):Prop:=
 ∀(b:Sx)(k:List Item)(cs:List Sx)(K:T6->Sz->Prop),D.okF b.fn->b.kind≠UY->(∀e d f,Q e d f->Cont D b k cs K e d f)->D.H K (bO (b.at a (SI c l::k)) cs) w
def cb(D:dZ P)(f:V2)(args:Array SH)(w:Sz)(R:Ending->Sz->Prop):Prop:=
 ∀(cs:List Sx)(K:T6->Sz->Prop),(∀e a fr,R e a->e≠.outgrown->fr.fn=f->fr.leaving P a e->D.H K (bO fr cs) a)->D.H K (bO (SL P f args Td) cs) w
variable{c:Code}{Q Q':Exit->Act->Sz->Prop}{a:Act}{b:Sx}{k:List Item}
def Cont.er{e}(h:Cont D b k cs K e a w)(g d):Cont D b k cs K e a (ah w g d):=by
 cases e with
 |normal=>exact D.er h g d
 |exit p=>have⟨m,i,j⟩:=h;exact⟨m,i,D.er j g d⟩
 |goto l=>have⟨m,i,j⟩:=h;exact⟨m,i,D.er j g d⟩
 |ret=>exactλf=>D.er (h f) g d
 |panic n=>exactλf=>D.er (h f) g d
 |outgrown=>exact h
def D6{u e p q}(f:D.okF b.fn)(r:b.kind≠UY)(h:Arrives P (lone fr cs u) b k cs e p q)(i:Cont D b k cs K e p q):
 yZ P (λg u=>(g.status=Su/\D.okF g.frame.fn)/\D.H K g u) (bO fr cs) u:=by
 cases e with
 |normal=>exact dD h ⟨⟨rfl,f⟩,i⟩
 |exit t=>have⟨n,j,m⟩:=i;exact dD (h n j) ⟨⟨rfl,f⟩,m⟩
 |goto l=>have⟨n,j,m⟩:=i;exact dD (h n j) ⟨⟨rfl,f⟩,m⟩
 |ret=>have⟨d,h⟩:=h;exact dD h ⟨⟨rfl,f⟩,i d⟩
 |panic s=>have⟨d,h⟩:=h;exact dD h ⟨⟨rfl,f⟩,i d⟩
 |outgrown=>exact i.elim
def qG(h:∀i d,c.wp P Q a (ah w i d)):cL D c Q a w:=λb k cs K g l m=>D.go λi d=>by
 have⟨e,p,n,j,f⟩:=h i d b k cs;exact D6 g l f (m _ _ _ j)
def ag(h:∀e,e.heap=w.heap->c.wp P Q a e):cL D c Q a w:=qG λf d=>h _ rfl
def zK(h:cL D c Q a w)(f:∀e a w,Q e a w->Q' e a w):cL D c Q' a w:=λb k cs K d i g=>h b k cs K d i λe j l h=>g _ _ _ (f _ _ _ h)
def N6(h:cL D c Q a w)(f d):cL D c Q a (ah w f d):=λb k cs K e g i=>D.er (h b k cs K e g i) f d
def Mc{e l}(h:aV D e Q l a w)(g d):aV D e Q l a (ah w g d):=λb k cs K f i j=>D.er (h b k cs K f i j) g d
def cb.mono{f args R d}(h:cb D f args w R)(l:∀e w',R e w'->d e w'):cb D f args w d:=
 λcs K n=>h cs K λe w' fr g m i j=>n e w' fr (l _ _ g) m i j
def cb.er{f args R}(h:cb D f args w R)(e d):cb D f args (ah w e d) R:=λcs K g=>D.er (h cs K g) e d
def cb.re{f args R e d}(h:cb D f args (ah w e d) R):cb D f args w R:=λcs K g=>D.re _ _ _ e d (h cs K g)
def fS(h:Q UK a w):cL D .skip Q a w:=λb k cs K d f e=>D.one (λu=>step_skip) d (e _ _ _ h)
def J0{e}(h:Q (.exit e) a w):cL D (.exit e) Q a w:=λb k cs K d j g=>by
 have⟨l,f,i⟩:=g _ _ _ h;exact D.one (λu=>step_exit f) d i
def pq{x}(j:x.plain=true){e}(i:e≠UK){a w}(h:Cont D b k cs K e a w):Cont D b (x::k) cs K e a w:=by
 cases e with
 |normal=>exact absurd rfl i
 |exit n=>have⟨f,g,d⟩:=h;exact⟨f,by cases x<;>simp_all[exitTo,Item.plain],d⟩
 |goto l=>have⟨f,g,d⟩:=h;exact⟨f,by cases x<;>simp_all[gotoIn,Item.plain],d⟩
 |ret=>exact h
 |panic m=>exact h
 |outgrown=>exact h
def xo{x y}(h:cL D x (Exit.then (cL D y Q) Q) a w):cL D (.seq x y) Q a w:=λb k cs K d i f=>
 D.one (λu=>step_seq) d (h b (Uc y::k) cs K d i λe m n g=>by
  cases e with
  |normal=>exact g b k cs K d i f
  |exit p=>exact pq rfl (by simp) (f _ _ _ g)
  |goto l=>exact pq rfl (by simp) (f _ _ _ g)
  |ret=>exact f _ _ _ g
  |panic j=>exact f _ _ _ g
  |outgrown=>exact f _ _ _ g)
def ac{x y}(h:∀K,RowKit.Hid (∀a w,cL D y Q a w->K a w)->cL D x (Exit.then K Q) a w):cL D (.seq x y) Q a w:=xo (h _ (Lib.hid λ_ _ h=>h))
def zL{c x y t}(g:a.eval c=Tk t)(h:cL D (if t then x else y) Q a w):cL D (Uu c x y) Q a w:=λb k cs K d f e=>
 D.one (λu=>step_cond g) d (h b k cs K d f e)
def bG{c x y}(d:a.eval c=Tk true)(h:cL D x Q a w):cL D (Uu c x y) Q a w:=zL d h
def bK{c x y}(d:a.eval c=Tk false)(h:cL D y Q a w):cL D (Uu c x y) Q a w:=zL d h
def ec{m c}(h:cL D c (V3 m Q) a w):cL D (.block m c) Q a w:=λb k cs K i r g=>
 D.one (λu=>step_block) i (h b (.inBlock m::k) cs K i r λe v s d=>by
  cases e with
  |normal=>exact D.one (λu=>step_inBlock) i (g _ _ _ d)
  |exit j=>
   by_cases f:j=m;simp[V3,f]at d;exact⟨k,by simp[exitTo,f],g _ _ _ d⟩;simp[V3,f]at d;have⟨p,n,q⟩:=g _ _ _ d;have:(m==j)=false:=by grind
   exact⟨p,by simp[exitTo,this,n],q⟩
  |goto l=>have⟨p,n,q⟩:=g _ _ _ d;exact⟨p,by simp[gotoIn,n],q⟩
  |ret=>exact g _ _ _ d
  |panic t=>exact g _ _ _ d
  |outgrown=>exact g _ _ _ d)
def Eh{f d}(h:aV D d Q (List.range d.size) a w):cL D (Ux f d false) Q a w:=λb k cs K e i g=>
 D.one (λu=>step_region) e (h b k cs K e i g)
def oM{g e}(h:∀t,aV D e Q (Region.schedule (P.follows .mixedOrders) e t) a w):cL D (Ux g e true) Q a w:=λb k cs K f i j=>
 D.go λl d=>dD (UA step_region_draw) ⟨⟨rfl,f⟩,D.er (w:=w) (h _ b k cs K f i j) l (d+1)⟩
def az{e}(h:Q UK a w):aV D e Q [] a w:=λb k cs K d g f=>D.one (λu=>step_region_end) d (f _ _ _ h)
def H9{g i N}(h:wpOp P g Q i N a w)(b:Sx)(rest k cs)(M:b.kind≠UY):
 (∃I t,N I t/\Steps P (lone (b.at a (SI g (i::rest)::k)) cs w) (lone (b.at I (SI g rest::k)) cs t))\/
 (∃l t,Q (UB l) a t/\∃E,Steps P (lone (b.at a (SI g (i::rest)::k)) cs w) (lone {b.at a E with mode:=Tm l} cs t))\/∃a w,Q U7 a w:=by
 unfold wpOp at h;split at h;rename_i u;have C:=step_op_skip (P:=P) (b:=b) (a:=a) (k:=k) (cs:=cs) (w:=w) (ops:=g) (i:=i) (rest:=rest) (by simp[u]);simp[u]at C;exact .inl ⟨a,w,h,UA C⟩;rename_i o u;split at h;rename_i L;rcases h with h|⟨_,A⟩
 have y:=stepG_op (P:=P) (b:=b) (k:=k) (cs:=cs) (w:=w) (rest:=rest) u L;have q:∀v,(b.at a (SI g (i::rest)::k)).finish v=b.at (a.put o.dst v) (SI g rest::k):=λv=>by
  simp[UJ,u]
 unfold Oper.wp at h;generalize z:(SE a.eval o).run P w=r at h;cases r with
 |ok n t=>
  cases n<;>simp[Oper.upon]at h;case value v=>exact .inl ⟨_,_,h,UA (step_lone_go (by simp[y,<- q,stepG.apply,z]))⟩
  case skip=>exact .inl ⟨_,_,h,UA (step_lone_go (by simp[y,<- q,stepG.apply,z]))⟩
  case defer d=>
   refine .inl ⟨_,_,h,UA (step_lone_go ?_)⟩;have:=by
    have:=UJ b {a with defers:=d::a.defers} g i rest k undef;rw[u]at this;exact this
   simp only[y,stepG.apply,Sem.runT_eq,z];exact congrArg (λfr=>Te {frame:=fr,callers:=cs,status:=Su,dying:=none} t) this
  case enter f s=>
   have⟨e,H,fr,B,p,_,m⟩:=h (b.at a (SI g (i::rest)::k)::cs);have j:step P (lone (b.at a (SI g (i::rest)::k)) cs w)= .next (lone (SL P f s Td) (b.at a (SI g (i::rest)::k)::cs) t):=
    step_lone_go (by rw[y];simp[stepG.apply,z,Frame.at])
   cases e with
   |returned v=>exact .inl ⟨_,_,B,.head j (Steps.trans p (UA (by rw[<- q];exact step_leave_returned m)))⟩
   |panicked l=>exact .inr (.inl ⟨l,H,B,SI g (i::rest)::k,.head j (Steps.trans p (UA (step_leave_panicked m)))⟩)
   |outgrown=>exact .inr (.inr B)
  case row G s=>
   have⟨v,H,B,F⟩:=h (b.at a (SI g (i::rest)::k)) cs;have j:step P (lone (b.at a (SI g (i::rest)::k)) cs w)= .next (lone (Frame.ofRow P G s Td) (b.at a (SI g (i::rest)::k)::cs) t):=
    step_lone_go (by rw[y];simp[stepG.apply,z,Frame.at])
   exact .inl ⟨_,_,B,.head j (by rw[<- q];omega)⟩
 |halt x t=>
  cases x<;>simp[Oper.upon]at h;case panic v=>exact .inr (.inl ⟨_,t,h,SI g (i::rest)::k,UA (step_lone_go (by simp[y,<- Frame.raise_at,stepG.apply,z]))⟩)
 exact .inr (.inr A);have C:=step_op_skip (P:=P) (b:=b) (a:=a) (k:=k) (cs:=cs) (w:=w) (ops:=g) (i:=i) (rest:=rest) (by grind);simp[u]at C;exact .inl ⟨_,_,h,UA C⟩
def Mb{l i rest p N}(h:∀s d,wpOp P l p i N a (ah w s d))(u:∀g e,N g e->aV D l Q rest g e)
 (x:∀f g e,p (UB f) g e->Q (UB f) g e) (v:∀g e,p U7 g e->Q U7 g e):aV D l Q (i::rest) a w:=λb k cs K j t q=>D.go λs d=>by
 rcases H9 (h s d) b rest k cs t with⟨g,e,m,r⟩|⟨y,e,m,n,r⟩|⟨g,e,m⟩
 exact dD r ⟨⟨rfl,j⟩,u _ _ m b k cs K j t q⟩;exact dD r ⟨⟨rfl,j⟩,q _ _ _ (x _ _ _ m) n⟩;exact(q _ _ _ (v _ _ m)).elim
def DK{f p}(rest):∀l a w,wpOps P f p l a w->∀(b:Sx) k cs,b.kind≠UY->
 (∃j g,p UK j g/\Steps P (lone (b.at a (SI f (l++rest)::k)) cs w) (lone (b.at j (SI f rest::k)) cs g))\/
 (∃e j g,p (UB e) j g/\∃d,Steps P (lone (b.at a (SI f (l++rest)::k)) cs w) (lone {b.at j d with mode:=Tm e} cs g))\/∃a w,p U7 a w:=by
 intro l;induction l with
 |nil=>exactλa w h b k cs _=>.inl ⟨a,w,h,.refl ..⟩
 |cons i l x=>
  intro a w h b k cs v;rcases H9 h b (l++rest) k cs v with⟨j,g,q,n⟩|⟨t,g,q,d,n⟩|q
  rcases x j g q b k cs v with⟨s,u,m,r⟩|⟨t,s,u,m,d,r⟩|m
  exact .inl ⟨s,u,m,n.trans r⟩;exact .inr (.inl ⟨t,s,u,m,d,n.trans r⟩);grind
  exact .inr (.inl ⟨t,a,g,q,d,n⟩);grind
def r7{i l rest Q1}(h:∀p d,wpOps P i Q1 l a (ah w p d))(u:∀g e,Q1 UK g e->aV D i Q rest g e)
 (t:∀f g e,Q1 (UB f) g e->Q (UB f) g e) (v:∀g e,Q1 U7 g e->Q U7 g e):aV D i Q (l++rest) a w:=λb k cs K j s q=>D.go λp d=>by
 rcases DK rest l a _ (h p d) b k cs s with⟨g,e,m,r⟩|⟨x,g,e,m,n,r⟩|⟨g,e,m⟩
 exact dD r ⟨⟨rfl,j⟩,u _ _ m b k cs K j s q⟩;exact dD r ⟨⟨rfl,j⟩,q _ _ _ (t _ _ _ m) n⟩;exact(q _ _ _ (v _ _ m)).elim
def qF{d}(l):∀k,(∀j,j<l.length->l[j]?=d[k+j]?)->wpOps P d Q (Tn k l.length)=wpList P d Q l:=by
 induction l with
 |nil=>simp[wpOps,wpList]
 |cons o l e=>
  intro k h;have i:=by simpa using(h 0 (by simp)).symm
  have g:=e (k+1) λj f=>by have:=h (j+1) (by simpa using f);grind
  simp_all[List.range'_succ,wpOps,wpList]
def aW{l:List Oper}(s n m)(h:∀N,RowKit.Hid (∀f g,aV D l.toArray Q (Tn (s+n) m) f g->N f g)->∀p,p.heap=w.heap->wpList P l.toArray (Exit.then N Q) ((l.drop s).take n) a p)(t:s+n<=l.length):
 aV D l.toArray Q (Tn s (n+m)) a w:=by
 have e:Tn s (n+m)=Tn s n++Tn (s+n) m:=by
  rw[<- List.range'_append_1]
 rw[e];have i:((l.drop s).take n).length=n:=by rw[List.length_take,List.length_drop];omega
 refine r7 (Q1:=Exit.then (λf g=>aV D l.toArray Q (Tn (s+n) m) f g) Q) (λq d=> ?_) (λf g h=>h) (λr f g h=>h) λf g h=>h
 have:=h (λf g=>aV D l.toArray Q (Tn (s+n) m) f g) (Lib.hid λ_ _ h=>h) (ah w q d) rfl;rw[<- qF ((l.drop s).take n) s (λj u=>by
  grind),i]at this
 omega
def ao{d}{l:List Oper}(h:aV D l.toArray Q (Tn 0 l.length) a w):cL D (Ux d l.toArray false) Q a w:=Eh (by rw[List.range_eq_range'];omega)
def f9{g i rest o f args R}(s:g[i]?=some o)(x:Uq o (yielded g a.tmps)=true)
 (E:∀u,(SE a.eval o).run P u=Tb (Ts f args) u) (C:D.okF f) (h:cb D f args w R)
 (A:∀v j,R (.returned v) j->aV D g Q rest (a.put o.dst v) j) (z:∀ch j,R (.panicked ch) j->Q (UB ch) a j):aV D g Q (i::rest) a w:=λb k cs K l B t=>by
 have F:=λu=>stepG_op (P:=P) (b:=b) (k:=k) (cs:=cs) (w:=u) (rest:=rest) s x
 have m:∀v,(b.at a (SI g (i::rest)::k)).finish v=b.at (a.put o.dst v) (SI g rest::k):=λv=>by
  simp[UJ,s]
 refine D.one (fr':=SL P f args Td) (cs':=b.at a (SI g (i::rest)::k)::cs) (λu=>step_lone_go (by simp_all[stepG.apply,Frame.at])) C ?_;refine h _ K λe j fr p n y q=> ?_
 cases e with
 |returned v=>
  refine D.go λr d=>dD (UA (step_leave_returned (ut q r d))) ⟨⟨rfl,l⟩,?_⟩
  rw[m];exact D.er (A v j p b k cs K l B t) r d
 |panicked ch=>exact D.one (λu=>step_leave_panicked (w:=u) q) l (t _ _ _ (z ch j p) _)
 |outgrown=>exact absurd rfl n
def bu{f fn c args R}(i:D.okF f)(s:∀t,¬ R .outgrown t)(q:P.funcs[f]?=some fn)(y:fn.body=some c)
 (h:cL D c (bodyPost P fn R) {tmps:=args++Vn (fn.ntmps-args.size) undef,defers:=[]} w):cb D f args w R:=λcs K r=>by
 let b:= {(default:Sx)with fn:=f,kind:=Td}
 have d:SL P f args Td=b.at {tmps:=args++Vn (fn.ntmps-args.size) undef,defers:=[]} [Uc c]:=by
  grind [SL,Frame.at]
 rw[d];refine h b [] cs K i (by simp[b]) λe A t g=> ?_
 cases e with
 |normal=>
  have⟨m,v,p,j⟩:=g;exact D.one (λu=>step_end) i (r _ _ _ j (by simp) rfl ⟨rfl,m,rfl,fn,q,p⟩)
 |ret=>
  have⟨m,v,p,j⟩:=g;exactλn=>r _ _ _ j (by simp) rfl ⟨rfl,m,rfl,fn,q,p⟩
 |panic x=>
  have⟨m,j⟩:=g;exactλn=>r _ _ _ j (by simp) rfl ⟨rfl,m,fn,q⟩
 |exit z=>exact g.elim
 |goto l=>exact g.elim
 |outgrown=>exact(s _ g).elim
end
end
section
section
variable(O:Nat->Nat)
def bi(a:Addr):Addr:= {a with block:=O a.block}
def kO:Fn->Fn
 | .yield l=>.yield (O l)
 |f=>f
def ab:SH->SH
 |Sv a=>Sv (a.map (bi O))
 |Tt a n c=>Tt (a.map (bi O)) n c
 | .map r=>.map (r.map O)
 |TF r=>TF (r.map O)
 |Tp g f e=>Tp (kO O g) (f.attach.map λ⟨x,_⟩=>ab x) (e.attach.map λ⟨x,_⟩=>ab x)
 |TK t v=>TK t (ab v)
 |U3 h=>U3 (h.attach.map λ⟨x,_⟩=>ab x)
 |Ti i=>Ti (i.attach.map λ⟨x,_⟩=>ab x)
 |Tk b=>Tk b
 |TU k n=>TU k n
 |Tu k b=>Tu k b
 |Tf k a b=>Tf k a b
 |Tq s=>Tq s
 |U2=>U2
 |SO=>SO
end
section
variable{O:Nat->Nat}
def attach_map{b c:Type}(a:Array b)(f:b->c):(a.attach.map λx=>match x with |⟨x,_⟩=>f x)=a.map f:=by
 simp
@[simp] theorem aY(a):ab O (Sv a)=Sv (a.map (bi O)):=by rw[ab]
@[simp] theorem dG(a n c):ab O (Tt a n c)=Tt (a.map (bi O)) n c:=by rw[ab]
@[simp] theorem ls(r):ab O (.map r)= .map (r.map O):=by rw[ab]
@[simp] theorem ko(r):ab O (TF r)=TF (r.map O):=by rw[ab]
@[simp] theorem iZ(fn a b):ab O (Tp fn a b)=Tp (kO O fn) (a.map (ab O)) (b.map (ab O)):=by rw[ab,attach_map,attach_map]
@[simp] theorem dW(t v):ab O (TK t v)=TK t (ab O v):=by rw[ab]
@[simp] theorem fy(cs):ab O (U3 cs)=U3 (cs.map (ab O)):=by rw[ab,attach_map]
@[simp] theorem gl(cs):ab O (Ti cs)=Ti (cs.map (ab O)):=by rw[ab,attach_map]
@[simp] theorem fK(b):ab O (Tk b)=Tk b:=by rw[ab]
@[simp] theorem cr(k n):ab O (TU k n)=TU k n:=by rw[ab]
@[simp] theorem eC(k n):ab O (Tu k n)=Tu k n:=by rw[ab]
@[simp] theorem eZ(k n m):ab O (Tf k n m)=Tf k n m:=by rw[ab]
@[simp] theorem ct(s):ab O (Tq s)=Tq s:=by rw[ab]
@[simp] theorem fT:ab O U2=U2:=by rw[ab]
@[simp] theorem db:ab O SO=SO:=by rw[ab]
@[simp] theorem jo(a):(bi O a).block=O a.block:=rfl
@[simp] theorem AJ(a):(bi O a).off=a.off:=rfl
@[simp] theorem GU(a):(bi O a).spot=a.spot:=rfl
@[simp] theorem qW(a n):bi O (a.add n)=(bi O a).add n:=by
 unfold Addr.add;split <;>rfl
@[simp] theorem ig(v):(ab O v).cells=v.cells.map (ab O):=by
 cases v<;>simp[Value.cells]
@[simp] theorem jl:ab O undef=undef:=by simp[undef]
def AF(v):(ab O v).oneCell'=v.oneCell':=by
 cases v<;>simp[Vo]
def ii(e:T0):T0:=
 match e.loc with
 |TE a=> {e with loc:=TE (bi O a)}
 |Ur r=> {e with loc:=Ur (O r)}
 |TP (.acquire a)=> {e with loc:=TP (.acquire (bi O a))}
 |TP (.release a)=> {e with loc:=TP (.release (bi O a))}
 |TP (.releaseMerge a)=> {e with loc:=TP (.releaseMerge (bi O a))}
 |TP (.read a)=> {e with loc:=TP (.read (bi O a))}
 |TP (.write a)=> {e with loc:=TP (.write (bi O a))}
 |_=>e
def Pn:Halt->Halt
 |Ud v=>Ud (ab O v)
 |h=>h
def Plain:Obj->Prop
 |Ty _ _=>False
 | .view _ _=>False
 |Ui _ _=>False
 |_=>True
def yc(O:Nat->Nat)(h d:Prop)(o:Obj)(x:Option Obj):Prop:=
 match o with
 |SY c e i=>(h->i=(0,c.size)/\∃b,x=some (SY (c.map (ab O)) e b)/\b.2<=c.size)/\(¬ h->x=some (SY (c.map (ab O)) e i))
 |Ty a l=>x=some (Ty (bi O a) l)
 |Ui _ _=>False
 | .view _ _=>False
 |o=>d->∃g,x=some g/\Plain g/\((∃c e f,g=SY c e f)\/g.isChan=o.isChan)
structure Known where
 d:Nat->Prop
 os:Os
instance:CoeFun Known λ_=>Nat->Prop:=⟨Known.d⟩
structure eo(O:Nat->Nat)(Ro:Nat->Prop)(D:Known)(w w':Sz):Prop where
 inj:∀i j,O i=O j->i=j
 tape:w'.tape=w.tape
 drawn:w'.drawn=w.drawn
 ro:∀i,Ro i->i<w.heap.size
 blk:∀i o,w.heap[i]?=some o->yc O (Ro i) (D i) o w'.heap[O i]?
 num:∀(i:Nat)(a:Addr)(l:Bool),w.heap[i]?=some (Ty a l)->D a.block
 os:w.os=D.os/\w'.os=D.os
def g6(O:Nat->Nat)(w a:Sz)(n:Nat):Prop:=∀j,w.heap.size+j<n->O (w.heap.size+j)=a.heap.size+j
class Ren(α:Type) where
 ren:(Nat->Nat)->α->α
instance:Ren SH:=⟨ab⟩
instance:Ren Addr:=⟨bi⟩
instance:Ren Unit:=⟨λ_ x=>x⟩
instance:Ren Nat:=⟨λ_ x=>x⟩
instance:Ren Int:=⟨λ_ x=>x⟩
instance:Ren Bool:=⟨λ_ x=>x⟩
instance:Ren ByteArray:=⟨λ_ x=>x⟩
instance:Ren UInt8:=⟨λ_ x=>x⟩
instance:Ren IntKind:=⟨λ_ x=>x⟩
instance:Ren TypeInfo:=⟨λ_ x=>x⟩
instance:Ren TypeDesc:=⟨λ_ x=>x⟩
instance:Ren AI:=⟨λ_ x=>x⟩
instance{b a:Type}[Ren b][Ren a]:Ren (b×a):=⟨λO x=>(Ren.ren O x.1,Ren.ren O x.2)⟩
instance{a:Type}[Ren a]:Ren (Array a):=⟨λO x=>x.map (Ren.ren O)⟩
instance{a:Type}[Ren a]:Ren (List a):=⟨λO x=>x.map (Ren.ren O)⟩
instance{a:Type}[Ren a]:Ren (Option a):=⟨λO x=>x.map (Ren.ren O)⟩
end
def mC{P}{w d:Sz}{a v b l}(h:w.farStore P a v b= .ok (d,l)):d.heap.size=w.heap.size:=by
 unfold Tx at h;split at h;split at h
 .rename_i c;simp[Except.ok.injEq]at h;subst h;simp[U9,bind,Ta]at c;repeat' split at c
  all_goals first
   |(cases c;done)
   |(obtain⟨rfl,_⟩:=c;simp)
 .cases h
 cases h
def runT_size{e}(P)(s:Sem e):∀w d,w.heap.size<=(dh (s.runT P w d).1).heap.size:=by
 induction s with
 |pure a=>exactλw d=>Sw _
 |halt x=>exactλw d=>Sw _
 |load m a k b=>
  intro w d;simp only[Sy];split;exact b ..;split <;>first |exact b .. |exact Sw _
 |store m a v k b=>
  intro w d;cases v;all_goals simp only[Sy]
  case agg=>exact Sw _
  case tuple=>exact Sw _
  all_goals
   split;split <;>first |exact Sw _|exact UD (by simp[SZ]) (b ..)
   split <;>first |(rename_i f;rw[<- mC f];exact b ..)|exact Sw _
 |new o k b=>exactλw d=>UD (by simp) (b ..)
 |shape r k b=>exactλw d=>b ..
 |freeze a n k b=>exactλw d=>UD (by grind [World.freeze]) (b ..)
 |frozen a k b=>exactλw d=>b ..
 |getObj r k b=>
  intro w d;simp only[Sy];split <;>first |exact Sw _|exact b ..
 |setObj r o k b=>
  intro w d;simp only[Sy];split <;>first |exact Sw _|exact UD (by simp) (b ..)
 |choose q k b=>
  grind [Sy]
 |sys c k b=>
  intro w d;have:(w.sys c).2.heap=w.heap:=by
   unfold UX;have⟨h,_,_,g,_⟩:=nJ (Uj c w.os) w<;>grind
  have:=b (w.sys c).1 (w.sys c).2 (d.push ⟨.output,true,false⟩);simp_all[Sy]
 |program k b=>exactλw d=>b ..
 |mark m k b=>exactλw d=>b ..
section
variable{O:Nat->Nat}{Ro:Nat->Prop}{D:Known}{P P':AI}
def tF(n):(Ren.ren O n:Nat)=n:=rfl
def tG(n):(Ren.ren O n:Int)=n:=rfl
def AE(n):(Ren.ren O n:Bool)=n:=rfl
def xN(v):(Ren.ren O v:SH)=ab O v:=rfl
def sH(v):(Ren.ren O v:ByteArray)=v:=rfl
def Jw(v):(Ren.ren O v:UInt8)=v:=rfl
def AD(v):(Ren.ren O v:IntKind)=v:=rfl
def uP(v):(Ren.ren O v:TypeInfo)=v:=rfl
def Jv(v):(Ren.ren O v:TypeDesc)=v:=rfl
def GT{b a}[Ren b][Ren a](x:b)(y:a):Ren.ren O (x,y)=(Ren.ren O x,Ren.ren O y):=rfl
def M5(v):(Ren.ren O v:Array SH)=v.map (ab O):=rfl
def Sub(b a:Array T0):Prop:=∀c∈a,∃e∈b,c=ii (O:=O) e
def tB:Sub (O:=O) #[] #[]:=λe a=>by simp at a
def jR{c a}(h:Sub (O:=O) c a)(e):Sub (O:=O) (c.push e) (a.push (ii (O:=O) e)):=λx b=>by
 rcases T4.1 b with b|rfl
 obtain⟨y,d,rfl⟩:=h x b<;>grind;simp
def Jd{b a}(h:Sub (O:=O) b a)(e):Sub (O:=O) (b.push e) a:=λx c=>by
 obtain⟨y,d,rfl⟩:=h x c<;>grind
def Ca{e:Type}[Ren e](O:Nat->Nat)(Ro:Nat->Prop)(D:Known)(w f:Sz)(x d:Result e×Array T0):Prop:=¬ Big x.2/\
 ((∃a c b,x.1=Tb a c/\d.1=Tb (Ren.ren O a) b/\Sub (O:=O) x.2 d.2/\eo O Ro D c b/\b.heap.size+w.heap.size=f.heap.size+c.heap.size)\/
 (∃h c b,x.1=SJ h c/\¬ Dead h/\d.1=SJ (Pn (O:=O) h) b/\Sub (O:=O) x.2 d.2/\eo O Ro D c b/\b.heap.size+w.heap.size=f.heap.size+c.heap.size)\/
 (∃h c,x.1=SJ h c/\Dead h))
def mu{d:Type}[Ren d](P P':AI)(O:Nat->Nat)(Ro:Nat->Prop)(D:Known)(s e:Sem d):Prop:=
 ∀w b c a,eo O Ro D w b->¬ Big c->Sub (O:=O) c a->g6 O w b (dh (s.runT P w c).1).heap.size->Ca O Ro D w b (s.runT P w c) (e.runT P' b a)
def jW{w w' n m}(h:g6 O w w' n)(b:m<=n):g6 O w w' m:=λj a=>h j (by omega)
def vb{w c a b n}(h:g6 O w c n)(f:w.heap.size<=a.heap.size)(hs:b.heap.size+w.heap.size=c.heap.size+a.heap.size):g6 O a b n:=λj d=>by
 have:=h (a.heap.size-w.heap.size+j) (by omega);have e:w.heap.size+(a.heap.size-w.heap.size+j)=a.heap.size+j:=by omega
 rw[e]at this;omega
def am{α U}[Ren α][Ren U]{s p}{f y:α->Sem U}(hs:mu P P' O Ro D s p)(H:∀a,mu P P' O Ro D (f a) (y (Ren.ren O a))):mu P P' O Ro D (s>>=f) (p>>=y):=by
 intro w A i m F B G n;rw[aM]at n ⊢;rw[aM];have u:(dh (s.runT P w i).1).heap.size<=(dh (match s.runT P w i with
  |(Tb a b,e)=>(f a).runT P b e
  |(SJ h b,e)=>(SJ h b,e)).1).heap.size:=by
  generalize s.runT P w i=x;have⟨r,e⟩:=x;cases r with
  |ok a b=>exact runT_size P (f a) b e
  |halt h b=>exact Sw _
 have v:=hs w A i m F B G (jW n u);have z:=runT_size P s w i;generalize s.runT P w i=x at v n z ⊢;generalize p.runT P' A m=K at v ⊢;have⟨r,e⟩:=x;have⟨L,I⟩:=K;obtain⟨d,⟨a,b,c,j,l,g,q,t⟩|⟨h,b,c,j,l,q,g,t,E⟩|⟨h,b,j,l⟩⟩:=v<;>first |(subst j;subst l;have⟨C,k⟩:=H a b c e I q d g (vb n z t);refine⟨C,?_⟩;grind)|(subst j;subst q;exact⟨d,.inr (.inl ⟨h,b,c,rfl,l,rfl,g,t,E⟩)⟩)|(subst j;exact⟨d,.inr (.inr ⟨h,b,rfl,l⟩)⟩)
def ae{α}[Ren α]{a b}(h:b=Ren.ren O a):mu P P' O Ro D (pure a:Sem α) (pure b):=by
 subst h;exactλw e i g d c f j=>⟨c,.inl ⟨a,w,e,rfl,rfl,f,d,rfl⟩⟩
def bD{α}[Ren α]{h}{c:Sem α}(b:Dead h):mu P P' O Ro D (Uz h) c:=λw i g d e a j f=>⟨a,.inr (.inr ⟨h,w,rfl,b⟩)⟩
def aj{α}[Ren α]{m}{a:Sem α}:mu P P' O Ro D (stuck m) a:=bD trivial
def gj{α}[Ren α]{v v'}(h:v'=ab O v):mu P P' O Ro D (goPanic v:Sem α) (goPanic v'):=by
 subst h;exactλw a g b c d e f=>⟨d,.inr (.inl ⟨Ud v,w,a,rfl,id,rfl,e,c,rfl⟩)⟩
def dF{α}[Ren α]{f a:AI->Sem α}(h:mu P P' O Ro D (f P) (a P')):mu P P' O Ro D (program>>=f) (program>>=a):=h
def bp{α}[Ren α]{c c'}[Decidable c][Decidable c']{x y b a:Sem α}(e:c↔c')(d:c->mu P P' O Ro D x b)(f:¬ c->mu P P' O Ro D y a):mu P P' O Ro D (if c then x else y) (if c' then b else a):=by
 by_cases h:c;rw[if_pos h,if_pos (e.1 h)];exact d h;grind
def oE{a e}(h:¬ Big a)(b:TC e≠.mark .noRoom):¬ Big (a.push e):=λh=>h
def qR(q):mu P P' O Ro D (choose q) (choose q):=by
 intro w b g e a c d f;simp only[choose,Sy];split;exact⟨c,.inl ⟨_,w,b,rfl,rfl,d,a,rfl⟩⟩;refine⟨c,.inl ⟨_,{w with drawn:=w.drawn+1},{b with drawn:=b.drawn+1},rfl,?_,d,⟨a.inj,a.tape,by rw[a.drawn],a.ro,a.blk,a.num,a.os⟩,rfl⟩⟩;rw[a.tape,a.drawn];rfl
def yU{w g}(l:eo O Ro D w g){a v}(b:w.cell? a=some v):g.cell? (bi O a)=some (ab O v)/\
 ∃c e fz,w.heap[a.block]?=some (SY c e fz)/\a.spot.isSome=false/\c[a.off]?=some v:=by
 unfold World.cell? at b ⊢;cases f:w.heap[a.block]? with
 |none=>rw[f]at b;cases b
 |some o=>
  rw[f]at b;have j:=l.blk _ _ f;cases o;case cells c e fz=>
   have i:∃d,g.heap[O a.block]?=some (SY (c.map (ab O)) e d):=by
    by_cases k:Ro a.block<;>first |exact(j.1 k).2.imp λ_ h=>h.1|exact⟨fz,j.2 k⟩
   have⟨d,i⟩:=i<;>simp_all
  all_goals cases b
def Kg{w c}(e:eo O Ro D w c)(P a b):∃s,w.farLoad P a b=TR (TV s):=by
 unfold UO Uy;cases d:w.heap[a.block]? with
 |none=>exact⟨_,rfl⟩
 |some o=>
  cases o<;>first |exact(e.blk _ _ d).elim|exact⟨_,rfl⟩
def Ic{w c}(e:eo O Ro D w c)(P a v b):∃s,w.farStore P a v b=TR (TV s):=by
 unfold Tx Uy;cases d:w.heap[a.block]? with
 |none=>exact⟨_,rfl⟩
 |some o=>
  cases o<;>first |exact(e.blk _ _ d).elim|exact⟨_,rfl⟩
def qP(a m):mu P P' O Ro D (load a m) (load (bi O a) m):=by
 intro w e k d b c g j;simp only[load,Sy];cases f:w.cell? a with
 |some v=>
  rw[(yU b f).1];exact⟨oE c (by simp[TC]),.inl ⟨v,w,e,rfl,rfl,jR g ⟨TE a,false,m==SU⟩,b,rfl⟩⟩
 |none=>
  have⟨h,i⟩:=Kg b P a (m==SU);rw[i];exact⟨c,.inr (.inr ⟨_,w,rfl,trivial⟩)⟩
end
section
variable{O:Nat->Nat}{Ro:Nat->Prop}{D:Known}{P P':AI}
def Gv(a v m):mu P P' O Ro D (store a v m) (store (bi O a) (ab O v) m):=by
 intro w q j N g p K T;have F:∀(P:AI)(u:Sz)(x:Addr)(y:SH)(j:Array T0),y.oneCell'=true->(store x y m).runT P u j=(match u.cell? x with
  |some _=>if u.frozen? x then(SJ (SS (Tz "a write to bytes that a string shares")) u,j)else(Tb () (u.setCell x y),j.push ⟨TE x,true,m==SU⟩)
  |none=>match u.farStore P x y (m==SU)with| .ok (u,f)=>(Tb () u,j++f.toArray.map (⟨.cell ·,true,m== .atomic⟩))|TR h=>(SJ h u,j)):=λP u x y j C=>by
  cases y<;>first |rfl|(exact absurd C (by decide))|(simp[Vo]at C)
 by_cases G:v.oneCell'=true;rw[F P w a v j G,F P' q _ _ _ (by rw[AF];omega)];cases R:w.cell? a with
 |some o=>
  have⟨t,c,e,M,A,Q,B⟩:=yU g R;rw[t];dsimp only;by_cases s:w.frozen? a=true;rw[if_pos s];exact⟨p,.inr (.inr ⟨_,w,rfl,trivial⟩)⟩;rw[if_neg s];have H:a.off<c.size:=(SR.1 B).1;have E:=g.blk _ _ A;have n:¬ Ro a.block:=λz=>by
   have:=(E.1 z).1;simp_all[UN]
  have k:q.heap[O a.block]?=some (SY (c.map (ab O)) e M):=E.2 n;have r:¬ q.frozen? (bi O a)=true:=λh=>s (by
   unfold UN at h ⊢;rw[jo,k]at h;rw[A];exact h)
  rw[if_neg r];refine⟨oE p (by simp[TC]),.inl ⟨(),w.setCell a v,q.setCell (bi O a) (ab O v),rfl,rfl,jR K ⟨TE a,true,m==SU⟩,⟨g.inj,g.tape,g.drawn,λi b=>by simpa[SZ]using g.ro i b,λi o b=> ?_,λi x l b=> ?_,g.os⟩,by simp[SZ]⟩⟩;rotate_left
  unfold SZ at b;dsimp only at b;rw[SV]at b;by_cases d:a.block=i<;>first |grind|(rw[if_neg d]at b;exact g.num _ _ _ b)
  unfold SZ at b ⊢;dsimp only at b ⊢;rw[SV]at b ⊢;by_cases d:a.block=i<;>first |(subst d;rw[if_pos rfl,A]at b;simp only[AS,Option.some.injEq]at b;subst b;refine⟨λz=>absurd z n,λ_=> ?_⟩;simp[*])|(rw[if_neg d]at b;rw[jo,if_neg λh=>d (g.inj _ _ h)];exact g.blk _ _ b)
 |none=>
  have⟨L,S⟩:=Ic g P a v (m==SU);rw[S];exact⟨p,.inr (.inr ⟨_,w,rfl,trivial⟩)⟩
 have I:(store a v m).runT P w j=(SJ (TV "store: not the value of one cell") w,j):=by
  cases v<;>first |rfl|(exact absurd rfl G)
 rw[I];exact⟨p,.inr (.inr ⟨_,w,rfl,trivial⟩)⟩
def yW{k d o}{h:Array Obj}{i:Nat}{x}(g:yc O k d o h[i]?):yc O k d o (h.push x)[i]?:=by
 have b:∀y,h[i]?=some y->(h.push x)[i]?=some y:=λy p=>by
  have q:=(SR.1 p).1;rw[SP,if_neg (by omega)];omega
 cases o;case cells c e s=>exact⟨λj=>⟨(g.1 j).1,(g.1 j).2.imp λf h=>⟨b _ h.1,h.2⟩⟩,λj=>b _ (g.2 j)⟩
 case number a l=>exact b _ g
 case pending=>exact g.elim
 case view=>exact g.elim
 all_goals exactλn=>let⟨y,m,r⟩:=g n;⟨y,b _ m,r⟩
def qO(e c):mu P P' O Ro D (newRow e c) (newRow e (c.map (ab O))):=by
 intro w f p h b j k m;have d:O w.heap.size=f.heap.size:=by
  have:=m 0 (by show w.heap.size+0<(w.heap.push _).size;simp);omega
 refine⟨j,.inl ⟨⟨w.heap.size,0,none⟩,{w with heap:=w.heap.push (SY c e)},{f with heap:=f.heap.push (SY (c.map (ab O)) e)},rfl,?_,k,⟨b.inj,b.tape,b.drawn,λi a=>by have:=b.ro i a;grind,λi o a=> ?_,λi x l a=> ?_,b.os⟩,by grind⟩⟩;rotate_right
 rw[SP]at a;split at a;cases a;exact b.num _ _ _ a;simp only[newRow,newObj,bind,U1,Sy,pure,Ren.ren,bi,d];rw[SP]at a;split at a<;>first |(rename_i g;cases a;subst g;refine⟨λn=>absurd (b.ro _ n) (Nat.lt_irrefl _),λ_=> ?_⟩;rw[d,SP,if_pos rfl])|exact yW (b.blk _ _ a)
end
section
variable{O:Nat->Nat}{Ro:Nat->Prop}{D:Known}{Q:AI}{U:Nat->Option Code}
abbrev au{α:Type}[Ren α](Q:AI)(U:Nat->Option Code)(O:Nat->Nat)(Ro:Nat->Prop)(D:Known)(s a:Sem α):Prop:=mu (alt Q U) Q O Ro D s a
def kH(t):au Q U O Ro D (typeInfo t) (typeInfo t):=by
 refine dF ?_;simp[iV];split;exact ae rfl;exact aj
def qo(t):au Q U O Ro D (underlying t) (underlying t):=by
 refine dF ?_;simp[qL];split;exact ae rfl;exact aj
def fF(t):au Q U O Ro D (sizeOf t) (sizeOf t):=am (kH t) λa=>ae rfl
def yj(t):au Q U O Ro D (isAgg t) (isAgg t):=by
 refine am (qo t) λa=> ?_
 show au Q U O Ro D (match a with |V5 _| .array .. =>pure true|_=>pure false) (match a with |V5 _| .array .. =>pure true|_=>pure false);split <;>exact ae rfl
def l4(Q:AI)(O:Nat->Nat):Prop:=∀t i v,Q.info? t=some i->i.zero=some v->ab O v=v
def jN(P t w a):(typeInfo t).runT P w a=match P.info? t with
 |some i=>(Tb i w,a)
 |none=>(SJ (TV "no such type") w,a):=by
 show(match P.info? t with |some i=>pure i|none=>stuck "no such type").runT P w a=_;cases P.info? t<;>rfl
def lk{d}[Ren d](t){f c:TypeInfo->Sem d}(h:∀i,Q.info? t=some i->au Q U O Ro D (f i) (c i)):au Q U O Ro D (typeInfo t>>=f) (typeInfo t>>=c):=by
 intro w m l b k g n a;rw[aM,jN]at a ⊢;rw[aM,jN];have e:(alt Q U).info? t=Q.info? t:=rfl;rw[e]at a ⊢;cases j:Q.info? t with
 |none=>exact⟨g,.inr (.inr ⟨_,w,rfl,trivial⟩)⟩
 |some i=>
  rw[j]at a;exact h i j w m l b k g n a
def mY(P t w a):(underlying t).runT P w a=match P.underlying t with
 |some i=>(Tb i w,a)
 |none=>(SJ (TV "no such type") w,a):=by
 show(match P.underlying t with |some i=>pure i|none=>stuck "no such type").runT P w a=_;cases P.underlying t<;>rfl
def bW{g}[Ren g](t){f c:TypeDesc->Sem g}(h:∀d,Q.underlying t=some d->au Q U O Ro D (f d) (c d)):au Q U O Ro D (underlying t>>=f) (underlying t>>=c):=by
 intro w n m b l j p a;rw[aM,mY]at a ⊢;rw[aM,mY];have e:(alt Q U).underlying t=Q.underlying t:=rfl;rw[e]at a ⊢;cases k:Q.underlying t with
 |none=>exact⟨j,.inr (.inr ⟨_,w,rfl,trivial⟩)⟩
 |some i=>
  rw[k]at a;exact h i k w n m b l j p a
def gd(c:l4 Q O)(t):au Q U O Ro D (zeroValue t) (zeroValue t):=by
 refine lk t λi a=> ?_
 cases b:i.zero with
 |some v=>exact ae (c t i v a b).symm
 |none=>refine bD ?_;trivial
def mT(a):∀n i c,au Q U O Ro D (loadCellsFrom a i n c) (loadCellsFrom (bi O a) i n (c.map (ab O)))
 |0,i,c=>ae rfl
 |n+1,i,c=>by
  refine am ?_ λv=> ?_<;>first |(rw[<- qW];exact qP _ _)|(have:=mT a n (i+1) (c.push v);rw[Array.map_push]at this;omega)
def rM(a n):au Q U O Ro D (loadCells a n) (loadCells (bi O a) n):=by
 unfold loadCells;have:=mT (Q:=Q) (U:=U) (O:=O) (Ro:=Ro) (D:=D) a n 0 #[];grind
def jj(a):∀vs i,au Q U O Ro D (storeCells a vs i) (storeCells (bi O a) (vs.map (ab O)) i)
 |[],i=>ae rfl
 |v::vs,i=>by
  refine am ?_ λ_=>jj a vs (i+1)
  rw[<- qW];exact Gv _ _ _
def ui(t a):au Q U O Ro D (loadVar t a) (loadVar t (bi O a)):=by
 refine am (yj t) λb=> ?_
 refine bp SK (λ_=> ?_) λ_=>qP _ _
 refine am (fF t) λn=> ?_
 refine am (rM a n) λc=>ae ?_
 simp[Ren.ren]
def Ad(t a v):au Q U O Ro D (storeVar t a v) (storeVar t (bi O a) (ab O v)):=by
 refine am (fF t) λn=> ?_
 simp only[ig,Ul,U5];refine bp SK (λ_=>am aj λ_=>jj _ _ _) λ_=>jj _ _ _
def na(t v):au Q U O Ro D (newVar t v) (newVar t (ab O v)):=by
 simp[newVar];exact qO _ _
def qT(a):∀l cells,TH a (cells.map (ab O)) (l.map λx=>(x.1,ab O x.2))=(TH a cells l).map (Array.map (ab O))
 |[],cells=>rfl
 |(i,v)::d,cells=>by
  simp only[Tr,TH,ig,Ul];cases a i with
  |none=>rfl
  |some p=>
   have⟨f,h⟩:=p;dsimp only;split;rfl;have e:∀(l:List (SH×Nat))(c:Array SH),(l.map λx=>(ab O x.1,x.2)).foldl (λg(x:SH×Nat)=>g.setIfInBounds (f+x.2) x.1) (c.map (ab O))=(l.foldl (λg(x:SH×Nat)=>g.setIfInBounds (f+x.2) x.1) c).map (ab O):=by
    intro l;induction l with
    |nil=>exactλc=>rfl
    |cons x l k=>
     grind [Array.map_setIfInBounds]
   have j:(v.cells.map (ab O)).zipIdx.toList=v.cells.zipIdx.toList.map λx=>(ab O x.1,x.2):=by
    simp[List.zipIdx_map]
   rw[<- Uo,<- Uo,j,e];exact qT a d _
def GC(c:l4 Q O)(t)(b:Bool):au Q U O Ro D (Instr.alloc t true (Ti #[])) (Instr.alloc t true (Ti #[])):=by
 exact am (gd c t) λz=>am (na t z) λa=>ae (by simp[Ren.ren])
def LP(t v):au Q U O Ro D (Instr.box t v) (Instr.box t (ab O v)):=am (na t v) λa=>ae (by simp[Ren.ren])
def DC{α γ}[Ren α][Ren γ]{s b}{f c:α->γ}(hs:au Q U O Ro D s b)(d:∀a,c (Ren.ren O a)=Ren.ren O (f a)):au Q U O Ro D (f<$>s) (c<$>b):=
 am hs λa=>ae (d a)
def sD{d g:Type}[Ren g]{f h:d->Sem g}(e:∀a,au Q U O Ro D (f a) (h a)):∀c:List d,au Q U O Ro D (c.mapM f) (c.mapM h)
 |[]=>ae rfl
 |x::c=>by
  rw[List.mapM_cons,List.mapM_cons];exact am (e x) λa=>am (sD e c) λl=>ae rfl
def Ak{b c:Type}[Ren c]{f d:b->Sem c}(g:∀a,au Q U O Ro D (f a) (d a))(e:Array b):au Q U O Ro D (e.mapM f) (e.mapM d):=by
 rw[Uw,Uw];refine DC (sD g _) λl=> ?_
 simp[Ren.ren]
def Ni(x):(Ren.ren O x:Array (Nat×Nat))=x:=by
 show x.map (λy=>(y.1,y.2))=x;simp
def GB(h:l4 Q O)(t parts):au Q U O Ro D (Instr.build t parts) (Instr.build t (parts.map λx=>(x.1,ab O x.2))):=by
 refine am (gd h t) λz=> ?_
 refine bW t λd k=> ?_
 cases d;case struct a=>
  have j:au Q U O Ro D (a.mapM λf=>do pure (f.offset,<- sizeOf f.type)) (a.mapM λf=>do pure (f.offset,<- sizeOf f.type)):=by
   refine Ak (λf=> ?_) a;exact am (fF f.type) λn=>ae rfl
  refine am j λb=> ?_
  simp[Ni,show(Ren.ren O z).cells=z.cells.map (ab O)from ig z,qT];cases TH (b[·]?) z.cells parts.toList with
  |none=>exact aj
  |some c=>exact ae (by simp[Ren.ren])
 case array n e=>
  refine am (fF e) λg=> ?_
  rw[U5,show(Ren.ren O z).cells=z.cells.map (ab O)from ig z,qT];cases TH (λi=>some (i*g,g)) z.cells parts.toList with
  |none=>exact aj
  |some c=>exact ae (by simp[Ren.ren])
 all_goals(exact aj)
def kI(v):au Q U O Ro D (Vv v) (Vv (ab O v)):=by
 cases v<;>first
  |exact aj
  |(rename_i a;cases a<;>first |exact aj|(rw[aY];exact ae rfl))
def EF(t v):au Q U O Ro D (Instr.loadAt t v) (Instr.loadAt t (ab O v)):=am (kI v) λa=>ui t a
def Cu(t v x):au Q U O Ro D (Instr.storeAt t v x) (Instr.storeAt t (ab O v) (ab O x)):=am (kI v) λa=>Ad t a x
def Ct{a}(t)(f:Nat->Sem a):sizeOf t>>=f=typeInfo t>>=λi=>f i.size:=by
 simp[sizeOf]
def CA{e c}(hs:∀fields f i,Q.underlying e=some (V5 fields)->fields[c]?=some f->Q.info? f.type=some i->i.size≠0)(v):au Q U O Ro D (Instr.fieldAt e v c) (Instr.fieldAt e (ab O v) c):=by
 refine bW e λd j=> ?_
 cases d;case struct fields=>
  dsimp only;cases k:fields[c]? with
  |none=>exact aj
  |some f=>
   refine am (kI v) λa=> ?_
   have g:au Q U O Ro D (fieldPlace a f) (fieldPlace (Ren.ren O a) f):=by
    simp[fieldPlace,Ct];refine lk f.type λi h=> ?_
    rw[if_neg (hs fields f i j k h),if_neg (hs fields f i j k h)];exact ae (by simp[Ren.ren])
   exact am g λb=>ae (by simp[Ren.ren])
 all_goals(exact aj)
end
structure Fit(Q:AI)(O:Nat->Nat):Prop where
 zero:l4 Q O
 low:∀g,g<=Q.globals.size->O g=g
 inj:∀i j,O i=O j->i=j
section
variable{O:Nat->Nat}{Ro:Nat->Prop}{D:Known}{Q:AI}{U:Nat->Option Code}
def pR(F:Fit Q O)(t):ab O (typeHandle Q t)=typeHandle Q t:=by
 simp[typeHandle,bi,F.low _ (Sw _)]
def qU(s):ab O (strVal s)=strVal s:=by simp[strVal]
def vQ(t):au Q U O Ro D (elemOf t) (elemOf t):=by
 refine bW t λd a=> ?_
 cases d;case pointer e=>exact ae rfl
 all_goals(exact aj)
def cq{α}[Ren α](F:Fit Q O)(e):au Q U O Ro D (UF e:Sem α) (UF e):=by
 refine dF ?_;cases e with
 |bounds x y s c=>exact gj (by simp;rfl)
 |error m=>exact gj (by simp[qU];rfl)
 |plain m=>exact gj (by simp[qU];rfl)
 |nilDeref=>exact gj (by simp[qU];rfl)
 |typeAssertion i c a m=>
  refine am (vQ _) λt=> ?_
  have d:∀x:Option TY,ab O (match x with |some t=>typeHandle Q t|none=>Sv none)=match x with |some t=>typeHandle Q t|none=>Sv none:=λx=>by
   cases x with
   |none=>simp
   |some t=>exact pR F t
  have b:∀t,au Q U O Ro D (newVar t (U3 #[match i with |some t=>typeHandle Q t|none=>Sv none,match c with |some t=>typeHandle Q t|none=>Sv none,typeHandle Q a,strVal m]))
   (newVar t (U3 #[match i with |some t=>typeHandle Q t|none=>Sv none,match c with |some t=>typeHandle Q t|none=>Sv none,typeHandle Q a,strVal m])):=λt=>by
   have:=na (Q:=Q) (U:=U) (O:=O) (Ro:=Ro) (D:=D) t (U3 #[match i with |some t=>typeHandle Q t|none=>Sv none,match c with |some t=>typeHandle Q t|none=>Sv none,typeHandle Q a,strVal m]);simp_all[pR,qU]
  exact am (b t) λr=>gj (by simp[Ren.ren];rfl)
 |panicNil=>
  refine am (vQ _) λt=> ?_
  have b:au Q U O Ro D (newVar t (U3 #[])) (newVar t (U3 #[])):=by
   have:=na (Q:=Q) (U:=U) (O:=O) (Ro:=Ro) (D:=D) t (U3 #[]);simp_all
  exact am b λr=>gj (by simp[Ren.ren];rfl)
 |unhashable t=>
  have e:typeHandle (alt Q U) t=typeHandle Q t:=rfl;exact gj (by simp[e,pR F];rfl)
def gk{α}[Ren α](F:Fit Q O)(k x y c):au Q U O Ro D (boundsPanic k x y c:Sem α) (boundsPanic k x y c):=bp SK (λ_=>am (α:=Bool) (DC (α:=Nat) (γ:=Bool) (qR _) λn=>rfl) λb=>cq F _) λ_=>am (α:=Bool) (ae rfl) λb=>cq F _
def lS(v):au Q U O Ro D (asIntOf v) (asIntOf (ab O v)):=by
 cases v<;>first
  |exact aj
  |(simp[cr];exact ae rfl)
  |(rename_i a;cases a<;>first |(refine bD ?_;trivial))
def ym(v):au Q U O Ro D (asInt v) (asInt (ab O v)):=am (lS v) λx=>ae rfl
def vR(v):au Q U O Ro D (asBool v) (asBool (ab O v)):=by
 cases v<;>first |exact aj|(simp[fK];exact ae rfl)
def EL(F:Fit Q O)(v):au Q U O Ro D (asAddr v) (asAddr (ab O v)):=by
 cases v;case pointer a=>
  rw[aY];cases a with
  |none=>exact cq (α:=Addr) F UI
  |some a=>exact ae (α:=Addr) rfl
 all_goals exact aj
def Af(t cs a):au Q U O Ro D (part t cs a) (part t (cs.map (ab O)) a):=by
 refine am (yj t) λb=> ?_
 refine bp SK (λ_=> ?_) λ_=> ?_
 refine am (fF t) λn=>ae ?_
 simp[Ren.ren];rw[T9];cases cs[a]? with
 |none=>exact aj
 |some v=>exact ae rfl
def uu(z:Array SH)(i:Nat):(z.map (ab O))[i]! =ab O z[i]!:=by
 rw[getElem!_def,getElem!_def,T9];cases z[i]? with
 |some v=>rfl
 |none=>simp[default,instInhabitedValue.default]
def xH(g:l4 Q O)(t len parts):au Q U O Ro D (Vb t len parts) (Vb t len (parts.map λx=>(x.1,ab O x.2))):=by
 refine bW t λd k=> ?_
 cases d;case slice e=>
  refine am (fF e) λb=> ?_
  rw[tF];have f:∀z:Array SH,au Q U O Ro D
   (match TH (λi=>some (i*b,b)) ((Um (len*b)).map (z[· %z.size]!)) parts.toList with
    |some c=>(do pure (Tt (some (<- newRow e c)) len len):Sem SH)|_=>stuck "buildSlice: a part of the wrong size")
   (match TH (λi=>some (i*b,b)) ((Um (len*b)).map ((z.map (ab O))[· % (z.map (ab O)).size]!)) (parts.map λx=>(x.1,ab O x.2)).toList with
    |some c=>do pure (Tt (some (<- newRow e c)) len len)|_=>stuck "buildSlice: a part of the wrong size"):=λz=>by
   have j:(Um (len*b)).map ((z.map (ab O))[· % (z.map (ab O)).size]!)=((Um (len*b)).map (z[· %z.size]!)).map (ab O):=by
    rw[Us];congr 1
    funext i
    simp[Ul];exact uu z _
   rw[j,U5,qT];cases TH (λi=>some (i*b,b)) ((Um (len*b)).map (z[· %z.size]!)) parts.toList with
   |none=>exact aj
   |some c=>exact am (qO e c) λa=>ae (by simp[Ren.ren])
  by_cases h:len*b>2^24<;>first |(rw[if_pos h];exact bD trivial)|(rw[if_neg h,if_neg h];refine bp (α:=SH) SK (λ_=> ?_) λ_=> ?_<;>first |(have:=f #[];rw[Array.map_empty]at this;exact this)|(refine am (gd g e) λv=> ?_;have:=f v.cells;rw[<- ig]at this;exact this))
 all_goals(exact aj)
def CB(v n):au Q U O Ro D (US v n) (US (ab O v) n):=by
 unfold US;cases v;case tuple a=>
  simp[gl];cases a[n]? with
  |none=>exact aj
  |some x=>exact ae rfl
 all_goals(exact aj)
def tS(t v):au Q U O Ro D (UW t v) (UW t (ab O v)):=by
 refine bW t λd a=> ?_
 cases d;case interface b=>exact aj
 all_goals exact ae (by simp[Ren.ren])
def Am(f)(c:kO O f=f)(a b):au Q U O Ro D (Vx f a b) (Vx f (a.map (ab O)) (b.map (ab O))):=ae (by simp[Ren.ren,c])
def Gy(F:Fit Q O)(t x i):au Q U O Ro D (Instr.index t x i) (Instr.index t (ab O x) (ab O i)):=by
 refine am (lS i) λa=> ?_
 rw[GT,tG];refine bW t λd c=> ?_
 cases d;case array n e=>
  cases x;case agg b=>
   rw[fy];refine bp SK (λ_=> ?_) λ_=>gk F _ _ _ _
   refine am (fF e) λz=>Af _ _ _
  all_goals(exact aj)
 case string=>
  cases x;case string s=>
   simp[ct];split;exact ae (by simp[Ren.ren]);exact gk F _ _ _ _
  all_goals(exact aj)
 all_goals(exact aj)
def xE(F:Fit Q O)(x xt t ok):au Q U O Ro D (Va x xt t ok) (Va (ab O x) xt t ok):=by
 have e:∀(a b:Option TY)(m:String),au Q U O Ro D (if ok then do pure (Ti #[<- zeroValue t,Tk false])else UF (.typeAssertion a b t m):Sem SH) (if ok then do pure (Ti #[<- zeroValue t,Tk false])else UF (.typeAssertion a b t m)):=λa b m=>bp SK (λ_=>am (gd F.zero t) λz=>ae (by simp[Ren.ren])) λ_=>cq F _
 have c:∀v,au Q U O Ro D (pure (if ok then Ti #[v,Tk true]else v)) (pure (if ok then Ti #[ab O v,Tk true]else ab O v)):=λv=>ae (by cases ok<;>simp[Ren.ren])
 refine bW t λd k=> ?_
 cases x;case nilIface=>
  rw[db];cases d<;>exact e _ _ _
 case iface f g=>
  rw[dW];cases d;case interface j=>
   refine lk f λi h=> ?_
   split;have:=c (TK f g);rw[dW]at this;omega;simp_all
  all_goals
   exact bp SK (λ_=>c g) λ_=>e _ _ _
 all_goals(cases d<;>(exact aj))
def Gu(op v):au Q U O Ro D (Op.unary op v) (Op.unary op (ab O v)):=by
 cases op<;>cases v<;>first
  |exact aj
  |(simp only[fK,eC,eZ];exact ae (by simp[Ren.ren]))
  |(simp only[cr];exact ae (by simp[Ren.ren]))
  |(rename_i a;cases a<;>first |(refine bD ?_;trivial))
end
section
variable{O:Nat->Nat}{Ro:Nat->Prop}{D:Known}{Q:AI}{U:Nat->Option Code}
def peek{a:Type}(r:Nat)(n:a)(f:Obj->a):Sem a:=do
 if(<- shape r).isSome then return n
 let o <- getObj r
 pure (f o)
def uR{b}(P)(n:b)(g r w a):(peek r n g).runT P w a=(if(w.shape? r).isSome then(Tb n w,a)else match w.heap[r]? with
 |some (SY ..)=>(SJ (TV "getObj: a row of cells") w,a)
 |some o=>(Tb (g o) w,a.push ⟨Ur r,false,o.isChan⟩)
 |none=>(SJ (TV "getObj: no such block") w,a)):=by
 simp only[peek,shape,getObj,bind,U1,Sy];cases c:(w.shape? r).isSome with
 |true=>rfl
 |false=>
  simp only[SC,if_false,Sy];rfl
def Ae{z}[Ren z]{r}(S:D r){n:z}{f t}(H:Ren.ren O n=n)(x:∀a l,t (Ty (bi O a) l)=Ren.ren O (f (Ty a l)))
 (W:∀o,Plain o->f o=n) (E:∀o,Plain o->t o=n):
 au Q U O Ro D (peek r n f) (peek (O r) n t):=by
 intro w b u g v I A X;rw[uR,uR];cases C:w.heap[r]? with
 |none=>
  have R:(w.shape? r).isSome=false:=by simp_all[Tg]
  rw[R];simp only[SC,if_false];exact⟨I,.inr (.inr ⟨_,w,rfl,trivial⟩)⟩
 |some o=>
  have q:=v.blk _ _ C;by_cases L:∃c e p,o=SY c e p;obtain⟨c,e,p,rfl⟩:=L;have s:∃y,b.heap[O r]?=some (SY (c.map (ab O)) e y):=by
   by_cases N:Ro r<;>first |exact(q.1 N).2.imp λ_ h=>h.1|exact⟨p,q.2 N⟩
  have⟨y,s⟩:=s;have M:(w.shape? r).isSome=true:=by simp_all[Tg]
  have m:(b.shape? (O r)).isSome=true:=by simp_all[Tg]
  rw[M,m];exact⟨I,.inl ⟨n,w,b,rfl,by rw[H];rfl,A,v,rfl⟩⟩;have M:(w.shape? r).isSome=false:=by
   simp_all[Tg]
  rw[M];simp only[SC,if_false];have T:(match some o with
   |some (SY ..)=>(SJ (TV "getObj: a row of cells") w,u)
   |some o=>(Tb (f o) w,u.push ⟨Ur r,false,o.isChan⟩)
   |none=>(SJ (TV "getObj: no such block") w,u):Result z×Array T0)=(Tb (f o) w,u.push ⟨Ur r,false,o.isChan⟩):=by
   cases o<;>first |rfl|exact absurd ⟨_,_,_,rfl⟩ L
  rw[T];have j:¬ Big (u.push ⟨Ur r,false,o.isChan⟩):=oE I (by cases Z:o.isChan<;>simp[TC]);by_cases i:∃a l,o=Ty a l;obtain⟨a,l,rfl⟩:=i;have s:b.heap[O r]?=some (Ty (bi O a) l):=q;have m:(b.shape? (O r)).isSome=false:=by simp_all[Tg]
  rw[m,s];simp only[SC,if_false];refine⟨j,.inl ⟨f (Ty a l),w,b,rfl,by rw[x],jR A ⟨Ur r,false,false⟩,v,rfl⟩⟩;have K:Plain o:=by
   cases o<;>first |trivial|exact q.elim|exact(i ⟨_,_,rfl⟩).elim
  have B:∃d,b.heap[O r]?=some d/\Plain d/\((∃c e f,d=SY c e f)\/d.isChan=o.isChan):=by
   cases o<;>first |exact q.elim|exact q S|exact absurd ⟨_,_,_,rfl⟩ L|exact(i ⟨_,_,rfl⟩).elim
  have⟨d,s,G,P⟩:=B;rw[W o K];by_cases k:∃c e p,d=SY c e p;obtain⟨c,e,p,rfl⟩:=k;have m:(b.shape? (O r)).isSome=true:=by simp_all[Tg]
  rw[m];exact⟨j,.inl ⟨n,w,b,rfl,by rw[H];rfl,Jd A _,v,rfl⟩⟩;have m:(b.shape? (O r)).isSome=false:=by
   simp_all[Tg]
  rw[m,s];simp only[SC,if_false];have F:(match some d with
   |some (SY ..)=>(SJ (TV "getObj: a row of cells") b,g)
   |some o=>(Tb (t o) b,g.push ⟨Ur (O r),false,o.isChan⟩)
   |none=>(SJ (TV "getObj: no such block") b,g):Result z×Array T0)=(Tb (t d) b,g.push ⟨Ur (O r),false,d.isChan⟩):=by
   cases d<;>first |rfl|exact absurd ⟨_,_,_,rfl⟩ k
  rw[F,E d G];rw[P.resolve_left k];exact⟨j,.inl ⟨n,w,b,rfl,by rw[H],jR A ⟨Ur r,false,o.isChan⟩,v,rfl⟩⟩
instance:Ren TY:=⟨λ_ x=>x⟩
def mJ(r):numberAt r=peek r none λo=>match o with |Ty a b=>some (a,b)|_=>none:=by
 grind [numberAt,peek]
def u0(r):viewAt r=peek r none λo=>match o with | .view a t=>some (a,t)|_=>none:=by
 grind [viewAt,peek]
def Ai{r}(c:D r):au Q U O Ro D (numberAt r) (numberAt (O r)):=by
 rw[mJ,mJ];exact Ae c rfl (λa l=>rfl) (λo b=>by cases o<;>first |rfl|exact b.elim) λo b=>by cases o<;>first |rfl|exact b.elim
def vM{r}(c:D r):au Q U O Ro D (viewAt r) (viewAt (O r)):=by
 rw[u0,u0];exact Ae c rfl (λa l=>rfl) (λo b=>by cases o<;>first |rfl|exact b.elim) λo b=>by cases o<;>first |rfl|exact b.elim
def ED{a}(b:D a.block):au Q U O Ro D (noView a) (noView (bi O a)):=by
 refine am (vM b) λx=> ?_
 refine bp ?_ (λ_=>bD trivial) λ_=>ae rfl
 cases x<;>simp[Ren.ren]
def pN{m}[Ren m]{r}{f y:Option (TY×Nat)->Sem m}(E:∀B,au Q U O Ro D (f none) B)(hs:∀e n,au Q U O Ro D (f (some (e,n))) (y (some (e,n)))):
 au Q U O Ro D (shape r>>=f) (shape (O r)>>=y):=by
 intro w j b d k s u i;have v:∀(P:AI)(g:Option (TY×Nat)->Sem m)(r:Nat)(w:Sz)(b:Array T0),(shape r>>=g).runT P w b=(g (w.shape? r)).runT P w b:=λP g r w b=>rfl
 rw[v]at i ⊢;rw[v];cases a:w.shape? r with
 |none=>
  rw[a]at i;exact E _ w j b d k s u i
 |some x=>
  have⟨e,n⟩:=x;have q:j.shape? (O r)=some (e,n):=by
   unfold Tg at a;cases l:w.heap[r]? with
   |none=>rw[l]at a;cases a
   |some o=>
    rw[l]at a;cases o;case cells c A C=>
     have t:=k.blk _ _ l;have F:∃p,j.heap[O r]?=some (SY (c.map (ab O)) A p):=by
      by_cases z:Ro r<;>first |exact(t.1 z).2.imp λ_ h=>h.1|exact⟨C,t.2 z⟩
     grind [Tg]
    all_goals cases a
  rw[a]at i;rw[q];exact hs e n w j b d k s u i
def qy:∀d t o,byteOfCell (alt Q U) d t o=byteOfCell Q d t o:=by
 intro d;induction d with
 |zero=>exactλt o=>rfl
 |succ d e=>
  intro t o;unfold byteOfCell;have c:(alt Q U).underlying t=Q.underlying t:=rfl;have a:∀t,(alt Q U).bytesOf t=Q.bytesOf t:=λt=>rfl
  have b:∀t,(alt Q U).cellsOf t=Q.cellsOf t:=λt=>rfl
  grind
def y5:∀d t o,cellOfByte (alt Q U) d t o=cellOfByte Q d t o:=by
 intro d;induction d with
 |zero=>exactλt o=>rfl
 |succ d e=>
  intro t o;unfold cellOfByte;have c:(alt Q U).underlying t=Q.underlying t:=rfl;have a:∀t,(alt Q U).bytesOf t=Q.bytesOf t:=λt=>rfl
  have b:∀t,(alt Q U).cellsOf t=Q.cellsOf t:=λt=>rfl
  grind
def wY(d t c o b):cellAtBytes (alt Q U) d t c o b=cellAtBytes Q d t c o b:=by
 unfold cellAtBytes;have a:∀t,(alt Q U).bytesOf t=Q.bytesOf t:=λt=>rfl
 have e:∀t,(alt Q U).cellsOf t=Q.cellsOf t:=λt=>rfl
 simp_all[qy,y5]
def kK{a}(c:D a.block):au Q U O Ro D (byteOf a) (byteOf (bi O a)):=by
 unfold byteOf;rw[GU];cases a.spot with
 |some s=>exact ae rfl
 |none=>
  refine dF ?_;refine am (ED c) λ_=> ?_
  refine pN (λh=>aj) λe n=> ?_
  dsimp only;have g:∀t,(alt Q U).cellsOf t=Q.cellsOf t:=λt=>rfl
  have d:(alt Q U).depth=Q.depth:=rfl;have f:∀t,(alt Q U).bytesOf t=Q.bytesOf t:=λt=>rfl
  rw[g,d,f,qy,AJ];refine bp SK (λ_=>ae rfl) λ_=> ?_
  cases byteOfCell Q Q.depth e (a.off%Q.cellsOf e)with
  |none=>exact aj
  |some b=>exact ae rfl
def ze{b}(n:D b.block)(l):au Q U O Ro D (asNumber b l) (asNumber (bi O b) l):=by
 intro w d m g c j h k;have f:O w.heap.size=d.heap.size:=by
  have:=k 0 (by show w.heap.size+0<(w.heap.push _).size;simp);omega
 refine⟨j,.inl ⟨Sv (some ⟨w.heap.size,0,none⟩),{w with heap:=w.heap.push (Ty b l)},{d with heap:=d.heap.push (Ty (bi O b) l)},rfl,?_,h,⟨c.inj,c.tape,c.drawn,λi a=>by have:=c.ro i a;grind,λi o a=> ?_,λi x p a=> ?_,c.os⟩,by grind⟩⟩;show Tb .. =_;simp_all[xN,bi]
 rw[SP]at a;split at a<;>first |(rename_i e;cases a;subst e;show _=some _;rw[f,SP,if_pos rfl])|exact yW (c.blk _ _ a)
 rw[SP]at a;split at a;grind
 exact c.num _ _ _ a
def yl{C K}[Ren C][Ren K]{s u}{f F:C->Sem K}(T:C->Prop)(hs:au Q U O Ro D s u)(S:∀w i j a l B,eo O Ro D w i->s.runT (alt Q U) w j=(Tb a l,B)->T a)(N:∀a,T a->au Q U O Ro D (f a) (F (Ren.ren O a))):au Q U O Ro D (s>>=f) (u>>=F):=by
 intro w i j g A I H p;cases c:s.runT (alt Q U) w j with
 |mk r E=>
  cases r with
  |halt h l=>
   have t:=hs w i j g A I H (by rw[c];rw[aM,c]at p;exact p);rw[c]at t;obtain⟨e,⟨a,v,q,d,_⟩|⟨h,v,q,d,m,x,y,R,M⟩|⟨h,v,d,m⟩⟩:=t;cases d;rw[aM,c,aM];generalize u.runT Q i g=z at x y ⊢;have⟨P,L⟩:=z;subst x;cases d;exact⟨e,.inr (.inl ⟨_,_,q,rfl,m,rfl,y,R,M⟩)⟩;rw[aM,c];cases d;exact⟨e,.inr (.inr ⟨_,_,rfl,m⟩)⟩
  |ok a l=>
   have G:=runT_size (alt Q U) s w j;rw[aM,c]at p ⊢;rw[c]at G;have t:=hs w i j g A I H (by rw[c];exact jW p (runT_size (alt Q U) (f a) l E));rw[c]at t;obtain⟨e,⟨b,v,q,d,m,n,x,y⟩|⟨h,v,q,d,_⟩|⟨h,v,d,_⟩⟩:=t;cases d;rw[aM];generalize u.runT Q i g=z at m n ⊢;have⟨P,L⟩:=z;subst m;have⟨W,k⟩:=N a (S w i j a l E A c) l q E L x e n (vb p G y);refine⟨W,?_⟩;grind
   cases d;grind
def F9{r w e f x d c}(i:eo O Ro D w e)(h:(numberAt r).runT (alt Q U) w f=(Tb x d,c)):∀y,x=some y->D y.1.block:=by
 rw[mJ,uR]at h;intro y g;subst g;split at h;cases h;cases b:w.heap[r]? with
 |none=>rw[b]at h;cases h
 |some o=>
  rw[b]at h;cases o;case number a l=>
   simp[Prod.mk.injEq]at h;rw[<- h.1.1];exact i.num _ _ _ b
  all_goals(simp at h)
def eT{b}[Ren b]{n}(g:D n.block){f c:Addr×Bool->Sem b}(e:∀a l,D a.block->au Q U O Ro D (f (a,l)) (c (bi O a,l))):au Q U O Ro D (TW n>>=f) (TW (bi O n)>>=c):=by
 have d:∀(n:Addr)(f:Addr×Bool->Sem b),TW n>>=f=numberAt n.block>>=λx=>f (x.getD (n,false)):=λn f=>by
  simp[TW]
 rw[d,d];refine yl (λx=>∀y,x=some y->D y.1.block) (Ai g) (λw p q a m j i h=>F9 i h) λx k=> ?_
 cases x with
 |none=>exact e n false g
 |some y=>have⟨a,l⟩:=y;exact e a l (k _ rfl)
def DD{t x y}(f:∀a,x=Sv (some a)->D a.block):au Q U O Ro D (T8 #[] t #[x,y]) (T8 #[] t #[ab O x,ab O y]):=by
 cases x;case pointer b=>
  rw[aY];refine am (ym y) λn=> ?_
  rw[tG];refine bp SK (λ_=> ?_) λ_=>bp SK (λ_=>bD trivial) λ_=> ?_
  cases b with
  |none=>exact bD trivial
  |some a=>
   refine am (vM (f a rfl)) λv=> ?_
   refine bp (by cases v<;>simp[Ren.ren]) (λ_=>bD trivial) λ_=>ae (by simp[Ren.ren])
  cases b with
  |none=>exact bD trivial
  |some a=>
   refine pN (λg=>bD trivial) λe n=> ?_
   refine dF ?_;have c:∀t,(alt Q U).cellsOf t=Q.cellsOf t:=λt=>rfl
   have d:(alt Q U).depth=Q.depth:=rfl;rw[wY,c,d,AJ];split <;>first |exact ae (by simp[Ren.ren,bi])|exact bD trivial
 all_goals exact aj
def Yields{c:Type}(T:c->Prop)(s:Sem c):Prop:=∀P w e a d b,s.runT P w e=(Tb a d,b)->T a
def tX{c}{T:c->Prop}{a}(h:T a):Yields T (pure a):=λP w g b f d e=>by
 simp_all
def gz{a T x}:Yields T (Uz x:Sem a):=λP w f b d c e=>by cases e
def lR{c d}{T:d->Prop}{s:Sem c}{f}(h:∀a,Yields T (f a)):Yields T (s>>=f):=λP w j b i g e=>by
 rw[aM]at e;split at e;exact h _ _ _ _ _ _ _ e;cases e
def qE{a}{T:a->Prop}{c}[Decidable c]{x y}(d:Yields T x)(b:Yields T y):Yields T (if c then x else y):=by
 grind
def OY{t x y}(f:∀a,x=Sv (some a)->D a.block):Yields (λv=>∀b,v=Sv (some b)->D b.block) (T8 #[] t #[x,y]):=by
 cases x;case pointer c=>
  refine lR λn=> ?_
  refine qE ?_ (qE gz ?_);cases c with
  |none=>exact gz
  |some a=>
   refine lR λv=>qE gz (tX λb d=> ?_)
   grind
  cases c with
  |none=>exact gz
  |some a=>
   refine lR λe=> ?_
   cases e with
   |none=>exact gz
   |some q=>
    refine lR λp=> ?_
    split <;>first |(refine tX λb d=> ?_;grind)|exact gz
 all_goals exact gz
def kJ{t x y}(g:∀a,x=Sv (some a)->D a.block):au Q U O Ro D (movedNumber t x y) (movedNumber t (ab O x) (ab O y)):=by
 refine bW t λd z=> ?_
 have i:au Q U O Ro D (match x with
  |Sv (some n)=>do
   let(a,c) <- TW n
   match<- T8 #[] t #[Sv (some a),y]with
   |Sv (some b)=>asNumber b c
   |v=>pure v
  |_=>T8 #[] t #[x,y]) (match ab O x with
  |Sv (some n)=>do
   let(a,c) <- TW n
   match<- T8 #[] t #[Sv (some a),ab O y]with
   |Sv (some b)=>asNumber b c
   |v=>pure v
  |_=>T8 #[] t #[ab O x,ab O y]):=by
  cases x;case pointer e=>
   rw[aY];cases e with
   |none=>
    have:=DD (Q:=Q) (U:=U) (O:=O) (Ro:=Ro) (D:=D) (t:=t) (x:=Sv none) (y:=y) g;rw[aY]at this;exact this
   |some n=>
    refine eT (g n rfl) λa l s=> ?_
    have f:=DD (Q:=Q) (U:=U) (O:=O) (Ro:=Ro) (D:=D) (t:=t) (x:=Sv (some a)) (y:=y) λb j=>by grind
    rw[aY]at f;refine yl (λv=>∀b,v=Sv (some b)->D b.block) f (λw A u v r m p h=>OY λb j=>by grind _ _ _ _ _ _ h) λv k=> ?_
    rw[xN];cases v;case pointer q=>
     rw[aY];cases q with
     |none=>exact ae (by simp[Ren.ren])
     |some b=>exact ze (k b rfl) l
    all_goals simp[fK]
    all_goals exact ae (by simp[Ren.ren])
  all_goals exact aj
 cases d<;>first |exact bD trivial|exact i
end
section
variable{O:Nat->Nat}{Ro:Nat->Prop}{D:Known}{Q:AI}{U:Nat->Option Code}
def jh(D:Known)(x:SH):Prop:=∀a,x=Sv (some a)->D a.block
def DT(F:Fit Q O)(n):O n<Q.globals.size↔n<Q.globals.size:=by
 constructor<;>first |(intro h;have:=F.inj _ _ (F.low (O n) (by omega));omega)|(intro h;rw[F.low n (by omega)];omega)
def rL(F:Fit Q O){a b}(e:D a.block)(f:D b.block):au Q U O Ro D (Op.twoPlaces a b) (Op.twoPlaces (bi O a) (bi O b)):=by
 refine dF ?_;have g:(alt Q U).globals=Q.globals:=rfl;rw[jo,jo];refine bp ?_ (λ_=>bD trivial) λ_=>am (kK e) λx=>am (kK f) λy=>ae rfl
 have d:(O a.block !=O b.block)=(a.block !=b.block):=by
  rw[Vm,bne_iff_ne,bne_iff_ne];exact⟨λh c=>h (by rw[c]),λh c=>h (F.inj _ _ c)⟩
 have:=DT F a.block;grind
def CG(F:Fit Q O)(k){a b}(d:D a.block)(c:D b.block):au Q U O Ro D (Op.addrSub k a b) (Op.addrSub k (bi O a) (bi O b)):=am (α:=Nat×Nat) (rL F d c) λx=>ae (by simp[Ren.ren])
def CH(F:Fit Q O)(op){a b}(d:D a.block)(c:D b.block):au Q U O Ro D (Op.addrCmp op a b) (Op.addrCmp op (bi O a) (bi O b)):=by
 refine am (α:=Nat×Nat) (rL F d c) λx=> ?_
 cases op<;>first |exact bD trivial|exact ae (by simp[Ren.ren])
def pP(k){a}(b:D a.block)(n):au Q U O Ro D (Op.addrMod k a n) (Op.addrMod k (bi O a) n):=by
 exact pN (λf=>bD trivial) λe c=>lk e λi d=>bp SK (λ_=>bD trivial) λ_=>am (kK b) λx=>ae (by simp[Ren.ren])
def An(op k x y):au Q U O Ro D (Op.intArith op k x y) (Op.intArith op k x y):=by
 cases op<;>first |exact aj|exact ae (by simp[Ren.ren])
def EG(F:Fit Q O)(op k x y):au Q U O Ro D (Op.intDiv op k x y) (Op.intDiv op k x y):=by
 refine bp SK (λ_=>cq F _) λ_=> ?_
 cases op<;>first |exact aj|exact ae (by simp[Ren.ren])
def Cy(op k x y):au Q U O Ro D (Op.intBits op k x y) (Op.intBits op k x y):=by
 cases op<;>first |exact aj|exact ae (by simp[Ren.ren])
def EH(op x y):au Q U O Ro D (Op.intCmp op x y) (Op.intCmp op x y):=by
 cases op<;>first |exact aj|exact ae (by simp[Ren.ren])
def yi(F:Fit Q O)(op k x a y):au Q U O Ro D (Op.shift op k x a y) (Op.shift op k x a y):=by
 refine bp SK (λ_=>cq F _) λ_=> ?_
 cases op<;>first |exact aj|exact ae (by simp[Ren.ren])
def sC(op x y):au Q U O Ro D (Op.stringOp op x y) (Op.stringOp op x y):=by
 cases op<;>first |exact aj|exact ae (by simp[Ren.ren])|exact bp SK (λ_=>bD trivial) λ_=>ae (by simp[Ren.ren])
def mv:TypeDesc->Prop
 | .int _=>True
 |Uh=>True
 |_=>False
def M0(F:Fit Q O)(a b):(bi O a==bi O b)=(a==b):=by
 by_cases h:a=b;grind
 have:bi O a≠bi O b:=λc=>h (by
  have e:(bi O a).off=(bi O b).off:=by rw[c]
  have d:(bi O a).spot=(bi O b).spot:=by rw[c]
  cases a;cases b;simp[Addr.mk.injEq];exact⟨F.inj _ _ (congrArg Addr.block c),e,d⟩)
 rw[beq_eq_false_iff_ne.2 h,beq_eq_false_iff_ne.2 this]
def Ao(F:Fit Q O){t x y}(s:∀d,Q.underlying t=some d->mv d)(l:jh D x)(j:jh D y):au Q U O Ro D (T5 t x y) (T5 t (ab O x) (ab O y)):=by
 unfold T5 V7;unfold Vi;refine bW t λd p=> ?_
 have w:=s d p;cases d;case int k=>
  cases x;case int G a=>
   cases y;case int A b=>
    simp only[cr];exact bp SK (λ_=>ae (by simp[Ren.ren])) λ_=>aj
   case pointer q=>
    rw[cr,aY];cases q with
    |none=>first |exact bD trivial|exact ae rfl
    |some b=>
     dsimp only[AS];by_cases g:a=0;subst g;exact ae rfl;have:∀(P:AI),True:=λ_=>trivial
     cases a with
     |ofNat n=>cases n with|zero=>exact absurd rfl g|succ n=>exact bD trivial
     |negSucc n=>exact bD trivial
   all_goals exact aj
  case pointer q=>
   cases q with
   |none=>
    cases y;all_goals first |exact aj|exact bD trivial|(rename_i z;cases z<;>first |exact aj|exact bD trivial)
   |some a=>
    cases y;case int A b=>
     rw[cr,aY];dsimp only[AS];cases b with
     |ofNat n=>cases n with|zero=>exact ae rfl|succ n=>exact bD trivial
     |negSucc n=>exact bD trivial
    case pointer r=>
     cases r with
     |none=>exact bD trivial
     |some b=>
      rw[aY,aY];dsimp only[AS];refine eT (l a rfl) λe E u=> ?_
      refine eT (j b rfl) λf B m=> ?_
      dsimp only;refine dF ?_;have v:(alt Q U).globals=Q.globals:=rfl;have c:(O e.block==O f.block)=(e.block==f.block):=by
       rw[Vm,beq_iff_eq,beq_iff_eq];exact⟨λh=>F.inj _ _ h,λh=>by rw[h]⟩
      rw[v,jo,jo,c];refine bp ?_ (λ_=>am (kK u) λx=>am (kK m) λy=>ae (by simp[Ren.ren])) λ_=> ?_
      rw[SD,SD,decide_eq_true_eq,decide_eq_true_eq,DT F e.block];refine lk t λi C=> ?_
      split;refine bp (by rw[M0 F]) (λ_=>ae rfl) λ_=>bD trivial
      exact bD trivial
    all_goals exact bD trivial
  all_goals(cases y<;>first |exact aj|exact bD trivial)
 case string=>
  cases x;case string a=>
   cases y;case string b=>simp only[ct];exact ae (by simp[Ren.ren])
   all_goals exact aj
  all_goals exact aj
 all_goals exact w.elim
def zh{t x}(a:∀d,Q.underlying t=some d->∃e,d= .pointer e):au Q U O Ro D (T5 t x (Sv none)) (T5 t (ab O x) (Sv none)):=by
 unfold T5 V7;unfold Vi;refine bW t λd b=> ?_
 obtain⟨e,rfl⟩:=a d b;cases x;case pointer q=>
  rw[aY];cases q<;>exact ae rfl
 all_goals exact aj
def zi{t x}(a:∀d,Q.underlying t=some d->∃e,d= .interface e):au Q U O Ro D (T5 t x SO) (T5 t (ab O x) SO):=by
 unfold T5 V7;unfold Vi;refine bW t λd b=> ?_
 obtain⟨e,rfl⟩:=a d b;cases x;case nilIface=>rw[db];exact ae rfl
 case iface t v=>rw[dW];exact ae rfl
 all_goals exact aj
end
inductive dE{α:Type}(T:α->Prop):Sem α->Prop where
 |pure (a:α) (h:T a):dE T (.pure a)
 |halt (h:Halt) (d:Dead h):dE T (Uz h)
 |choose (q:Question) (k:Nat->Sem α) (h:∀n,dE T (k n)):dE T (.choose q k)
def aQ{b e}{T:b->Prop}{O1:e->Prop}{s f}(hs:dE T s)(c:∀a,T a->dE O1 (f a)):dE O1 (s>>=f):=by
 induction hs with
 |pure a h=>exact c a h
 |halt h d=>exact .halt h d
 |choose q k _ g=>exact .choose q _ g
def cj{b T a}(h:T a):dE T (pure a:Sem b):=.pure a h
def kT{a T m}:dE T (stuck m:Sem a):=.halt _ trivial
def jH{q T}(h:∀n,T n):dE T (choose q):=.choose q _ λn=>.pure n (h n)
def gF{a}{T:a->Prop}{c}[Decidable c]{x y}(d:dE T x)(b:dE T y):dE T (if c then x else y):=by
 grind
abbrev Any{a:Type}(_:a):Prop:=True
section
variable{O:Nat->Nat}{Ro:Nat->Prop}{D:Known}{Q:AI}{U:Nat->Option Code}
def Jj{b}[Ren b]{s:Sem b}(h:dE (λa=>Ren.ren O a=a) s):au Q U O Ro D s s:=by
 induction h with
 |pure a h=>exact ae h.symm
 |halt h d=>exact bD d
 |choose q k _ c=>exact am (qR q) λn=>c n
abbrev Still(v:SH):Prop:=∀O,ab O v=v
def eS(k n):Still (Tu k n):=λO=>by simp
def mz(k n m):Still (Tf k n m):=λO=>by simp
def qM(b):Still (Tk b):=λO=>by simp
def yh(k n):Still (TU k n):=λO=>by simp
def mg{s}(h:dE Still s):au Q U O Ro D s s:=by
 have:dE (λa=>Ren.ren O a=a) s:=by
  induction h with
  |pure a h=>exact .pure a (h O)
  |halt h d=>exact .halt h d
  |choose q k _ b=>exact .choose q k b
 exact Jj this
def pa(op k x y):dE Still (Op.floatArith op k x y):=by
 have a:∀r,dE Still (match r with
  |some r=>pure (Tu k r)
  |none=>do pure (Tu k (<- choose (.nanBits k x y)))):=λr=>by
  cases r with
  |some r=>exact cj (eS _ _)
  |none=>exact aQ (jH (T:=Any) λ_=>trivial) λn _=>cj (eS _ _)
 cases op<;>first |exact a _|exact .halt _ trivial
def rR(op k x y):dE Still (Op.floatCmp op k x y):=by
 cases op<;>first |exact kT|exact cj (qM _)
def tU(s b d):dE Still (Conv.floatToFloat s b d):=by
 refine gF (cj (eS _ _)) ?_;split;exact aQ (jH (T:=Any) λ_=>trivial) λn _=>cj (eS _ _)
 exact cj (eS _ _);exact gF (aQ (jH (T:=Any) λ_=>trivial) λn _=>cj (eS _ _)) (cj (eS _ _))
def wD(s b d):dE Still (Vl s b d):=by
 have h:dE Still (do pure (TU d (d.wrap (<- choose (.floatToInt s b d))))):=aQ (jH (T:=Any) λ_=>trivial) λn _=>cj (yh _ _)
 unfold Vl;split;exact gF (cj (yh _ _)) h;omega
def et(op k x y):dE Any (Op.Complex.arith op k x y):=by
 refine aQ (pa op k x y) λv _=> ?_
 cases v<;>first |exact kT|exact cj trivial
def j6(op k x y):dE Any (Op.Complex.cmp op k x y):=by
 refine aQ (rR op k x y) λv _=> ?_
 cases v;case bool b=>exact cj trivial
 all_goals exact kT
def jr(s x d):dE Any (Op.Complex.conv s x d):=by
 refine gF (cj trivial) (aQ (tU s x d) λv _=> ?_);cases v<;>first |exact kT|exact cj trivial
def zq(a b c d):dE Any (Op.Complex.product a b c d):=by
 repeat' first
  |exact cj trivial
  |refine aQ (et ..) λ_ _=> ?_
def pc(a b c d e):dE Any (Op.Complex.corrected a b c d e):=by
 repeat' first
  |exact cj trivial
  |refine aQ (et ..) λ_ _=> ?_
def Hk(x y):dE Any (Op.Complex.sub x y):=et ..
def yJ(x y):dE Any (Op.Complex.add x y):=et ..
def mj(x y):dE Any (Op.Complex.mul x y):=et ..
def sN(x y):dE Any (Op.Complex.quo x y):=et ..
def xU(a b c d):dE Any (Op.Complex.quotient a b c d):=by
 unfold Op.Complex.quotient;extract_lets f;have g:∀e,dE Any (f e):=λe=>by
  exact aQ (j6 ..) λ_ _=>aQ (j6 ..) λ_ _=>gF (cj trivial) (gF (aQ (mj ..) λ_ _=>aQ (mj ..) λ_ _=>cj trivial) (gF (pc ..) (gF (pc ..) (cj trivial))))
 clear_value f;refine aQ (j6 ..) λb _=>gF ?_ ?_
 all_goals exact aQ (sN ..) λ_ _=>aQ (mj ..) λ_ _=>aQ (yJ ..) λ_ _=>aQ (mj ..) λ_ _=>aQ (yJ ..) λ_ _=>aQ (sN ..) λ_ _=>aQ (mj ..) λ_ _=>aQ (Hk ..) λ_ _=>aQ (sN ..) λ_ _=>g _
def xV(op k a b c d):dE Still (Op.complexOp op k a b c d):=by
 have g:∀p:Bool,dE Still (do
  let(a,b,c,d):=(<- Op.Complex.conv k a .f64,<- Op.Complex.conv k b .f64,<- Op.Complex.conv k c .f64,<- Op.Complex.conv k d .f64)
  let(e,f) <- if p then Op.Complex.product a b c d else Op.Complex.quotient a b c d
  pure (Tf k (<- Op.Complex.conv .f64 e k) (<- Op.Complex.conv .f64 f k))):=λp=>by
  refine aQ (jr ..) λ_ _=>aQ (jr ..) λ_ _=>aQ (jr ..) λ_ _=>aQ (jr ..) λ_ _=> ?_
  refine gF (aQ (zq ..) λh _=> ?_) (aQ (xU ..) λh _=> ?_);all_goals exact aQ (jr ..) λ_ _=>aQ (jr ..) λ_ _=>cj (mz _ _ _)
 cases op;case mul=>exact g _
 case quo=>exact g _
 case add=>exact aQ (et ..) λ_ _=>aQ (et ..) λ_ _=>cj (mz _ _ _)
 case sub=>exact aQ (et ..) λ_ _=>aQ (et ..) λ_ _=>cj (mz _ _ _)
 case eql=>exact aQ (j6 ..) λ_ _=>aQ (j6 ..) λ_ _=>cj (qM _)
 case neq=>exact aQ (j6 ..) λ_ _=>aQ (j6 ..) λ_ _=>cj (qM _)
 all_goals exact kT
def F8(Q:AI)(op:BinOp)(t:TY)(y:U8):Bool:=
 match Q.underlying t with
 |some (.int _)=>true
 |some Uh=>true
 |some (.pointer _)=>(op matches .eql| .neq)&& (y matches TJ (Sv none))
 |some (.interface _)=>(op matches .eql| .neq)&& (y matches TJ SO)
 |_=>false
def dm{a}[Ren a]{h}{c:Sem a}(b:Dead h):au Q U O Ro D (Uz h) c:=bD b
def sE(op:BinOp){t x y a c}(h:au Q U O Ro D (T5 t x y) (T5 t a c)):au Q U O Ro D (do pure (Tk (<- T5 t x y)):Sem SH) (do pure (Tk (<- T5 t a c)))/\au Q U O Ro D (do pure (Tk !(<- T5 t x y)):Sem SH) (do pure (Tk !(<- T5 t a c))):=
 ⟨am h λb=>ae (by simp[Ren.ren]),am h λb=>ae (by simp[Ren.ren])⟩
end
section
variable{O:Nat->Nat}{Ro:Nat->Prop}{D:Known}{Q:AI}{U:Nat->Option Code}
def binOp_eql{t x y}(c:∀k a k' b,x=TU k a->y=TU k' b->False)(g:∀k a k' b,x=Tu k a->y=Tu k' b->False)
 (d:∀k a f k' b b',x=Tf k a f->y=Tf k' b b'->False) (e:∀a b,x=Tq a->y=Tq b->False):binOp .eql t x y=(do pure (Tk (<- T5 t x y))):=by
 unfold binOp;split;all_goals first
  |rfl
  |exact(c _ _ _ _ rfl rfl).elim
  |exact(g _ _ _ _ rfl rfl).elim
  |exact(d _ _ _ _ _ _ rfl rfl).elim
  |exact(e _ _ rfl rfl).elim
  |contradiction
def binOp_neq{t x y}(d:∀k a k' b,x=TU k a->y=TU k' b->False)(g:∀k a k' b,x=Tu k a->y=Tu k' b->False)
 (f:∀k a c k' b b',x=Tf k a c->y=Tf k' b b'->False) (e:∀a b,x=Tq a->y=Tq b->False):binOp .neq t x y=(do pure (Tk !(<- T5 t x y))):=by
 simp[binOp]
def kN{x k a}(h:ab O x=TU k a):x=TU k a:=by cases x<;>simp at h ⊢<;>exact h
def jm{x k a}(h:ab O x=Tu k a):x=Tu k a:=by cases x<;>simp at h ⊢<;>exact h
def ie{x k a b}(h:ab O x=Tf k a b):x=Tf k a b:=by cases x<;>simp at h ⊢<;>exact h
def iS{x a}(h:ab O x=Tq a):x=Tq a:=by cases x<;>simp at h ⊢<;>exact h
def EI(F:Fit Q O)(op){t x y}(z:∀d,Q.underlying t=some d->mv d)(h:jh D x)(r:jh D y):au Q U O Ro D (binOp op t x y) (binOp op t (ab O x) (ab O y)):=by
 have⟨C,v⟩:=sE op (Ao (U:=U) (Ro:=Ro) F z h r);rw[binOp.eq_def op t x y];split
 .simp only[cr];exact yi F _ _ _ _ _
 .simp only[cr];exact yi F _ _ _ _ _
 .rename_i k a j b m q;simp only[cr];unfold binOp;cases op;case shl=>exact(m rfl).elim
  case shr=>exact(q rfl).elim
  all_goals
   dsimp only;refine bp SK (λ_=>aj) λ_=> ?_
   first
    |exact An _ _ _ _
    |exact EG F _ _ _ _
    |exact Cy _ _ _ _
    |exact EH _ _ _
 .simp only[eC];unfold binOp;cases op;all_goals
   dsimp only;refine bp SK (λ_=>aj) λ_=> ?_
   first
    |exact mg (pa _ _ _ _)
    |exact mg (rR _ _ _ _)
 .simp only[eZ];unfold binOp;cases op;all_goals
   dsimp only;refine bp SK (λ_=>aj) λ_=> ?_
   exact mg (xV ..)
 .simp only[ct];unfold binOp;cases op<;>exact sC _ _ _
 .rename_i m q u w;rw[binOp_eql (λk a j b e f=>m _ _ _ _ (kN e) (kN f)) (λk a j b e f=>q _ _ _ _ (jm e) (jm f)) (λk a E j b B e f=>u _ _ _ _ _ _ (ie e) (ie f)) λa b e f=>w _ _ (iS e) (iS f)];exact C
 .rename_i m q u w;rw[binOp_neq (λk a j b e f=>m _ _ _ _ (kN e) (kN f)) (λk a j b e f=>q _ _ _ _ (jm e) (jm f)) (λk a E j b B e f=>u _ _ _ _ _ _ (ie e) (ie f)) λa b e f=>w _ _ (iS e) (iS f)];exact v
 .rename_i p k n;have c:=kJ (Q:=Q) (U:=U) (O:=O) (Ro:=Ro) (D:=D) (t:=t) (x:=Sv p) (y:=TU k n) h;rw[aY,cr]at c ⊢;refine bW t λd I=> ?_
  have A:=z d I;cases d;case int=>exact c
  case string=>exact c
  all_goals exact A.elim
 .rename_i k n p;have c:=kJ (Q:=Q) (U:=U) (O:=O) (Ro:=Ro) (D:=D) (t:=t) (x:=Sv p) (y:=TU k n) r;rw[aY,cr]at c ⊢;exact c
 .rename_i p k n;have c:=kJ (Q:=Q) (U:=U) (O:=O) (Ro:=Ro) (D:=D) (t:=t) (x:=Sv p) (y:=TU k (-n)) h;rw[aY,cr]at c ⊢;exact c
 .simp only[aY,AS];exact eT (h _ rfl) λs l g=>eT (r _ rfl) λH G i=>CG F _ g i
 iterate 4
  .simp only[aY,AS];exact eT (h _ rfl) λs l g=>eT (r _ rfl) λH G i=>CH F _ g i
 .simp only[aY,cr,AS];exact eT (h _ rfl) λs l g=>pP _ g _
 .simp only[aY,cr,AS];exact eT (h _ rfl) λs l g=>pP _ g _
 .simp only[aY,cr,AS];exact eT (r _ rfl) λs l g=>pP _ g _
 .exact dm trivial
 .exact dm trivial
 .exact aj
def zj(op)(c:op= .eql\/op= .neq){t x}(a:∀d,Q.underlying t=some d->∃e,d= .pointer e):au Q U O Ro D (binOp op t x (Sv none)) (binOp op t (ab O x) (Sv none)):=by
 have⟨f,b⟩:=sE op (zh (U:=U) (Ro:=Ro) (D:=D) (O:=O) (x:=x) a);rcases c with rfl|rfl
 rw[binOp_eql (λ_ _ _ _ _ e=>by cases e) (λ_ _ _ _ _ e=>by cases e) (λ_ _ _ _ _ _ _ e=>by cases e) (λ_ _ _ e=>by cases e),binOp_eql (λ_ _ _ _ _ e=>by cases e) (λ_ _ _ _ _ e=>by cases e) (λ_ _ _ _ _ _ _ e=>by cases e) λ_ _ _ e=>by cases e];omega;simp_all[binOp_neq]
def zk(op)(c:op= .eql\/op= .neq){t x}(a:∀d,Q.underlying t=some d->∃e,d= .interface e):au Q U O Ro D (binOp op t x SO) (binOp op t (ab O x) SO):=by
 have⟨f,b⟩:=sE op (zi (U:=U) (Ro:=Ro) (D:=D) (O:=O) (x:=x) a);rcases c with rfl|rfl
 rw[binOp_eql (λ_ _ _ _ _ e=>by cases e) (λ_ _ _ _ _ e=>by cases e) (λ_ _ _ _ _ _ _ e=>by cases e) (λ_ _ _ e=>by cases e),binOp_eql (λ_ _ _ _ _ e=>by cases e) (λ_ _ _ _ _ e=>by cases e) (λ_ _ _ _ _ _ _ e=>by cases e) λ_ _ _ e=>by cases e];omega;simp_all[binOp_neq]
end
section
variable{O:Nat->Nat}{Ro:Nat->Prop}{D:Known}{Q:AI}{U:Nat->Option Code}
def CD{s d}(hs:∀e,Q.underlying s=some e->∃k,e= .int k)(c:∀e,Q.underlying d=some e->∃k,e= .int k)(x):au Q U O Ro D (convert s d x) (convert s d (ab O x)):=by
 unfold convert;refine bW s λe f=> ?_
 refine bW d λg a=> ?_
 obtain⟨k,rfl⟩:=hs e f;obtain⟨h,rfl⟩:=c g a;cases x;case int k n=>rw[cr];exact ae (by simp[Ren.ren])
 case float k b=>rw[eC];exact mg (wD ..)
 case pointer p=>cases p<;>exact dm trivial
 all_goals exact dm trivial
def qp(F:Fit Q O)(x y c):au Q U O Ro D (U4 x y c) (U4 (ab O x) y c):=by
 exact am (lS x) λa=>bp SK (λ_=>ae rfl) λ_=>gk F _ _ _ _
def vO(F:Fit Q O)(b len a lo hi):au Q U O Ro D (V6 b len a lo hi none) (V6 b len a (lo.map (ab O)) (hi.map (ab O)) none):=by
 have c:∀(lo:Option SH)(h m:Nat),au Q U O Ro D (do
  let l <- match lo with
   |some v=>U4 v h (if(none:Option SH).isSome then .slice3C else .sliceB)
   |none=>pure 0
  pure (l,h,m)) (do
  let l <- match lo.map (ab O)with
   |some v=>U4 v h (if none.isSome then .slice3C else .sliceB)
   |none=>pure 0
  pure (l,h,m)):=λlo h m=>by
  cases lo with
  |none=>exact ae rfl
  |some v=>exact am (qp F v _ _) λl=>ae rfl
 cases hi with
 |none=>exact c lo len a
 |some v=>
  exact am (α:=Nat) (ae rfl) λm=>am (qp F v _ _) λh=>c lo h m
def Gw(F:Fit Q O)(t)(b:∀e,Q.underlying t=some e->e=Uh)(x lo hi):au Q U O Ro D (UQ t x lo hi none) (UQ t (ab O x) (lo.map (ab O)) (hi.map (ab O)) none):=by
 unfold UQ;refine bW t λe a=> ?_
 obtain rfl:=b e a;unfold Instr.slice;refine bW t λe a=> ?_
 obtain rfl:=b e a;cases x;case string s=>
  rw[ct];dsimp only;exact bp SK (λh=>absurd h (by simp)) λ_=>am (vO F _ _ _ _ _) λl=>ae (by simp[Ren.ren])
 all_goals exact aj
def Cz(F:Fit Q O)(t x i):au Q U O Ro D (UR t x i) (UR t (ab O x) (ab O i)):=by
 unfold UR;refine am (lS i) λj=> ?_
 have⟨k,i⟩:=j;rw[GT,AD,tG];have h:∀(f:Option Addr)(b:Nat)(d:TY),au Q U O Ro D (do
  let g:=b<=1&&match<- underlying t with | .array .. =>true|_=>false
  match f with
  |some a=>
   if 0<=i/\i<b then pure (Sv (some (a.add (i.toNat*(<- sizeOf d)))))
   else if g then unsupported (.noEntry "op/indexAddr.an index out of range at an array of length 0 or 1 (ledger 616)")
   else boundsPanic k i b .index
  |none=>boundsPanic k i 0 .index:Sem SH) (do
  let g:=b<=1&&match<- underlying t with | .array .. =>true|_=>false
  match f.map (bi O)with
  |some a=>
   if 0<=i/\i<b then pure (Sv (some (a.add (i.toNat*(<- sizeOf d)))))
   else if g then unsupported (.noEntry "op/indexAddr.an index out of range at an array of length 0 or 1 (ledger 616)")
   else boundsPanic k i b .index
  |none=>boundsPanic k i 0 .index):=λf b d=>by
  refine bW t λe l=> ?_
  cases f with
  |none=>exact gk F _ _ _ _
  |some a=>
   dsimp only[AS];exact bp SK (λ_=>am (fF d) λn=>ae (by simp[Ren.ren])) λ_=>bp SK (λ_=>dm trivial) λ_=>gk F _ _ _ _
 refine bW t λe l=> ?_
 cases e;case array n e=>
  exact am (kI x) λa=>h (some a) n e
 case slice e=>
  cases x;case slice a n c=>rw[dG];exact h a n e
  all_goals exact aj
 all_goals exact aj
def LO{t}(g:∀e,Q.underlying t=some e->e=Uh\/∃k,e= .slice k)(b)(h0:b[0]?=some t)(d args):au Q U O Ro D (UH b d args) (UH b d (args.map (ab O))):=by
 unfold UH;rw[h0,T9];cases args[0]? with
 |none=>exact aj
 |some x=>
  dsimp only[AS];refine bW t λe f=> ?_
  rcases g e f with rfl|⟨k,rfl⟩
  .cases x;case string s=>rw[ct];exact ae (by simp[Ren.ren,goInt])
   all_goals exact aj
  .cases x;case slice a n c=>rw[dG];exact ae (by simp[Ren.ren,goInt])
   all_goals exact aj
end
section
variable{O:Nat->Nat}{Ro:Nat->Prop}{D:Known}{Q:AI}{U:Nat->Option Code}
instance:Ren SysRet:=⟨λ_ x=>x⟩
def EC:au Q U O Ro D (sys .env) (sys .env):=by
 intro w d a c b f g h;have e:∀(P:AI)(w:Sz)(a:Array T0),(sys .env).runT P w a=(Tb (.strings w.os.env) w,a.push ⟨.output,true,false⟩):=λP w a=>by
  rfl
 rw[e,e];refine⟨oE f (by simp[TC]),.inl ⟨_,w,d,rfl,?_,jR g ⟨.output,true,false⟩,b,rfl⟩⟩;rw[b.os.1,b.os.2];rfl
def Ah:au Q U O Ro D Vw Vw:=by
 refine am EC λr=> ?_
 cases r;case strings a=>exact dF (ae rfl)
 all_goals exact aj
def Cx(F:Fit Q O)(x):au Q U O Ro D (Instr.panic x) (Instr.panic (ab O x)):=by
 cases x;case iface t v=>rw[dW];exact gj (by simp)
 case nilIface=>
  rw[db];refine am Ah λn=> ?_
  refine bp (by rw[tG]) (λ_=>gj (by simp)) λ_=>cq F _
 all_goals exact aj
def zg(a:Addr)(n):∀c a,au Q U O Ro D (Extern.Bytes.loadBytes a n c) (Extern.Bytes.loadBytes (bi O a) n c):=by
 induction n with
 |zero=>exactλc a=>ae rfl
 |succ n d=>
  intro c a;unfold Extern.Bytes.loadBytes;refine am (qP a .plain) λv=> ?_
  rw[xN];cases v;case int k b=>
   rw[cr];cases k;case u8=>have:=d (c.push b.toNat.toUInt8) (a.add 1);rw[qW]at this;omega
   all_goals exact aj
  all_goals exact aj
def pO(v):au Q U O Ro D (Extern.Bytes.bytesOf v) (Extern.Bytes.bytesOf (ab O v)):=by
 cases v;case string s=>rw[ct];exact ae rfl
 case slice a n c=>
  rw[dG];cases a with
  |none=>exact ae rfl
  |some a=>exact zg a n _ a
 all_goals exact aj
def EK(v):au Q U O Ro D (Extern.Bytes.asByte v) (Extern.Bytes.asByte (ab O v)):=by
 cases v;case int k b=>
  rw[cr];cases k;case u8=>exact ae rfl
  all_goals exact aj
 all_goals exact aj
def Lib(Q:AI)(U:Nat->Option Code)(O:Nat->Nat)(Ro:Nat->Prop)(D:Known)(e:Array SH->Sem SH):Prop:=∀a,au Q U O Ro D (e a) (e (a.map (ab O)))
def zr:Lib Q U O Ro D Extern.BytealgIndexByte.indexByte:=by
 intro a;obtain⟨_|⟨b,_|⟨c,_|⟨d,l⟩⟩⟩⟩:=a;case cons.cons.nil=>
  rw[UE];refine am (pO b) λb=>am (EK c) λc=> ?_
  rw[sH,Jw];split <;>exact ae (by simp[Ren.ren,goInt])
 all_goals exact aj
def Hq(F:Fit Q O):Lib Q U O Ro D Extern.BytealgIndex.index:=by
 have h:au Q U O Ro D Extern.BytealgIndex.maxLen Extern.BytealgIndex.maxLen:=by
  refine am (α:=Addr) ?_ λa=>am (qP a .plain) λv=>ym v
  refine dF ?_;have i:(alt Q U).globals=Q.globals:=rfl;rw[i];cases e:Q.globals.findIdx? (·.name== "internal/bytealg.MaxLen")with
  |none=>exact aj
  |some g=>
   refine ae ?_;have f:=by
    rw[Array.findIdx?_eq_some_iff_getElem]at e;exact e.1
   simp[Ren.ren,bi,F.low g (by omega)]
 intro c;obtain⟨_|⟨a,_|⟨b,_|⟨d,l⟩⟩⟩⟩:=c;case cons.cons.nil=>
  rw[UE];refine am (pO a) λa=>am (pO b) λb=> ?_
  rw[sH,sH];refine am h λn=> ?_
  refine bp SK (λ_=>dm trivial) λ_=>bp SK (λ_=>dm trivial) λ_=> ?_
  split <;>exact ae (by simp[Ren.ren,goInt])
 all_goals exact aj
end
section
variable{O:Nat->Nat}{Ro:Nat->Prop}{D:Known}{Q:AI}{U:Nat->Option Code}
abbrev pI:=Except (Option Bool) (TY×Option SH)
def AH(O:Nat->Nat):pI->pI
 |TR e=>TR e
 | .ok (t,x)=>.ok (t,x.map (ab O))
instance:Ren pI:=⟨AH⟩
def vP:∀l t x,au (α:=pI) Q U O Ro D (followBlind l t x) (followBlind l t (x.map (ab O))):=by
 intro l;induction l with
 |nil=>
  intro t x;exact ae (α:=pI) rfl
 |cons s e c=>
  intro t x;unfold followBlind;refine bW s.struct λd i=> ?_
  cases d;case struct b=>
   dsimp only;cases b[s.index]? with
   |none=>exact aj
   |some f=>
    dsimp only;cases h:s.deref with
    |true=>
     cases x with
     |none=>exact ae (α:=pI) rfl
     |some v=>
      cases v;case pointer a=>
       rw[AS,aY];cases a with
       |none=>exact ae (α:=pI) rfl
       |some a=>exact c f.type none
      all_goals exact aj
    |false=>
     cases x with
     |none=>exact c f.type none
     |some v=>
      cases v;case agg g=>
       rw[AS,fy];exact am (Af f.type g f.offset) λv=>c f.type (some v)
      all_goals exact aj
  all_goals exact aj
def Aj(b):∀t v name,au (α:=Option Bool) Q U O Ro D (nilAhead b t v name) (nilAhead b t (ab O v) name):=by
 induction b with
 |zero=>exactλt v name=>ae rfl
 |succ b h=>
  intro t v name;refine lk t λi l=> ?_
  cases i.methods.find? (·.name==name)with
  |none=>exact aj
  |some m=>
   refine am (α:=pI) (vP m.path.toList t (some v)) λr=> ?_
   cases r with
   |error r=>exact ae (by simp[Ren.ren])
   |ok r=>
    have⟨g,x⟩:=r;dsimp only[Ren.ren,AH];cases j:m.func with
    |none=>
     cases x with
     |none=>exact ae rfl
     |some x=>
      cases x;case iface k n=>rw[AS,dW];grind
      case nilIface=>rw[AS,db];exact ae rfl
      all_goals exact aj
    |some c=>
     have⟨f,p⟩:=c;cases p with
     |true=>exact ae rfl
     |false=>
      refine bW g λd q=> ?_
      cases d;case pointer e=>
       cases x with
       |none=>exact ae rfl
       |some x=>
        cases x;case pointer a=>
         rw[AS,aY];cases a<;>exact ae rfl
        all_goals simp only[AS,fK,cr,eC,eZ,ct,fT,db,dG,ls,ko,iZ,dW,fy,gl]
        all_goals exact ae rfl
      all_goals exact ae rfl
def AG(O:Nat->Nat):Target->Target
 |TX b a=>TX (kO O b) (a.map (ab O))
 |t=>t
def lu(O:Nat->Nat)(d:Deferred):Deferred:= {target:=AG O d.target,args:=d.args.map (ab O)}
def jS(O:Nat->Nat)(c:CommCase):CommCase:= {chan:=ab O c.chan,send:=c.send.map (ab O),zero:=ab O c.zero}
def qV(O:Nat->Nat):Next->Next
 |Tc v=>Tc (ab O v)
 |Ts f c=>Ts f (c.map (ab O))
 | .defer d=>.defer (lu O d)
 | .spawn d=>.spawn (lu O d)
 | .comm a b s=>.comm (a.map (jS O)) b s
 |n=>n
instance:Ren Next:=⟨qV⟩
instance:Ren Deferred:=⟨lu⟩
instance:Ren CommCase:=⟨jS⟩
def cF{s a}(h:au Q U O Ro D s a):au Q U O Ro D (do pure (Tc (<- s)):Sem Next) (do pure (Tc (<- a))):=am h λv=>ae rfl
def Jh{s a}(h:au Q U O Ro D s a):au Q U O Ro D (do s;pure .skip:Sem Next) (do a;pure .skip):=am h λv=>ae rfl
def xF(F:Fit Q O)(g f)(i:∀x,f x=ab O (g x))(o x)(k:o.op= .nilCheck x):au Q U O Ro D (SE g o) (SE f o):=by
 simp only[SE,k,i];cases g x;case pointer a=>
  rw[aY];cases a with
  |none=>exact cq (α:=Next) F UI
  |some a=>exact ae (by simp[Ren.ren,qV])
 case nilIface=>rw[db];exact cq (α:=Next) F UI
 case nilFunc=>rw[fT];exact cq (α:=Next) F UI
 case func j d c=>
  rw[iZ];cases j;case method e=>
   simp only[kO,T9];have h:au Q U O Ro D (pure (Tc (Tp (.method e) d c)):Sem Next) (pure (Tc (Tp (.method e) (d.map (ab O)) (c.map (ab O))))):=ae (by simp[Ren.ren,qV,kO]);cases l:d[0]? with
   |none=>exact h
   |some v=>
    dsimp only[AS];cases v;case nilIface=>rw[db];exact cq (α:=Next) F UI
    case iface t w=>
     rw[dW];refine dF ?_;refine am (α:=Option Bool) (Aj _ _ _ _) λb=> ?_
     refine bp ?_ (λ_=>dm trivial) λ_=>h
     simp[Ren.ren]
    all_goals simp[fK,cr,eC,eZ,ct,fT,aY,dG,ls,ko,iZ,dW,fy,gl]
    all_goals exact h
  all_goals exact ae (by simp[Ren.ren,qV])
 all_goals simp[fK,cr,eC,eZ,ct,dG,ls,ko,dW,fy,gl]
 all_goals exact ae (by simp[Ren.ren,qV])
end
def ml(Q:AI)(t:TY):Bool:=match Q.underlying t with |some (.int _)=>true|_=>false
def Bh(Q:AI)(t:TY):Bool:=match Q.underlying t with |some Uh=>true|_=>false
def xS(Q:AI)(s:TY)(f:Nat):Bool:=match Q.underlying s with
 |some (V5 a)=>match a[f]? with
  |some x=>match Q.info? x.type with|some i=>i.size !=0|none=>true
  |none=>true
 |_=>true
def ng(Q:AI)(o:Oper):Bool:=match o.op with
 | .move _| .assign _| .pick _ _ _| .alloc _| .box _ _| .build _ _| .buildSlice _ _ _| .load _ _| .store _ _ _| .nilCheck _| .unOp _ _ _| .makeInterface _ _| .indexAddr _ _ _| .index _ _ _
 | .typeAssert _ _ _ _| .extract _ _| .panic _| .send _ _| .recv _ _ _=>true
 | .binOp a t _ y _=>F8 Q a t y
 | .convert s d _=>ml Q s&&ml Q d
 | .makeFunc (SQ _) _ _=>true
 | .slice t _ _ _ none=>Bh Q t
 | .fieldAddr s _ f=>xS Q s f
 |_=>false
section
variable{O:Nat->Nat}{Ro:Nat->Prop}{D:Known}{Q:AI}{U:Nat->Option Code}
def pg{t}(h:ml Q t=true):∀e,Q.underlying t=some e->∃k,e= .int k:=λe a=>by
 grind [ml]
def Hz{t}(h:Bh Q t=true):∀e,Q.underlying t=some e->e=Uh:=λe a=>by
 grind [Bh]
def F7{s f}(h:xS Q s f=true):∀fields x i,Q.underlying s=some (V5 fields)->fields[f]?=some x->Q.info? x.type=some i->i.size≠0:=λfields x i a c b=>by
 simp_all[xS]
def yw{b a:U8->SH}(c:∀x,a x=ab O (b x))(parts:Array (Nat×U8)):(parts.map λ(i,x)=>(i,a x))=(parts.map λ(i,x)=>(i,b x)).map λx=>(x.1,ab O x.2):=by
 rw[Us];grind
def qv{b a}(d:∀x,a x=ab O (b x))(c:Array U8):c.map a=(c.map b).map (ab O):=by
 grind
def AX{c a}(b:∀x,a x=ab O (c x))(x:Option U8):x.map a=(x.map c).map (ab O):=by
 cases x<;>simp[b]
def Ap{op t}(i:∀d,Q.underlying t=some d->mv d)(x y a b):au Q U O Ro D (eqGuard op t x y a b) (eqGuard op t x y (ab O a) (ab O b)):=by
 have f:∀P,P=Q\/P=alt Q U->P.eqGuardType P.depth t=false\/P.underlying t=none:=λP k=>by
  have j:P.underlying t=Q.underlying t:=by rcases k with rfl|rfl<;>rfl
  rw[j];cases e:Q.underlying t with
  |none=>exact .inr rfl
  |some d=>
   refine .inl ?_;have g:=i d e;simp[VB,UV,j,e];cases d<;>first |rfl|exact g.elim
 have c:au Q U O Ro D (pure ()) (pure ()):=ae rfl;refine bp SK (λ_=>c) λ_=> ?_
 cases a;case nilIface=>
  cases b;case nilIface=>
   rw[db];refine bp SK (λ_=>c) λ_=> ?_
   refine am (α:=Bool) ?_ λb=>bp (by rw[AE]) (λ_=>dm trivial) λ_=>c
   refine bW t λd e=> ?_
   have g:=i d e;cases d;case int=>exact ae rfl
   case string=>exact ae rfl
   all_goals exact g.elim
  all_goals simp[fK]
  all_goals exact c
 case agg m=>
  cases b;case agg l=>
   rw[fy,fy];refine dF ?_;have h:(alt Q U).eqGuardType (alt Q U).depth t=Q.eqGuardType Q.depth t/\(Q.eqGuardType Q.depth t=false\/Q.underlying t=none):=by
    grind [VB,UV]
   refine dF ?_;rw[h.1];refine bp SK (λ_=>c) λn=> ?_
   refine am (α:=Bool) ?_ λb=>bp (by rw[AE]) (λ_=>dm trivial) λ_=>c
   refine bW t λd e=> ?_
   grind
  all_goals simp[fK]
  all_goals exact c
 all_goals simp[fK]
 all_goals exact c
def sV(op t x y a):eqGuard op t x y a (Sv none)=pure ():=by
 simp[eqGuard]
def sW(op t x a):eqGuard op t x (TJ SO) a SO=pure ():=by
 cases op<;>cases a<;>cases x<;>rfl
def CE(F:Fit Q O){b c:U8->SH}(f:∀x,c x=ab O (b x))(p:b (TJ (Sv none))=Sv none/\b (TJ SO)=SO)(n:∀x,jh D (b x)){op t x y}(a:F8 Q op t y=true):
 au Q U O Ro D (do eqGuard op t x y (b x) (b y);binOp op t (b x) (b y):Sem SH) (do eqGuard op t x y (c x) (c y);binOp op t (c x) (c y)):=by
 rw[f x,f y];unfold F8 at a;cases j:Q.underlying t with
 |none=>rw[j]at a;cases a
 |some d=>
  rw[j]at a;have g:mv d->au Q U O Ro D (do eqGuard op t x y (b x) (b y);binOp op t (b x) (b y)) (do eqGuard op t x y (ab O (b x)) (ab O (b y));binOp op t (ab O (b x)) (ab O (b y))):=λq=>by
   have k:∀d,Q.underlying t=some d->mv d:=λl m=>by grind
   exact am (Ap k x y _ _) λ_=>EI F op k (n x) (n y)
  cases d;case int=>exact g trivial
  case string=>exact g trivial
  case pointer e=>
   rw[SD]at a;have⟨i,h⟩:=a;have h:y=TJ (Sv none):=by
    grind
   subst h;rw[p.1,aY,Option.map_none,sV,sV];exact zj op (by cases op<;>first |exact .inl rfl|exact .inr rfl|cases i) λl m=>by grind
  case interface e=>
   rw[SD]at a;have⟨i,h⟩:=a;have h:y=TJ SO:=by
    grind
   subst h;rw[p.2,db,sW,sW];exact zk op (by cases op<;>first |exact .inl rfl|exact .inr rfl|cases i) λl m=>by grind
  all_goals cases a
def qQ(F:Fit Q O){p l}(g:∀x,l x=ab O (p x))(C:p (TJ (Sv none))=Sv none/\p (TJ SO)=SO)(u:∀x,jh D (p x)){o}(h:ng Q o=true):au Q U O Ro D (SE p o) (SE l o):=by
 cases j:o.op;case nilCheck x=>exact xF F p l g o x j
 all_goals
  simp only[ng,j]at h
 all_goals try(exact absurd h SN)
 all_goals
  simp only[SE,j]
 case move x=>rw[g];exact ae rfl
 case assign x=>rw[g];exact ae rfl
 case pick c a b=>
  rw[g,g,g];refine am (vR _) λv=>ae ?_
  cases v<;>rfl
 case alloc t=>exact cF (GC F.zero t true)
 case box t x=>rw[g];exact cF (LP t _)
 case build t k=>rw[yw g];exact cF (GB F.zero t _)
 case buildSlice t n k=>rw[yw g];exact cF (xH F.zero t n _)
 case load t a=>rw[g];exact cF (EF t _)
 case store t a x=>rw[g,g];exact Jh (Cu t _ _)
 case unOp r t x=>rw[g];exact cF (Gu r _)
 case makeInterface t x=>rw[g];exact cF (tS t _)
 case indexAddr t x i=>rw[g,g];exact cF (Cz F t _ _)
 case index t x i=>rw[g,g];exact cF (Gy F t _ _)
 case typeAssert x w t q=>rw[g];exact cF (xE F _ w t q)
 case extract t n=>rw[g];exact cF (CB _ n)
 case panic x=>rw[g];exact cF (Cx F _)
 case send c x=>
  rw[g,g];refine ae ?_;show _=qV O _;simp[qV,jS]
 case recv t c q=>
  rw[g];refine bW t λd G=> ?_
  cases d;case chan E e=>
   refine am (gd F.zero e) λz=>ae ?_
   simp[qV,jS,Ren.ren]
  all_goals exact aj
 case binOp r t x y z=>exact cF (CE F g C u h)
 case convert s d x=>
  rw[SD]at h;rw[g];exact cF (CD (pg h.1) (pg h.2) _)
 case makeFunc A a b=>
  cases A;case func f=>
   rw[qv g,qv g];exact cF (Am (SQ f) rfl _ _)
  all_goals cases h
 case slice t x I H B=>
  cases B with
  |none=>
   rw[g,AX g,AX g];exact cF (Gw F t (Hz h) _ _ _)
  |some m=>cases h
 case fieldAddr s x f=>rw[g];exact cF (CA (F7 h) _)
end
section
variable{O:Nat->Nat}{Ro:Nat->Prop}{D:Known}{Q:AI}{U:Nat->Option Code}
def tQ(U:Nat->Option Code)(x:Result Next×Array T0):Prop:=∃f a b,x.1=Tb (Ts f a) b/\(U f).isSome=true/\¬ Big x.2
def Dom(D:Known)(w:Sz):Prop:=∀i,D i->i<w.heap.size
def Quick(h:Halt):Prop:=h≠V9/\h≠V8/\∀g,h≠SS (Tv g)
def C4{a:Type}(r:Result a):Prop:=∀h b,r=SJ h b->Quick h
def oI(Q:AI)(U:Nat->Option Code)(O:Nat->Nat)(Ro:Nat->Prop)(D:Known)(e:Bool)(s d:Sem Next):Prop:=
 ∀w c b a,eo O Ro D w c->Dom D w->¬ Big b->Sub (O:=O) b a->g6 O w c (dh (s.runT (alt Q U) w b).1).heap.size->
  Ca O Ro D w c (s.runT (alt Q U) w b) (d.runT Q c a)\/tQ U (s.runT (alt Q U) w b)\/(e=false/\Big (s.runT (alt Q U) w b).2/\Big (d.runT Q c a).2/\C4 (d.runT Q c a).1)
def gM{i s b}(h:au Q U O Ro D s b):oI Q U O Ro D i s b:=λw d g a e k c j f=>.inl (h w d g a e c j f)
def GE{I G}[Ren G]{s y:Sem G}{f C}(hs:au Q U O Ro D s y)(N:∀a,oI Q U O Ro D I (f a) (C (Ren.ren O a))):oI Q U O Ro D I (s>>=f) (y>>=C):=by
 intro w x u e L R H E l;cases g:s.runT (alt Q U) w u with
 |mk r K=>
  cases r with
  |halt h B=>
   have q:=hs w x u e L H E (by rw[g];rw[aM,g]at l;exact l);rw[g]at q;refine .inl ?_;obtain⟨d,⟨a,v,m,c,_⟩|⟨h,v,m,c,j,p,t,T,M⟩|⟨h,v,c,j⟩⟩:=q;cases c;rw[aM,g,aM];generalize y.runT Q x e=z at p t ⊢;have⟨S,F⟩:=z;dsimp only at p;subst p;cases c;exact⟨d,.inr (.inl ⟨_,_,m,rfl,j,rfl,t,T,M⟩)⟩;rw[aM,g];cases c;exact⟨d,.inr (.inr ⟨_,_,rfl,j⟩)⟩
  |ok a B=>
   have A:=runT_size (alt Q U) s w u;rw[aM,g]at l ⊢;rw[g]at A;have q:=hs w x u e L H E (by rw[g];exact jW l (runT_size (alt Q U) (f a) B K));rw[g]at q;obtain⟨d,⟨b,v,m,c,j,n,p,t⟩|⟨h,v,m,c,_⟩|⟨h,v,c,_⟩⟩:=q;cases c;rw[aM];generalize y.runT Q x e=z at j n ⊢;have⟨S,F⟩:=z;subst j;rcases N a B m K F p (λi W=>V0 (R i W) A) d n (vb l A t)with⟨P,k⟩|k|k
   refine .inl ⟨P,?_⟩;grind
   exact .inr (.inl k);grind
   cases c;grind
def xG(f):au Q U O Ro D (mark (.extern f)) (mark (.extern f)):=λw a h d c b e g=>⟨oE b (by simp[TC]),.inl ⟨_,w,a,rfl,rfl,jR e ⟨TP (.extern f),false,true⟩,c,rfl⟩⟩
end
structure lf(Q:AI)(U:Nat->Option Code):Prop where
 num:∀(f:Nat)(fn:Func),Q.funcs[f]?=some fn->(fn.name== "runtime.NumGoroutine")=false
 lib:∀(f:Nat)(fn:Func),Q.funcs[f]?=some fn->U f=none->fn.body.isNone=true->Ue fn=none/\∃e,TZ fn=some e/\∀O Ro D,Fit Q O->Lib Q U O Ro D e
section
variable{O:Nat->Nat}{Ro:Nat->Prop}{D:Known}{Q:AI}{U:Nat->Option Code}
theorem ft(f):(alt Q U).funcs[f]?=Q.funcs[f]?.map (ax U f):=by
 show(Q.funcs.mapIdx (ax U))[f]?=_;rw[Array.getElem?_mapIdx]
def j5(f fn):(ax U f fn).name=fn.name:=by unfold ax;split <;>rfl
def Aq{a f b}(h:oI Q U O Ro D a (f (alt Q U)) (b Q)):oI Q U O Ro D a (program>>=f) (program>>=b):=h
def rN{cl}(A:lf Q U)(F:Fit Q O)(f args):oI Q U O Ro D cl (SM f args) (SM f (args.map (ab O))):=by
 unfold SM;refine Aq ?_;rw[ft];cases g:Q.funcs[f]? with
 |none=>exact gM aj
 |some a=>
  dsimp only[AS];rw[j5,A.num f a g];rw[if_neg SN,if_neg SN];cases d:U f with
  |some c=>
   have e:(ax U f a).body.isNone=false:=by unfold ax;rw[d];rfl
   rw[e,if_neg SN];intro w p n l q s b t r;exact .inr (.inl ⟨f,args,w,rfl,by rw[d];rfl,b⟩)
  |none=>
   have e:ax U f a=a:=by unfold ax;rw[d]
   rw[e];cases j:a.body.isNone with
   |false=>
    rw[if_neg SN,if_neg SN];exact gM (ae rfl)
   |true=>
    rw[if_pos rfl,if_pos rfl];have⟨k,m,i,h⟩:=A.lib f a g d j;rw[k,i];exact GE (xG f) λ_=>gM (cF (h O Ro D F args))
end
def nG(Q:AI)(c:Call):Bool:=match c.callee with
 | .value (Ub _)=>true
 |UM .len=>match c.argTypes[0]? with
  |some t=>match Q.underlying t with|some Uh=>true|some (.slice _)=>true|_=>false
  |none=>false
 |UM .recover=>true
 |_=>false
section
variable{O:Nat->Nat}{Ro:Nat->Prop}{D:Known}{Q:AI}{U:Nat->Option Code}
def GD{l}(A:lf Q U)(F:Fit Q O){h d}(g:∀x,d x=ab O (h x))(m:∀f,h (Ub f)=Tp (SQ f) #[] #[]){o c}(n:o.op= .call c)(a:nG Q c=true):oI Q U O Ro D l (SE h o) (SE d o):=by
 simp[SE,n,resolve];unfold nG at a;rw[qv g];cases j:c.callee;case value x=>
  rw[j]at a;cases x;case func f=>
   have e:d (Ub f)=Tp (SQ f) #[] #[]:=by simp[g,m,kO]
   simp only[m,e];have:=rN (Ro:=Ro) (D:=D) (cl:=l) A F f (#[]++c.args.map h++ #[]);rw[TI,TI,Array.map_empty]at this;exact this
  all_goals cases a
 case builtin b=>
  rw[j]at a;cases b;case len=>
   cases i:c.argTypes[0]? with
   |none=>rw[i]at a;cases a
   |some t=>
    simp[i]at a;have p:∀e,Q.underlying t=some e->e=Uh\/∃k,e= .slice k:=λe q=>by
     rw[q]at a;cases e<;>first |exact .inl rfl|exact .inr ⟨_,rfl⟩|cases a
    exact gM (cF (LO p c.argTypes i o.type (c.args.map h)))
  case recover=>exact gM (ae rfl)
  all_goals cases a
 grind
def Cw{g e}(a:∀x,e x=ab O (g x))(c t):au Q U O Ro D (resolve g c t) (resolve e c t):=by
 simp only[resolve,qv a];cases c.callee;case builtin b=>exact ae rfl
 case invoke i h=>
  simp[a];refine ae ?_;show _=lu O _;simp[lu,AG,kO]
 case value x=>
  simp only[a];cases g x;case func j f d=>
   rw[iZ];refine ae ?_;show _=lu O _;simp[lu,AG]
  case nilFunc=>
   rw[fT];refine ae ?_;rfl
  all_goals exact aj
def CC{e a}(b:∀x,a x=ab O (e x)){o c}(f:o.op= .defer c):au Q U O Ro D (SE e o) (SE a o):=by
 simp[SE,f];exact am (Cw b c o.type) λd=>ae rfl
end
section
variable{P:AI}
def holds(w:Sz)(a:Addr)(n:Nat):Bool:=match w.shape? a.block with|some (_,k)=>a.spot.isNone&&decide (a.off+n<=k)|none=>false
def yL(a n w b):(Un a n).runT P w b=(Tb (holds w a n) w,b):=by
 unfold Un holds;rw[aM];have e:(shape a.block).runT P w b=(Tb (w.shape? a.block) w,b):=rfl;rw[e];cases w.shape? a.block<;>rfl
theorem Fq(a w b):(frozen a).runT P w b=(Tb (w.frozen? a) w,b):=rfl
def shares(w:Sz)(c sLen n:Nat)(base:Option Addr)(x:SH):Bool:=
 let d:=match base with|none=>true|some a=>holds w a (sLen*c)&& !(w.frozen? (a.add (sLen/2*c)))
 if d then match x with|Tt (some b) _ _=> !(holds w b (n*c))||base.any (·.block==b.block)|_=>false
 else true
def Bc(e sLen n base x w f):(Vc e sLen n base x).runT P w f=(Tb (shares w e sLen n base x) w,f):=by
 have g:∀d:Bool,(if(!d)=true then(pure true:Sem Bool)else match x with
  |Tt (some b) .. =>do pure (!(<- Un b (n*e))||base.any (·.block==b.block))
  |_=>pure false).runT P w f=(Tb (if d then(match x with
  |Tt (some b) .. => ! holds w b (n*e)||base.any (·.block==b.block)
  |_=>false)else true) w,f):=λd=>by
  cases d with
  |false=>rfl
  |true=>
   simp only[Bool.not_true,SC,if_false,if_true];cases x;case slice a l c=>
    cases a with
    |none=>rfl
    |some b=>
     dsimp only;rw[aM,yL];rfl
   all_goals rfl
 unfold Vc shares;cases base with
 |none=>exact g true
 |some a=>
  dsimp only;rw[aM,yL];grind [aM,Fq]
end
section
variable{O:Nat->Nat}{Ro:Nat->Prop}{D:Known}{Q:AI}{U:Nat->Option Code}
def Gx(v):au Q U O Ro D (VE v) (VE (ab O v)):=by
 cases v;case slice a n c=>rw[dG];exact ae rfl
 case string s=>rw[ct];exact ae rfl
 all_goals exact aj
def lm(d n v):au Q U O Ro D (Tj d n v) (Tj d n (ab O v)):=by
 cases v;case slice a l c=>
  rw[dG];cases a with
  |none=>exact ae (by simp[Ren.ren])
  |some a=>exact rM a (n*d)
 case string s=>
  rw[ct];refine ae ?_;rw[M5,Us];congr 1
  funext b
  simp
 all_goals exact aj
def zb(z n):Tl (z.map (ab O)) n=(Tl z n).map (ab O):=by
 simp only[Tl,Us,Ul];congr 1
 funext i
 exact uu z _
def EE:au Q U O Ro D (mark .noRoom) (mark .noRoom):=λw a g d c b e f=>⟨b,.inl ⟨(),w,a,rfl,rfl,jR e ⟨TP .noRoom,false,true⟩,c,rfl⟩⟩
def CF(n):au Q U O Ro D (askRoom n) (askRoom n):=bp SK (λ_=>EE) λ_=>ae rfl
def EJ{b}[Ren b]{s f:Sem b}(h:∀w a,∃x e,(s.runT (alt Q U) w a).1=SJ x e/\Dead x):au Q U O Ro D s f:=λw i a c k d j g=>⟨d,.inr (.inr (h w a))⟩
def qC(D:Known)(v:SH):Prop:=∀a l c,v=Tt (some a) l c->D a.block
def Gz(g:l4 Q O)(elem b sLen n c a s x):au Q U O Ro D (do
 let e <- Tj b sLen s
 let d <- Tj b n x
 let z <- zeroValue elem
 let r <- newRow elem (e++d++Tl z.cells (a-c))
 pure (Tt (some r) c a):Sem SH)
 (do
  let e <- Tj b sLen (ab O s)
  let d <- Tj b n (ab O x)
  let z <- zeroValue elem
  let r <- newRow elem (e++d++Tl z.cells (a-c))
  pure (Tt (some r) c a):Sem SH):=by
 refine am (lm b sLen s) λe=> ?_
 refine am (lm b n x) λd=> ?_
 refine am (gd g elem) λz=> ?_
 have f:=by
  have:=qO (P:=alt Q U) (P':=Q) (O:=O) (Ro:=Ro) (D:=D) elem (e++d++Tl z.cells (a-c));rw[TI,TI,<- zb,<- ig]at this;omega
 exact am f λr=>ae (by simp[Ren.ren])
def EM(F:Fit Q O){g}(y:∀xt,g[1]?=some xt->∀k,Q.underlying xt≠some (.int k))(t args):
 au Q U O Ro D (Ug g t args) (Ug g t (args.map (ab O))):=by
 unfold Ug;rw[T9,T9];cases E:g[0]? with
 |none=>exact aj
 |some j=>
 cases C:args[0]? with
 |none=>exact aj
 |some s=>
 cases G:args[1]? with
 |none=>exact aj
 |some x=>
 dsimp -zeta only [AS];refine am (qo j) λd=> ?_
 rw[Jv];cases d;case slice c=>
  dsimp -zeta only;cases s;case slice f b l=>
   rw[dG];dsimp -zeta only;refine am (fF c) λe=> ?_
   rw[tF];extract_lets A q p;have u:au Q U O Ro D (q false) (p false):=by
    simp only[A,q,p,SC,if_false,Bool.not_false,if_true,false_or];refine am (Gx x) λn=> ?_
    rw[tF];refine bp SK (λ_=> ?_) λ_=> ?_
    refine am (lm e n x) λr=> ?_
    cases f with
    |none=>exact ae (by simp[Ren.ren])
    |some a=>
     dsimp only[AS];refine am ?_ λ_=>ae (by simp[Ren.ren])
     have:=jj (Q:=Q) (U:=U) (O:=O) (Ro:=Ro) (D:=D) (a.add (b*e)) r.toList 0;rw[qW,<- U5]at this;exact this
    refine am (kH c) λi=> ?_
    rw[uP];refine bp SK (λ_=> ?_) λ_=> ?_
    exact cq (α:=SH) F (.error "growslice: len out of range");refine am (kH c) λi=> ?_
    rw[uP];refine bp SK (λ_=> ?_) λ_=> ?_
    refine EJ λw B=> ?_
    rw[aM,aM,Bc];dsimp only;cases shares w e b n f x<;>exact⟨_,_,rfl,trivial⟩;refine am (qR _) λh=> ?_
    rw[tF];refine am (kH c) λi=> ?_
    rw[uP];have v:=Gz (Q:=Q) (U:=U) (Ro:=Ro) (D:=D) F.zero c e b n (b+n) h (Tt f b l) x;rw[dG]at v;exact am (CF _) λ_=>v
   clear_value q p;cases m:g[1]? with
   |none=>exact u
   |some xt=>
    dsimp only;refine bW xt λd z=> ?_
    cases d;case int k=>exact absurd z (y xt m k)
    all_goals exact u
  all_goals exact aj
 all_goals exact aj
def CI{b s a}(h:au Q U O Ro D s a):oI Q U O Ro D b (do pure (Tc (<- s))) (do pure (Tc (<- a))):=gM (am h λv=>ae rfl)
end
def lp(Q:AI)(a:Bool)(c:Call):Bool:=nG Q c||match c.callee with
 |UM .append=>match c.argTypes[1]? with|some t=> !a&& !ml Q t|none=> !a
 |UM .min=>true
 |_=>false
abbrev bM:=List (Nat×Nat)
def Om(b:bM)(a:Bool):Target->Prop
 |TX (SQ f) _=>b.all (·.1 !=f)=true
 |TS Ua _ _ _=>a=true
 |_=>False
def iu(Q:AI)(b:bM)(a:Bool)(f:Nat)(o:Oper):Bool:=
 (
  match o.op with
  | .call c=>lp Q a c&& (match c.callee with | .value (Ub g)=>b.all (·.1 !=g)|_=>true)
  | .defer c=>match c.callee with| .value (.tmp t)=>b.contains (f,t)|UM Ua=>a|_=>false
  | .send _ _=>a
  | .recv _ _ _=> !a
  |_=>ng Q o)&&
 (
  match o.dst with
  |some t=> !b.contains (f,t)||(match o.op with | .makeFunc (SQ h) _ _=>b.all (·.1 !=h)|_=>false)
  |none=>true)
def NK(e:bM)(a:Bool):Next->Prop
 |Tc _=>True
 | .skip=>True
 | .recover=>True
 |Ts f _=>e.all (·.1 !=f)=true
 | .defer d=>Om e a d.target
 | .comm g i b=>i=true/\∃c,g=#[c]/\((a=true/\b= .send/\c.send.isSome=true)\/(a=false/\∃h,b= .recv h/\c.send=none))
 |_=>False
def YP{c:Type}(P:AI)(T:c->Prop)(s:Sem c):Prop:=∀w e a d b,s.runT P w e=(Tb a d,b)->T a
section
variable{P:AI}
def bY{d T a}(h:T a):YP P T (pure a:Sem d):=λw g b f c e=>by
 have e:((Tb a w,g):Result d×Array T0)=(Tb b f,c):=e;grind
def fi{a T h}:YP P T (Uz h:Sem a):=λw f b d c e=>by
 cases e
def cN{d g}{T:g->Prop}{s:Sem d}{f}(h:∀a,YP P T (f a)):YP P T (s>>=f):=λw i b m c e=>by
 rw[aM]at e;generalize s.runT P w i=x at e;have⟨r,l⟩:=x;cases r with
 |ok a j=>exact h a _ _ _ _ _ e
 |halt k j=>cases e
def vv{a}{T:a->Prop}{f}(h:YP P T (f P)):YP P T (program>>=f):=h
def nK{b a s}:YP P (NK b a) (do pure (Tc (<- s)):Sem Next):=cN λv=>bY trivial
def Ly{b a s}:YP P (NK b a) (do s;pure .skip:Sem Next):=cN λv=>bY trivial
end
section
variable{O:Nat->Nat}{Ro:Nat->Prop}{D:Known}{Q:AI}{U:Nat->Option Code}
def Ji(x y):au Q U O Ro D (Uf x y) (Uf (ab O x) (ab O y)):=by
 cases x;case int k a=>
  cases y;case int d b=>rw[cr,cr];exact ae (by simp[Ren.ren])
  case pointer p=>cases p with|none=>exact aj|some p=>exact dm trivial
  all_goals exact aj
 case float k a=>
  cases y;case float d b=>
   rw[eC,eC];refine mg ?_;simp[Uf];split;exact aQ (T:=λ_=>True) (jH λn=>trivial) λn _=>cj (eS _ _)
   all_goals exact cj (eS _ _)
  case pointer p=>cases p with|none=>exact aj|some p=>exact dm trivial
  all_goals exact aj
 case string a=>
  cases y;case string b=>
   rw[ct,ct];refine am (sC .leq a b) λv=> ?_
   refine am (vR v) λc=>ae ?_
   simp[Ren.ren]
  case pointer p=>cases p with|none=>exact aj|some p=>exact dm trivial
  all_goals exact aj
 case pointer q=>
  cases q with
  |some q=>cases y<;>exact dm trivial
  |none=>
   cases y;case pointer p=>cases p with|none=>exact aj|some p=>exact dm trivial
   all_goals exact aj
 all_goals
  cases y;case pointer p=>cases p with|none=>exact aj|some p=>exact dm trivial
  all_goals exact aj
def uh:∀(l:List SH) x,au Q U O Ro D (l.foldlM Uf x) ((l.map (ab O)).foldlM Uf (ab O x))
 |[],x=>ae rfl
 |y::l,x=>am (Ji x y) λv=>uh l v
def LN(a t args):au Q U O Ro D (UG a t args) (UG a t (args.map (ab O))):=by
 simp[UG];cases args.toList with
 |nil=>exact aj
 |cons x l=>exact uh l x
def EN{h}(A:lf Q U)(F:Fit Q O){d g}(e:∀x,g x=ab O (d x))(k:∀f,d (Ub f)=Tp (SQ f) #[] #[])(l:∀x,qC D (d x)){o c}(j:o.op= .call c)(a:lp Q h c=true):oI Q U O Ro D h (SE d o) (SE g o):=by
 simp[lp]at a;rcases a with a|a
 exact GD A F e k j a;simp only[SE,j,resolve,qv e];cases i:c.callee;case builtin b=>
  rw[i]at a;cases b;case append=>
   refine CI (EM F ?_ o.type (c.args.map d));grind [ml]
  case min=>exact gM (cF (LN c.argTypes o.type (c.args.map d)))
  all_goals cases a
 all_goals(rw[i]at a;cases a)
def LQ(A:lf Q U)(F:Fit Q O){n j f e g}(b:∀x,g x=ab O (e x))(i:e (TJ (Sv none))=Sv none/\e (TJ SO)=SO)(l:∀f,e (Ub f)=Tp (SQ f) #[] #[])(h:∀x,jh D (e x))(m:∀x,qC D (e x)){o}
 (d:iu Q n j f o=true):oI Q U O Ro D j (SE e o) (SE g o):=by
 simp[iu]at d;have d:=d.1;cases a:o.op;case call c=>
  simp[a]at d;exact EN A F b l m a d.1
 case defer c=>exact gM (CC b a)
 case send k x=>exact gM (qQ F b i h (by simp[ng,a]))
 case recv t k p=>exact gM (qQ F b i h (by simp[ng,a]))
 all_goals
  rw[a]at d;exact gM (qQ F b i h d)
def Cb(A:lf Q U){g:bM}{l f}(h:g.all (·.1 !=f)=true)(args):YP (alt Q U) (NK g l) (SM f args):=by
 refine vv ?_;rw[ft];cases d:Q.funcs[f]? with
 |none=>exact fi
 |some a=>
  simp only[AS,j5,A.num f a d];cases b:U f with
  |some c=>
   have e:(ax U f a).body.isNone=false:=by simp[ax,b]
   rw[e];exact bY h
  |none=>
   have e:ax U f a=a:=by simp[ax,b]
   rw[e];cases k:a.body.isNone with
   |false=>
    exact bY h
   |true=>
    have⟨i,m,j,n⟩:=A.lib f a d b k;rw[i,j];exact cN λ_=>nK
def Mf(A:lf Q U){l:bM}{y f}{k:U8->SH}(I:∀f,k (Ub f)=Tp (SQ f) #[] #[])(H:∀t,(f,t)∈l->∀fn a b,k (.tmp t)=Tp fn a b->∃h,fn=SQ h/\l.all (·.1 !=h)=true)(F:∀t,(f,t)∈l->k (.tmp t)≠U2){o}
 (j:iu Q l y f o=true):YP (alt Q U) (NK l y) (SE k o):=by
 simp[iu,SD]at j;have j:=j.1;cases i:o.op;case call c=>
  simp[i,SD]at j;have⟨n,u⟩:=j;simp[SE,i,resolve];unfold lp nG at n;cases q:c.callee;case value x=>
   rw[q]at n u;cases x;case func g=>
    dsimp only at u ⊢;rw[I];exact Cb A u _
   all_goals cases n
  case builtin b=>
   rw[q]at n;cases b;case len=>exact nK
   case recover=>exact bY trivial
   case append=>exact nK
   case min=>exact nK
   all_goals cases n
  grind
 case defer c=>
  simp[i]at j;simp[SE,i,resolve];cases q:c.callee;case value x=>
   rw[q]at j;cases x;case tmp t=>
    dsimp only at j ⊢;have v:(f,t)∈l:=by grind
    cases B:k (.tmp t);case func fn a b=>
     obtain⟨h,rfl,E⟩:=H t v fn a b B;exact bY E
    case nilFunc=>exact absurd B (F t v)
    all_goals exact fi
   all_goals cases j
  case builtin b=>
   rw[q]at j;cases b;case close=>exact bY j
   all_goals cases j
  grind
 case send C x=>
  rw[i]at j;simp[SE,i];exact bY ⟨rfl,_,rfl,.inl ⟨j,rfl,rfl⟩⟩
 case recv t C K=>
  rw[i]at j;simp[SE,i];refine cN λd=> ?_
  cases d;case chan G e=>exact cN λz=>bY ⟨rfl,_,rfl,.inr ⟨by simpa using j,_,rfl,rfl⟩⟩
  all_goals exact fi
 all_goals
  simp[ng,i]at j
 all_goals try(exact absurd j SN)
 all_goals
  simp only[SE,i]
 case nilCheck x=>
  cases k x;case pointer a=>cases a with|none=>exact cN (s:=program) λp=>fi|some a=>exact bY trivial
  case nilIface=>exact cN (s:=program) λp=>fi
  case nilFunc=>exact cN (s:=program) λp=>fi
  case func fn r m=>
   cases fn;case method w=>
    dsimp only;split;exact cN (s:=program) λp=>fi
    exact cN λp=>cN λb=>by
     split <;>first |exact fi|exact bY trivial
    exact bY trivial
   all_goals exact bY trivial
  all_goals exact bY trivial
 all_goals first
  |exact nK
  |exact Ly
  |exact bY trivial
  |exact cN λ_=>bY trivial
end
end
def yr{e}(P)(s:Sem e){x}:∀w d,x∈d->x∈(s.runT P w d).2:=by
 induction s with
 |pure a=>exactλw d h=>h
 |halt y=>exactλw d h=>h
 |load m a k b=>
  grind [Sy]
 |store m a v k b=>
  intro w d h;cases v;all_goals simp[Sy]
  case agg=>exact h
  case tuple=>exact h
  all_goals
   split;split <;>first |exact h|exact b _ _ (T4.2 (.inl h))
   split <;>first |exact b _ _ (U6.2 (.inl h))|exact h
 |new o k b=>exactλw d h=>b _ _ _ h
 |shape r k b=>exactλw d h=>b _ _ _ h
 |freeze a n k b=>exactλw d h=>b _ _ h
 |frozen a k b=>exactλw d h=>b _ _ _ h
 |getObj r k b=>
  grind [Sy]
 |setObj r o k b=>
  grind [Sy]
 |choose q k b=>
  grind [Sy]
 |sys c k b=>exactλw d h=>b _ _ _ (T4.2 (.inl h))
 |program k b=>exactλw d h=>b _ _ _ h
 |mark m k b=>exactλw d h=>b _ _ (T4.2 (.inl h))
def sU{P}{w p:Sz}{a v b l}(h:w.farStore P a v b= .ok (p,l)):∀r,p.heap[r]?≠w.heap[r]?->∃x∈l,x.block=r:=by
 intro r k;unfold Tx at h;split at h;rename_i j u C;split at h;rename_i y d;simp only[Except.ok.injEq]at h;subst h;unfold U9 at d;cases f:w.seen P j u a b with
 |error e=>
  rw[f]at d;simp only[bind,Ta,pure,TN,throw,throwThe,T7]at d;split at d<;>cases d
 |ok z=>
  have⟨c,e,s,m,q,i⟩:=z;rw[f]at d;have g:w.heap[j.block]?=some (SY c e s):=by
   unfold Vd at f;simp only[bind,Ta,pure,TN,throw,throwThe,T7]at f;repeat' split at f
   all_goals first
    |(cases f;done)
    |(
     simp only[Except.ok.injEq,Prod.mk.injEq]at f;have⟨rfl,rfl,rfl,_⟩:=f;assumption)
  simp only[bind,Ta,pure,TN,throw,throwThe,T7]at d;split at d;cases d;split at d;split at d;cases d;split at d;cases d;rename_i n A;simp only[Except.ok.injEq,Prod.mk.injEq]at d;have⟨rfl,rfl⟩:=d;dsimp only at k;rw[Array.getElem?_setIfInBounds]at k;split at k;rename_i B;subst B;cases i with
  |nil=>
   have e:n=c:=by
    have t:(Except.ok c:Except String (Array SH))= .ok n:=A;simpa using t.symm
   subst e;exfalso;apply k;rw[g];simp[(SR.1 g).1]
  |cons x D=>exact⟨_,V1.2 ⟨x,.head _,rfl⟩,rfl⟩
  exact absurd rfl k;cases d
 cases h;cases h
def qz(c:Array T0)(b:Nat):Prop:=∃e∈c,e.write=true/\∃a,e.loc=TE a/\a.block=b
def qz.mono{c a b}(h:qz c b)(hs:∀e∈c,e∈a):qz a b:=let⟨e,d,h⟩:=h;⟨e,hs e d,h⟩
def vW{I}(P)(s:Sem I):bE P s->∀w g b,b<w.heap.size->(dh (s.runT P w g).1).heap[b]?≠w.heap[b]?->qz (s.runT P w g).2 b:=by
 induction s with
 |pure a=>exactλ_ w g b i h=>absurd rfl h
 |halt y=>exactλ_ w g b i h=>absurd rfl h
 |load m a k f=>
  intro d w g b i h;simp only[Sy]at h ⊢;split at h;exact f _ (d _) _ _ b i h;split at h;exact f _ (d _) _ _ b i h;exact absurd rfl h
 |store m a v k f=>
  intro d w g b i h;have z:∀v:SH,(∀p,v≠U3 p)->(∀p,v≠Ti p)->(dh ((Th m a v k).runT P w g).1).heap[b]?≠w.heap[b]?->qz ((Th m a v k).runT P w g).2 b:=λv D H h=>by
   have e:(Th m a v k).runT P w g=(match w.cell? a with
    |some _=>if w.frozen? a then(SJ (SS (Tz "a write to bytes that a string shares")) w,g)else k.runT P (w.setCell a v) (g.push ⟨TE a,true,m==SU⟩)
    |none=>match w.farStore P a v (m==SU)with| .ok (w,j)=>k.runT P w (g++j.toArray.map (⟨.cell ·,true,m== .atomic⟩))|TR h=>(SJ h w,g)):=by
    cases v<;>first |rfl|exact absurd rfl (D _)|exact absurd rfl (H _)
   rw[e]at h ⊢;split at h;split at h;exact absurd rfl h;rename_i E;rw[if_neg E];by_cases t:a.block=b;exact⟨⟨TE a,true,m==SU⟩,yr P k _ _ (T4.2 (.inr rfl)),rfl,a,rfl,t⟩;refine f d _ _ b (by simpa[SZ]using i) ?_;have G:(w.setCell a v).heap[b]?=w.heap[b]?:=by
    simp[SZ,SV,t]
   rw[G];omega;split at h<;>first |(rename_i K l A;by_cases C:K.heap[b]?=w.heap[b]? <;>first |(refine f d _ _ b (by rw[mC A];omega) ?_;rw[C];omega)|(have⟨x,F,u⟩:=sU A b C;exact⟨⟨TE x,true,m==SU⟩,yr P k _ _ (U6.2 (.inr (UU.2 ⟨x,by simpa using F,rfl⟩))),rfl,x,rfl,u⟩))|exact absurd rfl h
  cases v;case agg p=>exact absurd rfl h
  case tuple p=>exact absurd rfl h
  all_goals exact z _ (λ_ h=>by cases h) (λ_ h=>by cases h) h
 |new o k f=>
  intro d w g b i h;refine f _ (d.2 _) _ g b (by grind) ?_;have e:(w.heap.push o)[b]?=w.heap[b]?:=by
   rw[SP,if_neg (by omega)]
  show(dh ((k w.heap.size).runT P {w with heap:=w.heap.push o} g).1).heap[b]?≠(w.heap.push o)[b]?;rw[e];exact h
 |shape r k f=>exactλd w g b i h=>f _ (d _) _ _ b i h
 |freeze a n k f=>exactλd=>d.elim
 |frozen a k f=>exactλd w g b i h=>f _ (d _) _ _ b i h
 |getObj r k f=>
  intro d w g b i h;simp only[Sy]at h ⊢;split at h<;>first |exact absurd rfl h|exact f _ (d _) _ _ b i h
 |setObj r o k f=>exactλd=>d.elim
 |choose q k f=>
  intro d w g b i h;simp only[Sy]at h ⊢;by_cases B:q.forced=true<;>first |(rw[if_pos B]at h ⊢;exact f _ (d _) _ _ b i h)|(rw[if_neg B]at h ⊢;exact f _ (d _) {w with drawn:=w.drawn+1} _ b i h)
 |sys c k f=>
  intro d w g b i h;have e:(w.sys c).2.heap=w.heap:=by
   unfold UX;have⟨L,_,_,M,_⟩:=nJ (Uj c w.os) w<;>grind
  refine f _ (d _) (w.sys c).2 _ b (by rw[e];omega) ?_;rw[e];exact h
 |program k f=>exactλd w g b i h=>f _ d _ _ b i h
 |mark m k f=>exactλd w g b i h=>f d.2 _ _ b i h
def aJ(w:Sz)(b:Nat):Prop:=∃c t f,w.heap[b]?=some (SY c t f)
def mR(w:Sz)(b:Nat):Prop:=∃c t,w.heap[b]?=some (SY c t (0,c.size))
def rv{w a v}(h:w.cell? a=some v):aJ w a.block/\∃c t f,w.heap[a.block]?=some (SY c t f)/\a.off<c.size:=by
 unfold World.cell? at h;cases b:w.heap[a.block]? with
 |none=>rw[b]at h;cases h
 |some o=>
  rw[b]at h;cases o;case cells c e d=>
   dsimp only at h;split at h<;>first |cases h|exact⟨⟨c,e,d,b⟩,c,e,d,rfl,(SR.1 h).1⟩
  all_goals cases h
def po{P w A a v b l}(h:w.farStore P a v b= .ok (A,l)):(∀r,aJ w r->aJ A r)/\(∀r,mR w r->A.heap[r]?=w.heap[r]?)/\∀x∈l,aJ A x.block/\¬ mR w x.block/\aJ w x.block:=by
 unfold Tx at h;split at h;rename_i g u Q;split at h;rename_i y f;simp only[Except.ok.injEq]at h;subst h;unfold U9 at f;cases m:w.seen P g u a b with
 |error e=>
  rw[m]at f;simp only[bind,Ta,pure,TN,throw,throwThe,T7]at f;split at f<;>cases f
 |ok z=>
  have⟨c,e,t,D,G,k⟩:=z;rw[m]at f;have j:w.heap[g.block]?=some (SY c e t):=by
   unfold Vd at m;simp only[bind,Ta,pure,TN,throw,throwThe,T7]at m;repeat' split at m
   all_goals first
    |(cases m;done)
    |(
     simp only[Except.ok.injEq,Prod.mk.injEq]at m;have⟨rfl,rfl,rfl,_⟩:=m;assumption)
  have p:=(SR.1 j).1;simp only[bind,Ta,pure,TN,throw,throwThe,T7]at f;split at f;cases f;split at f;split at f;cases f;split at f;cases f;rename_i B n;simp only[Except.ok.injEq,Prod.mk.injEq]at f;have⟨rfl,rfl⟩:=f;have q:mR w g.block->k=[]:=by
   rintro⟨T,W,E⟩;rw[j]at E;simp only[Option.some.injEq,Obj.cells.injEq]at E;obtain⟨rfl,rfl,rfl⟩:=E;cases k with
   |nil=>rfl
   |cons x S=>
    exfalso;have⟨i,s,R⟩:=x;rw[List.foldlM_cons]at n;simp only[bind,Ta,pure,TN,throw,throwThe,T7]at n;split at n<;>first |cases n|(rename_i d;split at d<;>first |cases d|split at d<;>first |cases d|split at d<;>first |grind|cases d)
  refine⟨λr F=> ?_,λr F=> ?_,λx M=> ?_⟩;by_cases C:g.block=r<;>first |(subst C;exact⟨B,e,t,by simp[p]⟩)|(have⟨I,H,K,X⟩:=F;exact⟨I,H,K,by grind⟩)
  by_cases C:g.block=r;subst C;have:=q F;subst this;have e:B=c:=by
   have N:(Except.ok c:Except String (Array SH))= .ok B:=n;grind
  grind
  grind
  obtain⟨y,f,rfl⟩:=V1.1 M;refine⟨⟨B,e,t,by simp[p]⟩,λL=> ?_,⟨c,e,t,j⟩⟩;rw[q L]at f;cases f;cases f
 cases h;cases h
def Ib{P w a v b l}(h:w.farLoad P a b= .ok (v,l)):∀x∈l,aJ w x.block:=by
 unfold UO at h;split at h;rename_i g u q;split at h;rename_i y d;simp[Except.ok.injEq]at h;subst h;unfold World.viewLoad at d;cases f:w.seen P g u a b with
 |error e=>
  rw[f]at d;cases d
 |ok z=>
  have⟨c,e,n,k,m,j⟩:=z;rw[f]at d;have i:w.heap[g.block]?=some (SY c e n):=by
   simp[Vd,bind,Ta]at f;repeat' split at f
   all_goals first
    |(cases f;done)
    |(
     obtain⟨rfl,rfl,rfl,_⟩:=f;assumption)
  simp[bind,Ta]at d;split at d<;>first |(obtain⟨_,rfl⟩:=d;intro x p;obtain⟨y,_,rfl⟩:=V1.1 p;exact⟨c,e,n,i⟩)|cases d
 cases h;cases h
def kz(w b:Sz)(e:T0):Prop:=match e.loc with|TE a=>aJ b a.block/\(e.write=true->¬ mR w a.block)|Ur _=>e.write=false|TP m=>Meek m/\e.write=false/\e.sync=true|_=>True
def kz.back{w f d e}(h:kz w d e)(j:∀b,mR f b->mR w b):kz f d e:=by
 have⟨c,l,k⟩:=e;cases c;case cell a=>exact⟨h.1,λi g=>h.2 i (j _ g)⟩
 all_goals exact h
def Kd{w a v b}(h:mR w b):mR (w.setCell a v) b:=by
 have⟨c,t,e⟩:=h;unfold SZ;by_cases d:a.block=b;refine⟨if a.spot.isSome then c else c.setIfInBounds a.off v,t,?_⟩;grind
 exact⟨c,t,by simp[SV,d,e]⟩
def yT{w a v b}(h:aJ w b):aJ (w.setCell a v) b:=by
 have⟨c,t,f,e⟩:=h;unfold SZ;by_cases d:a.block=b;subst d;exact⟨if a.spot.isSome then c else c.setIfInBounds a.off v,t,f,by simp[SV,e]⟩;exact⟨c,t,f,by simp[SV,d,e]⟩
def uG(w:Sz)(c):(w.sys c).2.heap=w.heap:=by
 unfold UX;have⟨b,_,_,a,_⟩:=nJ (Uj c w.os) w<;>grind
def ni{x}(P)(s:Sem x):bE P s->∀w i b,aJ w b->aJ (dh (s.runT P w i).1) b:=by
 induction s with
 |pure a=>exactλ_ w i b h=>h
 |halt y=>exactλ_ w i b h=>h
 |load m a k g=>
  intro d w i b h;simp only[Sy];split;exact g _ (d _) _ _ b h;split;exact g _ (d _) _ _ b h;exact h
 |store m a v k g=>
  intro d w i b h;have p:∀v:SH,(∀l,v≠U3 l)->(∀l,v≠Ti l)->aJ (dh ((Th m a v k).runT P w i).1) b:=λv u A=>by
   have e:(Th m a v k).runT P w i=(match w.cell? a with
    |some _=>if w.frozen? a then(SJ (SS (Tz "a write to bytes that a string shares")) w,i)else k.runT P (w.setCell a v) (i.push ⟨TE a,true,m==SU⟩)
    |none=>match w.farStore P a v (m==SU)with| .ok (w,j)=>k.runT P w (i++j.toArray.map (⟨.cell ·,true,m== .atomic⟩))|TR h=>(SJ h w,i)):=by
    cases v<;>first |rfl|exact absurd rfl (u _)|exact absurd rfl (A _)
   rw[e];split;split <;>first |exact h|exact g d _ _ b (yT h)
   split <;>first |(rename_i z;exact g d _ _ b ((po z).1 b h))|exact h
  cases v;case agg l=>exact h
  case tuple l=>exact h
  all_goals exact p _ (λ_ h=>by cases h) λ_ h=>by cases h
 |new o k g=>
  intro d w i b h;refine g _ (d.2 _) _ i b ?_;have⟨c,t,f,B⟩:=h;exact⟨c,t,f,by grind⟩
 |shape r k g=>exactλd w i b h=>g _ (d _) _ _ b h
 |freeze a n k g=>exactλd=>d.elim
 |frozen a k g=>exactλd w i b h=>g _ (d _) _ _ b h
 |getObj r k g=>
  intro d w i b h;simp only[Sy];split <;>first |exact h|exact g _ (d _) _ _ b h
 |setObj r o k g=>exactλd=>d.elim
 |choose q k g=>
  intro d w i b h;simp only[Sy];split;exact g _ (d _) _ _ b h;exact g _ (d _) {w with drawn:=w.drawn+1} _ b h
 |sys c k g=>
  intro d w i b h;refine g _ (d _) (w.sys c).2 _ b ?_;simp_all[uG,aJ]
 |program k g=>exactλd w i b h=>g _ d _ _ b h
 |mark m k g=>exactλd w i b h=>g d.2 _ _ b h
def vU{N}(P)(s:Sem N):bE P s->∀w j e,e∈(s.runT P w j).2->e∈j\/kz w (dh (s.runT P w j).1) e:=by
 induction s with
 |pure a=>exactλ_ w j e h=>.inl h
 |halt y=>exactλ_ w j e h=>.inl h
 |load m a k i=>
  intro g w j e h;simp only[Sy]at h ⊢;cases u:w.cell? a with
  |some v=>
   rw[u]at h;dsimp only at h ⊢;rcases i _ (g _) _ _ e h with d|d
   rcases T4.1 d with d|rfl<;>first |exact .inl d|exact .inr ⟨ni P _ (g _) _ _ _ (rv u).1,λD=>by cases D⟩
   grind
  |none=>
   rw[u]at h;dsimp only at h ⊢;cases z:w.farLoad P a (m==SU)with
   |ok r=>
    have⟨v,l⟩:=r;rw[z]at h;dsimp only at h ⊢;rcases i _ (g _) _ _ e h with d|d
    rcases U6.1 d with d|d<;>first |exact .inl d|(obtain⟨x,C,rfl⟩:=UU.1 d;exact .inr ⟨ni P _ (g _) _ _ _ (Ib z x (by simpa using C)),λD=>by cases D⟩)
    grind
   |error M=>rw[z]at h;grind
 |store m a v k i=>
  intro g w j e h;have F:∀v:SH,(∀A,v≠U3 A)->(∀A,v≠Ti A)->e∈((Th m a v k).runT P w j).2->e∈j\/kz w (dh ((Th m a v k).runT P w j).1) e:=λv d G h=>by
   have S:(Th m a v k).runT P w j=(match w.cell? a with
    |some _=>if w.frozen? a then(SJ (SS (Tz "a write to bytes that a string shares")) w,j)else k.runT P (w.setCell a v) (j.push ⟨TE a,true,m==SU⟩)
    |none=>match w.farStore P a v (m==SU)with| .ok (w,p)=>k.runT P w (j++p.toArray.map (⟨.cell ·,true,m== .atomic⟩))|TR h=>(SJ h w,j)):=by
    cases v<;>first |rfl|exact absurd rfl (d _)|exact absurd rfl (G _)
   rw[S]at h ⊢;cases u:w.cell? a with
   |some v0=>
    rw[u]at h;dsimp only at h ⊢;by_cases E:w.frozen? a=true;rw[if_pos E]at h;grind
    rw[if_neg E]at h ⊢;rcases i g _ _ e h with d|d
    rcases T4.1 d with d|rfl<;>first |exact .inl d|(refine .inr ⟨ni P k g _ _ _ (yT (rv u).1),λ_ R=>E ?_⟩;have⟨_,c,t,f,G,h3⟩:=rv u;have⟨Z,t',L⟩:=R;rw[G]at L;simp_all[Option.some.injEq,Obj.cells.injEq,UN])
    exact .inr (d.back λb=>Kd)
   |none=>
    rw[u]at h;dsimp only at h ⊢;cases z:w.farStore P a v (m==SU)with
    |ok r=>
     have⟨X,l⟩:=r;rw[z]at h;dsimp only at h ⊢;have⟨W,K,Q⟩:=po z;rcases i g _ _ e h with d|d
     rcases U6.1 d with d|d<;>first |exact .inl d|(obtain⟨x,C,rfl⟩:=UU.1 d;have:=Q x (by simpa using C);exact .inr ⟨ni P k g _ _ _ this.1,λ_=>this.2.1⟩)
     exact .inr (d.back λb ⟨c,t,B⟩=>⟨c,t,by rw[K b ⟨c,t,B⟩];omega⟩)
    |error M=>rw[z]at h;grind
  cases v;case agg A=>exact .inl h
  case tuple A=>exact .inl h
  all_goals exact F _ (λ_ h=>by cases h) (λ_ h=>by cases h) h
 |new o k i=>
  intro g w j e h;refine(i _ (g.2 _) _ j e h).imp id λd=>d.back λb ⟨c,t,B⟩=>⟨c,t,?_⟩
  have T:=(SR.1 B).1;grind
 |shape r k i=>exactλg w j e h=>i _ (g _) _ _ e h
 |freeze a n k i=>exactλg=>g.elim
 |frozen a k i=>exactλg w j e h=>i _ (g _) _ _ e h
 |getObj r k i=>
  intro g w j e h;simp only[Sy]at h ⊢;cases I:w.heap[r]? with
  |none=>rw[I]at h;grind
  |some o=>
   rw[I]at h;cases o;case cells c t f=>exact .inl h
   all_goals
    dsimp only at h ⊢;rcases i _ (g _) _ _ e h with d|d
    rcases T4.1 d with d|rfl<;>first |exact .inl d|exact .inr rfl
    exact .inr d
 |setObj r o k i=>exactλg=>g.elim
 |choose q k i=>
  intro g w j e h;simp only[Sy]at h ⊢;by_cases H:q.forced=true<;>first |(rw[if_pos H]at h ⊢;exact i _ (g _) _ _ e h)|(rw[if_neg H]at h ⊢;exact i _ (g _) {w with drawn:=w.drawn+1} _ e h)
 |sys c k i=>
  intro g w j e h;rcases i _ (g _) (w.sys c).2 _ e h with d|d
  rcases T4.1 d with d|rfl<;>first |exact .inl d|exact .inr trivial
  exact .inr (d.back λb B=>by unfold mR;rw[uG];exact B)
 |program k i=>exactλg w j e h=>i _ g _ _ e h
 |mark m k i=>
  intro g w j e h;rcases i g.2 _ _ e h with d|d
  rcases T4.1 d with d|rfl<;>first |exact .inl d|exact .inr ⟨g.1,rfl,rfl⟩
  exact .inr d
def gV(w:Sz)(i:Nat)(o:Obj):Prop:=(w.heap.size<=i/\jv o)\/(aJ w i/\∃c t f,o=SY c t f)\/w.heap[i]?=some o
def Ff{w i o x}(d:jv x)(h:gV {w with heap:=w.heap.push x} i o):gV w i o:=by
 rcases h with⟨a,b⟩|⟨⟨c,t,f,a⟩,b⟩|h
 exact .inl ⟨by grind,b⟩;rw[SP]at a;split at a<;>first |(obtain⟨c,t,f,rfl⟩:=b;exact .inl ⟨by omega,trivial⟩)|exact .inr (.inl ⟨⟨c,t,f,a⟩,b⟩)
 rw[SP]at h;split at h;cases h;exact .inl ⟨by omega,d⟩;exact .inr (.inr h)
def Fe{w a v i o}(h:gV (w.setCell a v) i o):gV w i o:=by
 have j:aJ (w.setCell a v) i->aJ w i:=λ⟨c,t,f,h⟩=>by
  simp[SZ,SV]at h;split at h;cases b:w.heap[i]? with
  |none=>rw[b]at h;cases h
  |some x=>
   rw[b]at h;cases x;case cells c e f=>exact⟨c,e,f,b⟩
   all_goals(simp at h)
  exact⟨c,t,f,h⟩
 rcases h with⟨d,g⟩|⟨d,g⟩|h
 exact .inl ⟨by simpa using d,g⟩;exact .inr (.inl ⟨j d,g⟩);simp[SZ,SV]at h;split at h;cases b:w.heap[i]? with
 |none=>rw[b]at h;cases h
 |some x=>
  rw[b]at h;cases x;case cells c e f=>simp[AS]at h;subst h;exact .inr (.inl ⟨⟨c,e,f,b⟩,_,_,_,rfl⟩)
  all_goals
   simp[AS]at h;subst h;exact .inr (.inr b)
 exact .inr (.inr h)
def Fg{P w j a v b l}(e:w.farStore P a v b= .ok (j,l)){i o}(h:gV j i o):gV w i o:=by
 rcases h with⟨p,g⟩|⟨p,g⟩|h
 exact .inl ⟨by rw[<- mC e];omega,g⟩;by_cases d:j.heap[i]?=w.heap[i]? <;>first |(have⟨c,t,f,q⟩:=p;exact .inr (.inl ⟨⟨c,t,f,d▸q⟩,g⟩))|(obtain⟨x,n,rfl⟩:=sU e i d;exact .inr (.inl ⟨((po e).2.2 x n).2.2,g⟩))
 by_cases d:j.heap[i]?=w.heap[i]? <;>first |exact .inr (.inr (d▸h))|(obtain⟨x,n,rfl⟩:=sU e i d;have⟨⟨c,t,f,m⟩,_,k⟩:=(po e).2.2 x n;rw[m]at h;cases h;exact .inr (.inl ⟨k,_,_,_,rfl⟩))
def vV{u}(P)(s:Sem u):bE P s->∀w f i o,(dh (s.runT P w f).1).heap[i]?=some o->gV w i o:=by
 induction s with
 |pure a=>exactλ_ w f i o h=>.inr (.inr h)
 |halt y=>exactλ_ w f i o h=>.inr (.inr h)
 |load m a k d=>
  intro b w f i o h;simp only[Sy]at h;split at h;exact d _ (b _) _ _ i o h;split at h;exact d _ (b _) _ _ i o h;exact .inr (.inr h)
 |store m a v k d=>
  intro b w f i o h;have l:∀v:SH,(∀j,v≠U3 j)->(∀j,v≠Ti j)->(dh ((Th m a v k).runT P w f).1).heap[i]?=some o->gV w i o:=λv p z h=>by
   have e:(Th m a v k).runT P w f=(match w.cell? a with
    |some _=>if w.frozen? a then(SJ (SS (Tz "a write to bytes that a string shares")) w,f)else k.runT P (w.setCell a v) (f.push ⟨TE a,true,m==SU⟩)
    |none=>match w.farStore P a v (m==SU)with| .ok (w,g)=>k.runT P w (f++g.toArray.map (⟨.cell ·,true,m== .atomic⟩))|TR h=>(SJ h w,f)):=by
    cases v<;>first |rfl|exact absurd rfl (p _)|exact absurd rfl (z _)
   rw[e]at h;split at h;split at h<;>first |exact .inr (.inr h)|exact Fe (d b _ _ i o h)
   split at h<;>first |(rename_i t;exact Fg t (d b _ _ i o h))|exact .inr (.inr h)
  cases v;case agg j=>exact .inr (.inr h)
  case tuple j=>exact .inr (.inr h)
  all_goals exact l _ (λ_ h=>by cases h) (λ_ h=>by cases h) h
 |new x k d=>exactλb w f i o h=>Ff b.1 (d _ (b.2 _) _ f i o h)
 |shape r k d=>exactλb w f i o h=>d _ (b _) _ _ i o h
 |freeze a n k d=>exactλb=>b.elim
 |frozen a k d=>exactλb w f i o h=>d _ (b _) _ _ i o h
 |getObj r k d=>
  intro b w f i o h;simp only[Sy]at h;split at h<;>first |exact .inr (.inr h)|exact d _ (b _) _ _ i o h
 |setObj r o k d=>exactλb=>b.elim
 |choose q k d=>
  intro b w f i o h;simp only[Sy]at h;split at h;exact d _ (b _) _ _ i o h;exact d _ (b _) {w with drawn:=w.drawn+1} _ i o h
 |sys c k d=>
  intro b w f i o h;have:=d _ (b _) (w.sys c).2 _ i o h;simp_all[uG,gV,aJ,this]
 |program k d=>exactλb w f i o h=>d _ b _ _ i o h
 |mark m k d=>exactλb w f i o h=>d b.2 _ _ i o h
def sG{L}(P)(s:Sem L):bE P s->∀w p h l d,s.runT P w p=(SJ h l,d)->qA h\/∃g,h=SS (Tv g)/\∃c t,l.heap[g]?=some (Ui c t):=by
 have F:∀(w:Sz)(a:Addr)(b:Bool)(h:Halt),w.farLoad P a b=TR h->qA h\/∃g,h=SS (Tv g)/\∃c t,w.heap[g]?=some (Ui c t):=λw a b h e=>by
  unfold UO Uy at e;repeat' split at e
  all_goals first
   |(cases e;done)
   |(
    simp only[Except.error.injEq]at e;subst e;first |exact .inl (.inr (.inr trivial))|exact .inr ⟨_,rfl,_,_,by assumption⟩)
 have C:∀(w:Sz)(a:Addr)(v:SH)(b:Bool)(h:Halt),w.farStore P a v b=TR h->qA h\/∃g,h=SS (Tv g)/\∃c t,w.heap[g]?=some (Ui c t):=λw a v b h e=>by
  unfold Tx Uy at e;repeat' split at e
  all_goals first
   |(cases e;done)
   |(
    simp only[Except.error.injEq]at e;subst e;first |exact .inl (.inr (.inr trivial))|exact .inr ⟨_,rfl,_,_,by assumption⟩)
 induction s with
 |pure a=>simp
 |halt y=>
  intro i w p h l d e;cases e;exact .inl i
 |load m a k j=>
  intro i w p h l d e;simp only[Sy]at e;cases B:w.cell? a with
  |some v=>rw[B]at e;exact j _ (i _) _ _ _ _ _ e
  |none=>
   rw[B]at e;dsimp only at e;cases A:w.farLoad P a (m==SU)with
   |ok r=>rw[A]at e;exact j _ (i _) _ _ _ _ _ e
   |error y=>rw[A]at e;grind
 |store m a v k j=>
  intro i w p h l d e;have D:∀v:SH,(∀z,v≠U3 z)->(∀z,v≠Ti z)->(Th m a v k).runT P w p=(SJ h l,d)->qA h\/∃g,h=SS (Tv g)/\∃c t,l.heap[g]?=some (Ui c t):=λv H I e=>by
   have K:(Th m a v k).runT P w p=(match w.cell? a with
    |some _=>if w.frozen? a then(SJ (SS (Tz "a write to bytes that a string shares")) w,p)else k.runT P (w.setCell a v) (p.push ⟨TE a,true,m==SU⟩)
    |none=>match w.farStore P a v (m==SU)with| .ok (w,u)=>k.runT P w (p++u.toArray.map (⟨.cell ·,true,m== .atomic⟩))|TR h=>(SJ h w,p)):=by
    cases v<;>first |rfl|exact absurd rfl (H _)|exact absurd rfl (I _)
   rw[K]at e;cases B:w.cell? a with
   |some M=>
    rw[B]at e;dsimp only at e;split at e<;>first |(cases e;exact .inl (.inr (.inr trivial)))|exact j i _ _ _ _ _ e
   |none=>
    rw[B]at e;dsimp only at e;cases A:w.farStore P a v (m==SU)with
    |ok r=>rw[A]at e;exact j i _ _ _ _ _ e
    |error y=>rw[A]at e;grind
  cases v;case agg z=>simp only[Sy]at e;cases e;exact .inl (.inr (.inr trivial))
  case tuple z=>simp only[Sy]at e;cases e;exact .inl (.inr (.inr trivial))
  all_goals exact D _ (λ_ h=>by cases h) (λ_ h=>by cases h) e
 |new x k j=>exactλi w p h l d e=>j _ (i.2 _) _ p h l d e
 |shape r k j=>exactλi w p h l d e=>j _ (i _) _ _ h l d e
 |freeze a n k j=>exactλi=>i.elim
 |frozen a k j=>exactλi w p h l d e=>j _ (i _) _ _ h l d e
 |getObj r k j=>
  intro i w p h l d e;simp only[Sy]at e;cases E:w.heap[r]? with
  |none=>rw[E]at e;cases e;exact .inl (.inr (.inr trivial))
  |some o=>
   rw[E]at e;cases o;case cells c t f=>cases e;exact .inl (.inr (.inr trivial))
   all_goals exact j _ (i _) _ _ _ _ _ e
 |setObj r o k j=>exactλi=>i.elim
 |choose q k j=>
  intro i w p h l d e;simp only[Sy]at e;by_cases G:q.forced=true;rw[if_pos G]at e;exact j _ (i _) _ _ _ _ _ e;rw[if_neg G]at e;exact j _ (i _) {w with drawn:=w.drawn+1} _ _ _ _ e
 |sys c k j=>exactλi w p h l d e=>j _ (i _) (w.sys c).2 _ h l d e
 |program k j=>exactλi w p h l d e=>j _ i _ _ h l d e
 |mark m k j=>exactλi w p h l d e=>j i.2 _ _ h l d e
def DM{k P}{s:Sem k}(f:bE P s){w}(n:∀(i:Nat) c t,w.heap[i]?≠some (Obj.pending c t)){d b g j}(h:s.runT P w d=(SJ (SS (Tv g)) j,b)):False:=by
 rcases sG P s f w d _ _ _ h with(⟨v,e⟩|e|e)|⟨m,e,c,t,l⟩
 cases e;cases e;exact e;cases e;rcases vV P s f w d g (Ui c t) (by rw[h];exact l)with⟨_,a⟩|⟨_,_,_,_,a⟩|a
 exact a;cases a;grind
section
structure G3(Q:AI)(U:Nat->Option Code):Prop where
 nf:∀(f:Nat)(fn:Func),Q.funcs[f]?=some fn->U f=none->fn.body.isNone=true->∀e,TZ fn=some e->∀P args,Nf P (e args)
section
variable{Q P:AI}{U:Nat->Option Code}
theorem ww(A:lf Q U)(N:G3 Q U)(f args):Nf (alt Q U) (SM f args):=by
 refine⟨?_⟩;show bE (alt Q U) (match(alt Q U).funcs[f]? with|none=>_|some a=>_)
 rw[ft];cases d:Q.funcs[f]? with
 |none=>exact .inr (.inr trivial)
 |some a=>
  simp only[AS,j5,A.num f a d];cases b:U f with
  |some c=>
   have e:(ax U f a).body.isNone=false:=by simp[ax,b]
   rw[e];exact trivial
  |none=>
   have e:ax U f a=a:=by simp[ax,b]
   rw[e];cases g:a.body.isNone with
   |false=>exact trivial
   |true=>
    have⟨i,j,h,k⟩:=A.lib f a d b g;rw[i,h];exact(@dl _ _ _ _ _ (Ba _ f) λ_=> @dl _ _ _ _ _ (N.nf f a d b g j h _ args) λ_=>fQ).nf
theorem uq(A:lf Q U)(N:G3 Q U)(f:V2)(c:U f=none)(args):Nf Q (SM f args):=by
 refine⟨?_⟩;show bE Q (match Q.funcs[f]? with|none=>_|some a=>_)
 cases b:Q.funcs[f]? with
 |none=>exact .inr (.inr trivial)
 |some a=>
  simp only[A.num f a b];cases e:a.body.isNone with
  |false=>exact trivial
  |true=>
   have⟨g,h,d,i⟩:=A.lib f a b c e;rw[g,d];exact(@dl _ _ _ _ _ (Ba _ f) λ_=> @dl _ _ _ _ _ (N.nf f a b c e h d _ args) λ_=>fQ).nf
theorem B8{a}(t){f:TypeDesc->Sem a}(h:∀d,P.underlying t=some d->Nf P (f d)):Nf P (underlying t>>=f):=by
 refine⟨?_⟩;show bE P (U1 (match P.underlying t with
  |some d=>pure d
  |none=>stuck "no such type") f)
 cases b:P.underlying t with
 |none=>exact .inr (.inr trivial)
 |some d=>exact(h d b).nf
theorem D1(c:∀t,P.underlying t=Q.underlying t){s d}(hs:ml Q s=true)(f:ml Q d=true)(x):Nf P (convert s d x):=by
 refine B8 s λe h=>B8 d λg b=> ?_
 obtain⟨k,rfl⟩:=pg hs e (c s▸h);obtain⟨i,rfl⟩:=pg f g (c d▸b);cases x;case pointer a=>cases a<;>(exact zq2)
 all_goals(exact zq2)
theorem He(m:∀t,P.underlying t=Q.underlying t){q r f i}(p:∀f,i (Ub f)=Tp (SQ f) #[] #[]){o}(e:iu Q q r f o=true)
 (n:∀(g:Nat) c,o.op= .call c->c.callee= .value (Ub g)->∀args,Nf P (SM g args)):Nf P (SE i o):=by
 unfold iu at e;rw[SD]at e;have e:=e.1;cases a:o.op;case call c=>
  rw[a]at e;dsimp only at e;rw[SD]at e;have⟨h,k⟩:=e;unfold SE;rw[a];dsimp only;unfold resolve;unfold lp nG at h;cases j:c.callee;case value x=>
   rw[j]at h k;cases x;case func g=>
    dsimp only at k ⊢;rw[p];exact n g c a j _
   all_goals cases h
  case builtin b=>
   rw[j]at h;cases b;case len=>exact show Nf P (do pure (Tc (<- UH c.argTypes o.type (c.args.map i))):Sem Next)from @dl _ _ _ _ _ zq2 λ_=>fQ
   case recover=>exact show Nf P (pure Next.recover:Sem Next)from fQ
   case append=>exact show Nf P (do pure (Tc (<- Ug c.argTypes o.type (c.args.map i))):Sem Next)from @dl _ _ _ _ _ zq2 λ_=>fQ
   case min=>exact show Nf P (do pure (Tc (<- UG c.argTypes o.type (c.args.map i))):Sem Next)from @dl _ _ _ _ _ zq2 λ_=>fQ
   all_goals cases h
  all_goals(rw[j]at h;cases h)
 case defer c=>
  unfold SE;rw[a];dsimp only;refine @dl _ _ _ _ _ ?_ λ_=>fQ
  unfold resolve;cases c.callee;case value x=>unfold Deferred.ofValue;dsimp only;split <;>exact zq2
  all_goals exact zq2
 case send l x=>
  unfold SE;rw[a];exact fQ
 case recv t l u=>
  unfold SE;rw[a];dsimp only;refine @dl _ _ _ _ _ zq2 λd=> ?_
  cases d<;>exact zq2
 all_goals
  rw[a]at e;dsimp only at e;unfold ng at e;rw[a]at e;try dsimp only at e
 all_goals try(exact absurd e SN)
 all_goals
  unfold SE;rw[a];dsimp only
 case convert s d x=>
  rw[SD]at e;exact @dl _ _ _ _ _ (D1 m e.1 e.2 _) λ_=>fQ
 all_goals repeat' (first
  |exact zq2
  |(refine @dl _ _ _ _ _ ?_ λ_=> ?_)
  |(refine @Nx _ _ _ _ _ _ ?_ ?_)
  |split
  |dsimp only)
end
def jn(a:Nat->Nat)(e:PanicEntry):PanicEntry:= {e with v:=ab a e.v}
def oa(b:Nat->Nat):FrameMode->FrameMode
 |Tm a=>Tm (a.map (jn b))
 |m=>m
def aC(O:Nat->Nat)(fr:Sx):Sx:= {fr with tmps:=fr.tmps.map (ab O),defers:=fr.defers.map (lu O),mode:=oa O fr.mode}
section
variable{O:Nat->Nat}
@[simp] theorem DF(a):(aC O a).fn=a.fn:=rfl
@[simp] theorem sJ(a):(aC O a).todo=a.todo:=rfl
@[simp] theorem oS(a):(aC O a).kind=a.kind:=rfl
@[simp] theorem sK(a):(aC O a).roundOf=a.roundOf:=rfl
@[simp] theorem yu(a):(aC O a).tmps=a.tmps.map (ab O):=rfl
@[simp] theorem jG(fr):(aC O fr).defers=fr.defers.map (lu O):=rfl
@[simp] theorem fL(a):(aC O a).mode=oa O a.mode:=rfl
def Kk(a){x}(c:∀v,x=TJ v->ab O v=v)(b:∀g,x= .global g->O g=g):(aC O a).eval x=ab O (a.eval x):=by
 cases x with
 |tmp t=>
  simp[Tw];cases a.tmps[t]? <;>simp
 |const v=>simp_all[Tw]
 |global g=>simp[Tw,bi,b g rfl]
 |func f=>simp[Tw,kO]
def JL(a):(aC O a).oper?=a.oper?:=rfl
def Cc(a tmps j):yielded a (tmps.map (ab O)) j=yielded a tmps j:=by
 unfold yielded;cases a[j]?.bind (·.dst)with
 |none=>rfl
 |some d=>
  simp[Option.bind_some];cases tmps[d]? with
  |none=>rfl
  |some v=>cases v<;>simp
def gq{b}(h:∀d w r s k,b.todo≠.call d w r s::k)(g:∀r a k,b.todo≠.extern r a::k)(v):aC O (b.finish v)=(aC O b).finish (ab O v):=by
 simp[SX];split;rename_i c i e k f;cases c[i]?.bind (·.dst)with
 |none=>rfl
 |some d=>simp[aC]
 rfl;rfl;grind
 grind
 rfl
def j3(a vs):aC O (a.raise vs)=(aC O a).raise (vs.map (jn O)):=by
 grind [oa,aC,TL]
def sI:jn O goexitEntry=goexitEntry:=by simp[jn,goexitEntry]
end
def qt:SH->Bool
 |Tk _|TU _ _|Tu _ _|Tf _ _ _|Tq _|U2|SO=>true
 |Sv none|Tt none _ _| .map none|TF none=>true
 |TK _ (TU _ _)|TK _ (Tq _)|TK _ (Tk _)=>true
 |U3 a=>a.all λv=>match v with
  |Tk _|TU _ _|Tu _ _|Tf _ _ _|Tq _|U2|SO=>true
  |Sv none|Tt none _ _| .map none|TF none=>true
  |_=>false
 |Ti a=>a.isEmpty
 |_=>false
def wh{v}(h:qt v=true)(d):ab d v=v:=by
 cases v;case agg b=>
  rw[fy];congr 1
  simp[qt]at h;apply Array.ext;simp;intro i f e;rw[Array.getElem_map];have:=h i e;generalize b[i]=x at this ⊢;cases x;case pointer a=>cases a<;>first |(simp;done)|cases this
  case slice a n c=>cases a<;>first |(simp;done)|cases this
  case map a=>cases a<;>first |(simp;done)|cases this
  case chan a=>cases a<;>first |(simp;done)|cases this
  all_goals first |(simp;done)|cases this
 case pointer a=>cases a<;>first |(simp;done)|cases h
 case slice a n c=>cases a<;>first |(simp;done)|cases h
 case map a=>cases a<;>first |(simp;done)|cases h
 case chan a=>cases a<;>first |(simp;done)|cases h
 case iface t v=>cases v<;>first |(simp;done)|cases h
 case tuple b=>
  simp_all[qt]
 all_goals first |(simp;done)|cases h
def Nu(Q:AI):U8->Bool
 |TJ v=>qt v
 | .global g=>decide (g<=Q.globals.size)
 |_=>true
def mH(Q:AI)(b:bM)(a:Bool)(f:Nat)(o:Oper):Bool:=iu Q b a f o&&o.op.operands.all (Nu Q)
def codeOk(Q:AI)(g:bM)(e:Bool)(f:Nat):Code->Bool
 |Ux _ h _=>h.all (mH Q g e f ·)
 | .seq a b=>codeOk Q g e f a&&codeOk Q g e f b
 |Uu c a b=>Nu Q c&& (codeOk Q g e f a&&codeOk Q g e f b)
 | .block _ b=>codeOk Q g e f b
 | .loop b=>codeOk Q g e f b
 | .scope b=>codeOk Q g e f b
 | .rangeFunc _ _ _ _=>false
 |_=>true
def gW(Q:AI)(a:bM)(b:Bool)(f:Nat):Item->Prop
 |Uc c=>codeOk Q a b f c=true
 | .inBlock _=>True
 | .inLoop c=>codeOk Q a b f c=true
 | .inScope c=>codeOk Q a b f c=true
 |SI d e=>∀i∈e,∀o,d[i]?=some o->mH Q a b f o=true
 |_=>False
def pX{Q c b f a}(h:a.all (mH Q c b f ·)=true)(d):gW Q c b f (SI a d):=λi _ o e=>by
 grind
def rD(d:bM)(v:SH):Prop:=(∀c a b,v=Tp c a b->∃h,c=SQ h/\d.all (·.1 !=h)=true)/\v≠U2
def lT{c}:rD c undef:=⟨λd a b h=>by simp[undef]at h,by simp[undef]⟩
structure ck(Q:AI)(dt:bM)(cl:Bool)(fr:Sx):Prop where
 round:fr.roundOf=none
 items:∀i∈fr.todo,gW Q dt cl fr.fn i
 regs:∀t,(fr.fn,t)∈dt->rD dt (fr.tmps.getD t undef)
 defs:∀d∈fr.defers,Om dt cl d.target
 kind:fr.kind=Td\/fr.kind=TQ
 init:Q.inits.idxOf? fr.fn=none
section
variable{Q:AI}{dt:bM}{cl:Bool}
def ck.todo{fr}(h:ck Q dt cl fr){t}(a:∀i∈t,gW Q dt cl fr.fn i):ck Q dt cl {fr with todo:=t}:=⟨h.round,a,h.regs,h.defs,h.kind,h.init⟩
def ck.mode{fr}(h:ck Q dt cl fr)(m):ck Q dt cl {fr with mode:=m}:=⟨h.round,h.items,h.regs,h.defs,h.kind,h.init⟩
theorem ck.raise{a}(h:ck Q dt cl a)(vs):ck Q dt cl (a.raise vs):=by
 unfold TL;split <;>exact h.mode _
def ck.dC{b}(h:ck Q dt cl b):(∀d w r s k,b.todo≠.call d w r s::k)/\∀r a k,b.todo≠.extern r a::k:=by
 constructor;intro d w r s k e;exact h.items (.call d w r s) (by simp[e]);intro r a k e;exact h.items (.extern r a) (by simp[e])
def Kc(a:Array SH)(d t v)(h:rD dt (a.getD t undef))(b:d=t->rD dt v):rD dt ((a.setIfInBounds d v).getD t undef):=by
 simp[TD]at h ⊢;grind
theorem ck.finish{c}(h:ck Q dt cl c){v}(B:∀o t,c.oper?=some o->o.dst=some t->(c.fn,t)∈dt->rD dt v):ck Q dt cl (c.finish v):=by
 have A:(c.finish v).kind=c.kind:=by grind [SX]
 have n:(c.finish v).fn=c.fn:=by grind [SX]
 have u:(c.finish v).roundOf=c.roundOf:=by grind [SX]
 have x:(c.finish v).defers=c.defers:=by grind [SX]
 refine⟨u.trans h.round,?_,?_,by rw[x];exact h.defs,by rw[A];exact h.kind,by rw[n];exact h.init⟩;rw[n];intro i m;unfold SX at m;split at m<;>first |(rename_i e j f k b;have q:=h.items (SI e (j::f)) (by simp[b]);rcases U0.1 m with rfl|m<;>first |exactλj y o p=>q j (.tail _ y) o p|exact h.items i (by grind))|(rename_i l k b;exact absurd (h.items (.inRangeFunc l) (by simp[b])) id)|exact h.items i (by grind)|(rename_i d w r s k b;exact absurd b (h.dC.1 d w r s k))|(exact absurd b (h.dC.2 r a k))|exact h.items i m
 intro t g;rw[n]at g;unfold SX;split;rename_i e j f k b;have p:c.oper?=e[j]?:=by simp[Frame.oper?,b]
 cases C:e[j]?.bind (·.dst)with
 |none=>exact h.regs t g
 |some d=>
  refine Kc _ _ _ _ (h.regs t g) λz=> ?_
  grind
 exact h.regs t g;exact h.regs t g;rename_i d w r s k b;exact absurd b (h.dC.1 d w r s k);rename_i r a k b;exact absurd b (h.dC.2 r a k);exact h.regs t g
def q6{f}(c):∀k t,(∀i∈k,gW Q dt cl f i)->exitTo c k=some t->∀i∈t,gW Q dt cl f i
 |[],t,_,h=>by cases h
 |x::k,t,d,h=>by
  have b:=λi g=>d i (.tail _ g)
  cases x;case inBlock e=>
   unfold exitTo at h;split at h<;>first |grind|exact q6 c k t b h
  all_goals exact q6 c k t b h
def lE{f}:∀c l r,codeOk Q dt cl f c=true->findLabel c l=some r->codeOk Q dt cl f r=true
 | .seq a b,l,r,g,h=>by
  simp[codeOk]at g;unfold findLabel at h;split at h<;>first |(rename_i e i;cases h;simp[codeOk];exact⟨lE a l e g.1 i,g.2⟩)|exact lE b l r g.2 h
 | .label j,l,r,g,h=>by
  unfold findLabel at h;split at h;cases h;rfl;cases h
 | .skip,_,_,_,h=>by cases h
 |Ux ..,_,_,_,h=>by cases h
 |Uu ..,_,_,_,h=>by cases h
 | .block ..,_,_,_,h=>by cases h
 | .loop _,_,_,_,h=>by cases h
 | .rangeFunc ..,_,_,_,h=>by cases h
 | .exit _,_,_,_,h=>by cases h
 | .scope _,_,_,_,h=>by cases h
 | .goto _,_,_,_,h=>by cases h
 | .ret,_,_,_,h=>by cases h
 | .refuse _,_,_,_,h=>by cases h
def q5{f}(l):∀k t,(∀i∈k,gW Q dt cl f i)->gotoIn l k=some t->∀i∈t,gW Q dt cl f i
 |[],t,_,h=>by cases h
 |x::k,t,g,h=>by
  have d:=λi e=>g i (.tail _ e)
  cases x;case inScope b=>
   unfold gotoIn at h;split at h;rename_i c j;cases h;intro i e;rcases U0.1 e with rfl|e
   exact lE b l c (g (.inScope b) (.head _)) j;grind
   exact q5 l k t d h
  all_goals exact q5 l k t d h
end
def FQ{a}(x:Ask a)(w:Sz):(w.ask x).2.output=w.output:=let⟨_,_,_,_,_,h,_⟩:=nJ x w;h
def Er(w:Sz)(c):(w.sys c).2.output=w.output:=by
 unfold UX;have a:=FQ (Uj c w.os) w;grind
def Fx{P}{w d:Sz}{a v b l}(h:w.farStore P a v b= .ok (d,l)):d.output=w.output:=by
 unfold Tx at h;split at h;split at h
 .rename_i c;simp[Except.ok.injEq]at h;subst h;simp[U9,bind,Ta]at c;repeat' split at c
  all_goals first
   |(cases c;done)
   |(obtain⟨rfl,_⟩:=c;rfl)
 .cases h
 cases h
def CP{e}(P)(s:Sem e):∀w d,(dh (s.runT P w d).1).output=w.output:=by
 induction s with
 |pure a=>exactλw d=>rfl
 |halt x=>exactλw d=>rfl
 |load m a k b=>
  intro w d;simp only[Sy];split;exact b ..;split;exact b ..;rfl
 |store m a v k b=>
  intro w d;cases v;all_goals simp only[Sy]
  case agg=>rfl
  case tuple=>rfl
  all_goals
   split;split <;>first |rfl|exact(b ..).trans rfl
   split <;>first |(rename_i f;exact(b ..).trans (Fx f))|rfl
 |new o k b=>exactλw d=>(b ..).trans rfl
 |shape r k b=>exactλw d=>b ..
 |freeze a n k b=>exactλw d=>(b ..).trans (by grind [World.freeze])
 |frozen a k b=>exactλw d=>b ..
 |getObj r k b=>
  intro w d;simp only[Sy];split;rfl;exact b ..;rfl
 |setObj r o k b=>
  intro w d;simp only[Sy];split;rfl;exact(b ..).trans rfl;rfl
 |choose q k b=>
  grind [Sy]
 |sys c k b=>exactλw d=>(b ..).trans (Er w c)
 |program k b=>exactλw d=>b ..
 |mark m k b=>exactλw d=>b ..
def GR{j P}{s:Sem j}(i:bE P s){w b}(h:mR w b):(dh (s.runT P w #[]).1).heap[b]?=w.heap[b]?:=by
 refine Uv λf=> ?_
 have d:b<w.heap.size:=by
  have⟨c,t,h⟩:=h<;>grind
 obtain⟨e,k,l,a,m,rfl⟩:=vW P s i w #[] b d f;rcases vU P s i w #[] e k with g|g
 simp at g;simp_all[kz]
def pz(Ro:Nat->Prop)(w:Sz):Prop:=∀i,Ro i->mR w i
structure Oj(O:Nat->Nat)(Ro:Nat->Prop)(w1:Sz)(e:T0):Prop where
 cell:∀a',e.loc=TE a'->∃a,a'=bi O a/\aJ w1 a.block/\(e.write=true->¬ Ro a.block)
 obj:∀r,e.loc=Ur r->e.write=false
 mark:∀m,e.loc=TP m->Meek m/\e.write=false/\e.sync=true
structure gR(O:Nat->Nat)(Ro:Nat->Prop)(D:Known)(w w' w1 w1':Sz)(es':Array T0):Prop where
 rel:eo O Ro D w1 w1'
 size:w1'.heap.size+w.heap.size=w'.heap.size+w1.heap.size
 le:w.heap.size<=w1.heap.size
 ro:pz Ro w1
 frame:∀b,b<w'.heap.size->w1'.heap[b]?≠w'.heap[b]?->∃i,O i=b/\aJ w1 i/\¬ Ro i
 events:∀e∈es',Oj O Ro w1 e
 output:w1'.output=w'.output
 kinds:∀(i:Nat)(o:Obj),w1.heap[i]?=some o->gV w i o
section
variable{O:Nat->Nat}{Ro:Nat->Prop}{D:Known}{Q:AI}{U:Nat->Option Code}
def gR.refl{w w'}(h:eo O Ro D w w')(c:pz Ro w):gR O Ro D w w' w w' #[]:=⟨h,rfl,Sw _,c,λb _ h=>absurd rfl h,λe a=>by simp at a,rfl,λi o h=>.inr (.inr h)⟩
def gR.less{w d c b f a}(h:gR O Ro D w d c b f)(hs:∀e∈a,e∈f):gR O Ro D w d c b a:=⟨h.rel,h.size,h.le,h.ro,h.frame,λe g=>h.events e (hs e g),h.output,h.kinds⟩
def tw{M}{s s':Sem M}(u:bE (alt Q U) s)(B:bE Q s'){w w' w1 w1'}(A:pz Ro w)(q:dh (s.runT (alt Q U) w #[]).1=w1)(p:dh (s'.runT Q w' #[]).1=w1')
 (G:Sub (O:=O) (s.runT (alt Q U) w #[]).2 (s'.runT Q w' #[]).2) (j:eo O Ro D w1 w1') (N:w1'.heap.size+w.heap.size=w'.heap.size+w1.heap.size):gR O Ro D w w' w1 w1' (s'.runT Q w' #[]).2:=by
 have d:∀e∈(s.runT (alt Q U) w #[]).2,kz w w1 e:=λe n=>by
  rcases vU _ s u w #[] e n with h|h<;>grind
 have E:∀y∈(s'.runT Q w' #[]).2,Oj O Ro w1 y:=λy v=>by
  obtain⟨e,n,rfl⟩:=G y v;have k:=d e n;have⟨z,P,R⟩:=e;unfold kz at k;cases z with
  |cell a=>exact⟨λg h=>by simp[ii]at h;exact⟨a,h.symm,k.1,λx K=>k.2 x (A _ K)⟩,λr h=>by simp[ii]at h,λm h=>by simp[ii]at h⟩
  |obj r=>exact⟨λg h=>by simp[ii]at h,λr _=>k,λm h=>by simp[ii]at h⟩
  |mark m=>
   cases m;case extern f=>exact⟨λg h=>by simp[ii]at h,λr h=>by simp[ii]at h,λm h=>by simp_all[ii]⟩
   case noRoom=>exact⟨λg h=>by simp[ii]at h,λr h=>by simp[ii]at h,λm h=>by simp_all[ii]⟩
   all_goals exact absurd k.1 id
  |output=>exact⟨λg h=>by simp[ii]at h,λr h=>by simp[ii]at h,λm h=>by simp[ii]at h⟩
  |goroutines=>exact⟨λg h=>by simp[ii]at h,λr h=>by simp[ii]at h,λm h=>by simp[ii]at h⟩
 refine⟨j,N,?_,λi C=> ?_,λb F l=> ?_,E,?_,by rw[<- q];exact vV _ s u w #[]⟩<;>first |(rw[<- q];exact runT_size _ s w #[])|(have:=GR u (A i C);rw[q]at this;have⟨c,t,h⟩:=A i C;exact⟨c,t,this.trans h⟩)|(rw[<- p]at l;obtain⟨e,n,x,g,L,rfl⟩:=vW Q s' B w' #[] b F l;obtain⟨a,rfl,H,I⟩:=(E e n).cell g L;exact⟨a.block,rfl,H,I x⟩)|(rw[<- p];exact CP Q s' w' #[])
end
def lZ(b:bM)(a:Sx):Prop:=∀o t,a.oper?=some o->o.dst=some t->(a.fn,t)∉b
def ej(d:bM)(b:Sx):List Sx->Prop
 |[]=>b.kind=Td
 |c::e=>(b.kind=Td->lZ d c)/\ej d c e
structure C9(D0:Sx):Prop where
 todo:∃why,D0.todo=[Uc (.refuse why)]
 mode:D0.mode= .run
structure uD(Q:AI)(D0:Sx)(dt:bM)(cl:Bool)(g:T6):Prop where
 frame:ck Q dt cl g.frame
 callers:∀c∈g.callers.dropLast,ck Q dt cl c
 stack:ej dt g.frame g.callers.dropLast
 last:g.callers=g.callers.dropLast++[D0]
structure mQ(O:Nat->Nat)(rest:List Sx)(g g':T6):Prop where
 frame:g'.frame=aC O g.frame
 callers:g'.callers=g.callers.dropLast.map (aC O)++rest
 dying:g.dying=none/\g'.dying=none
 status:g.status=Su/\g'.status=Su
def tP(b:Sx):GStep->Prop
 | .ended _ _ _=>True
 |Te g _ _=>g.status≠Su\/(g.status=Su/\g.dying=none/\g.callers=[]/\(g.frame=b\/∃a,g.frame= {b with mode:=Tm a}))
 |_=>False
def sY(cs:List Sx)(a):(cs++[a]).dropLast=cs:=by simp
def gQ{Q d a b fr cs g f}(e:ck Q a b fr)(h:∀c∈cs,ck Q a b c)(i:ej a fr cs):uD Q d a b {frame:=fr,callers:=cs++[d],status:=g,dying:=f}:=
 ⟨e,by rw[sY];omega,by rw[sY];omega,by rw[sY]⟩
theorem fO{a rest fr cs b}:mQ a rest {frame:=fr,callers:=cs++[b],status:=Su,dying:=none} {frame:=aC a fr,callers:=cs.map (aC a)++rest,status:=Su,dying:=none}:=
 ⟨rfl,by simp,⟨rfl,rfl⟩,⟨rfl,rfl⟩⟩
def stepW:GStep->Sz
 |Te _ w _=>w
 | .comm _ _ _ _ w _=>w
 | .spawn _ _ w _=>w
 | .count _ w _=>w
 | .timer _ _ w _=>w
 | .alone _ _ w _=>w
 | .newcoro _ _ _ w _=>w
 | .coroswitch _ _ _ w _=>w
 | .collect _ w _=>w
 | .watch _ w _=>w
 | .ended _ w _=>w
def fJ(a x):stepW (SG a x)=stepW x:=by cases x<;>rfl
end
section
variable[aD]
section
variable{Q:AI}{U:Nat->Option Code}{O:Nat->Nat}{Ro:Nat->Prop}{D:Known}{dt:bM}{cl:Bool}{D0:Sx}{rest:List Sx}
def qB(cl:Bool)(cs:Array CommCase)(b:Bool)(sh:CommShape):Prop:=b=true/\∃c,cs=#[c]/\((cl=true/\sh= .send/\c.send.isSome=true)\/(cl=false/\∃a,sh= .recv a/\c.send=none))
def eh(Q:AI)(U:Nat->Option Code)(O:Nat->Nat)(Ro:Nat->Prop)(D:Known)(dt:bM)(cl:Bool)(D0:Sx)(rest:List Sx)(w l:Sz)(x h:GStep):Prop:=
 (∃d e f c b a,x=Te d e f/\h=Te c b a/\mQ O rest d c/\uD Q D0 dt cl d/\gR O Ro D w l e b a/\¬ Big x.es)\/
 (∃d j i k e f c b a,x= .comm d j i k e f/\h= .comm c (j.map (jS O)) i k b a/\qB cl j i k/\mQ O rest d c/\uD Q D0 dt cl d/\lZ dt d.frame/\gR O Ro D w l e b a/\¬ Big x.es)\/
 (∃g w f,x=Te g w f/\qc Q U g/\¬ Big x.es)\/(cl=false/\Big x.es/\Big h.es)\/(tP D0 x/\¬ Big x.es)
def cJ{fr a}(cs)(h:a.kind=fr.kind)(hs:ej dt fr cs):ej dt a cs:=by
 cases cs with
 |nil=>exact h.trans hs
 |cons c cs=>exact⟨λb=>hs.1 (h▸b),hs.2⟩
def xp{b cs}(i:ck Q dt cl b)(h:ej dt b cs):tryRecover (aC O b) (cs.map (aC O)++rest)=(tryRecover b cs).map λx=>(ab O x.1,x.2.map (aC O)++rest):=by
 unfold tryRecover;rw[oS];rcases i.kind with d|d
 simp[d];rw[d];cases cs with
 |nil=>
  have:b.kind=Td:=h;rw[d]at this;cases this
 |cons c cs=>
  simp[Tr,TG,fL];cases j:c.mode with
  |panicking a=>
   cases a with
   |nil=>rfl
   |cons e f=>
    have⟨v,r,g⟩:=e;cases r<;>cases g<;>simp[oa,jn,aC]
  |run=>rfl
  |returning=>rfl
def vC{b cs}(i:ck Q dt cl b)(h:ej dt b cs):tryRecover b (cs++[D0])=(tryRecover b cs).map λx=>(x.1,x.2++[D0]):=by
 unfold tryRecover;rcases i.kind with d|d
 simp[d];rw[d];cases cs with
 |nil=>
  have:b.kind=Td:=h;rw[d]at this;cases this
 |cons c cs=>
  simp[TG];cases j:c.mode with
  |panicking a=>
   cases a with
   |nil=>rfl
   |cons e f=>
    have⟨v,r,g⟩:=e;cases r<;>cases g<;>simp
  |run=>rfl
  |returning=>rfl
def zc{b cs}(i:∀c∈cs,ck Q dt cl c){v a}(h:tryRecover b cs=some (v,a))(d:b.kind=Td\/b.kind=TQ)(f:ej dt b cs):
 (∀c∈a,ck Q dt cl c)/\ej dt b a:=by
 unfold tryRecover at h;rcases d with d|d
 rw[d]at h;cases h;rw[d]at h;cases cs with
 |nil=>cases h
 |cons c cs=>
  dsimp only at h;split at h;obtain⟨_,rfl⟩:=h;refine⟨λx g=> ?_,⟨λe=>f.1 e,cJ (fr:=c) cs rfl f.2⟩⟩;rcases U0.1 g with rfl|g
  exact(i c (.head _)).mode _;grind
  cases h
def uw(A:lf Q U){f}(b:U f=none)(args k):aC O (SL (alt Q U) f args k)=SL Q f (args.map (ab O)) k:=by
 simp[SL,ft];cases c:Q.funcs[f]? with
 |none=>simp[aC,oa]
 |some a=>
  have e:ax U f a=a:=by simp[ax,b]
  simp[aC,oa,e]
structure th(Q:AI)(U:Nat->Option Code)(dt:bM)(cl:Bool):Prop where
 code:∀f fn c,Q.funcs[f]?=some fn->U f=none->fn.body=some c->dt.all (·.1 !=f)=true->codeOk Q dt cl f c=true
 init:∀f,U f=none->Q.inits.idxOf? f=none
def BA(G:th Q U dt cl){f}(b:U f=none)(g:dt.all (·.1 !=f)=true)(args){k}(m:k=Td\/k=TQ):ck Q dt cl (SL (alt Q U) f args k):=by
 refine⟨rfl,λi h=> ?_,λt n=> ?_,λd g=>(by cases g),m,G.init f b⟩;simp[SL,ft]at h;have:i=Uc ((((Q.funcs[f]?.map (ax U f)).bind (·.body))).getD (.refuse "unsupported: a function without a Go body is entered")):=by grind
 subst this;cases j:Q.funcs[f]? with
 |none=>rfl
 |some a=>
  have e:ax U f a=a:=by simp[ax,b]
  simp[e];cases l:a.body with
  |none=>rfl
  |some c=>exact G.code f a c j b l g
 grind [SL]
def P9(r:Result Next)(a:Array T0):Array T0:=match r with
 |SJ V9 _|SJ V8 _|SJ (SS (Tv _)) _=> #[]
 |_=>a
def MY(P:AI)(dt:bM)(c:Sx)(s:Sem Next):Prop:=∀o t,c.oper?=some o->o.dst=some t->(c.fn,t)∈dt->YP P (λn=>∃d a b,n=Tc (Tp (SQ d) a b)/\dt.all (·.1 !=d)=true) s
def bh{a y}(h:¬ Big a)(b:¬ Big y.es):¬ Big (SG a y).es:=λh=>h
def Hc{r a}(h:¬ Big a):¬ Big (P9 r a):=λh=>h
def uM{a}(P)(s:Sem a)(w):w.heap.size<=(dh (s.run P w)).heap.size:=by
 rw[<- Sem.runT_fst P s w #[]];exact runT_size P s w #[]
def qx(P b cs m w):w.heap.size<=(stepW (endFatal P b cs none m w)).heap.size/\(endFatal P b cs none m w).es=#[]:=by
 refine⟨?_,Df m⟩;unfold endFatal;dsimp only;split <;>first |(rename_i a h;have:=congrArg (λr=>(dh r).heap.size) h;dsimp only[dh]at this;show w.heap.size<=a.heap.size;rw[<- this];exact uM ..)|(rename_i a c h;have:=congrArg (λr=>(dh r).heap.size) h;dsimp only[dh]at this;show w.heap.size<=a.heap.size;rw[<- this];exact uM ..)
def IC(A:lf Q U)(G:th Q U dt cl){j cs s s' w w'}(q:ck Q dt cl j)(hcs:∀c∈cs,ck Q dt cl c)(F:ej dt j cs)
 (hs:oI Q U O Ro D cl s s') (hy:YP (alt Q U) (NK dt cl) s) (hn:bE (alt Q U) s) (hn':¬ tQ U (s.runT (alt Q U) w #[])->bE Q s') (hfin:MY (alt Q U) dt j s)
 (hw:eo O Ro D w w') (hD:Dom D w) (hR:pz Ro w) (hF:g6 O w w' (stepW (stepG.apply (alt Q U) true j (cs++[D0]) none s w)).heap.size):
 eh Q U O Ro D dt cl D0 rest w w' (stepG.apply (alt Q U) true j (cs++[D0]) none s w) (stepG.apply Q true (aC O j) (cs.map (aC O)++rest) none s' w'):=by
 have hni:∀x E S,s.runT (alt Q U) w #[]=(SJ x E,S)->∀g,x=SS (Tv g)->False:=λx E S h g e=>by
  subst e;exact DM hn (λi c t hi=>hw.blk i _ hi) h
 have hkind:∀k:CallKind,k≠UY->(k==UY)=false:=λk hk=>by cases k<;>first |rfl|exact absurd rfl hk
 have hke:(j.kind==UY)=false:=hkind _ (by rcases q.kind with h|h<;>rw[h]<;>simp);have hWsz:(dh (s.runT (alt Q U) w #[]).1).heap.size<=(stepW (stepG.apply (alt Q U) true j (cs++[D0]) none s w)).heap.size:=by
  unfold stepG.apply;simp only[if_true,hke,SC,if_false,q.round];have hy0:=hy w #[];have hi0:=hni;generalize s.runT (alt Q U) w #[]=x at hy0 hi0 ⊢;have⟨r,S⟩:=x;cases r with
  |ok n E=>
   have:=hy0 n E S rfl;cases n;case value v=>exact Sw _
   case skip=>exact Sw _
   case enter f a=>exact Sw _
   case defer d=>exact Sw _
   case comm c b sh=>exact Sw _
   case recover=>
    dsimp only;cases tryRecover j (cs++[D0])with
    |none=>exact Sw _
    |some x=>exact Sw _
   all_goals exact this.elim
  |halt h E=>
   cases h;case panic v=>exact Sw _
   case goexit=>exact Sw _
   case blocked=>exact Sw _
   case waiting=>exact Sw _
   case exit c=>exact Sw _
   case throw m=>exact Sw _
   case stuck m=>exact Sw _
   case fatal m=>
    rw[fJ];exact(qx ..).1
   case unsupported u=>
    cases u;case initOrder g=>exact(hi0 _ _ _ rfl _ rfl).elim
    all_goals exact Sw _
 by_cases H:tQ U (s.runT (alt Q U) w #[]);have⟨f,I,E,y,p,C⟩:=H;refine .inr (.inr (.inl ?_));unfold stepG.apply;simp only[if_true,hke,SC,if_false,q.round];generalize s.runT (alt Q U) w #[]=x at y C ⊢;have⟨r,S⟩:=x;dsimp only at y C;subst y;dsimp only;split <;>first |(rename_i d r sv k heq;exact absurd heq (q.dC.1 d true r sv k))|exact⟨_,_,_,rfl,⟨f,I,Td,rfl,p,rfl,λd hd=>by cases hd⟩,bh (aN C) av⟩
 have hS:=hs w w' #[] #[] hw hD av tB (jW hF hWsz);have L:=λ(E P:Sz)=>tw (O:=O) (Ro:=Ro) (D:=D) hn (hn' H) (w:=w) (w':=w') (w1:=E) (w1':=P) hR
 have hpl:=sG _ s hn w #[];have hy0:=hy w #[];have hf0:∀o t,j.oper?=some o->o.dst=some t->(j.fn,t)∈dt->∀n E es1,s.runT (alt Q U) w #[]=(Tb n E,es1)->∃fn a b,n=Tc (Tp (SQ fn) a b)/\dt.all (·.1 !=fn)=true:=λo t y p C=>hfin o t y p C w #[]
 unfold stepG.apply;simp only[if_true,hke,sJ,oS,sK,DF,SC,if_false,q.round];generalize s.runT (alt Q U) w #[]=x at hS L hy0 hf0 hni H hpl ⊢;generalize s'.runT Q w' #[]=x' at hS L ⊢;have⟨r,S⟩:=x;have⟨r',es'⟩:=x';rcases hS with⟨N,hS⟩|hS|hS
 rcases hS with⟨n,E,P,y,p,C,h4,h5⟩|⟨h,E,P,y,p,C,h4,h5,h6⟩|⟨h,E,y,p⟩
 .dsimp only at y p;subst y p;have hW2:gR O Ro D w w' E P (seen Q j.fn es'):=(L E P rfl rfl C h4 h5).less (lr _ _ _);have hnk:=hy0 n E S rfl;have Z:=λo t y p C=>hf0 o t y p C n E S rfl
  have R:∀l:Sx,l.kind=j.kind->ck Q dt cl l->(∃g1 K T W B z,SG (seen (alt Q U) j.fn S) (Te {frame:=l,callers:=cs++[D0],status:=Su,dying:=none} E)=Te g1 K T/\
   SG (seen Q j.fn es') (Te {frame:=aC O l,callers:=cs.map (aC O)++rest,status:=Su,dying:=none} P)=Te W B z/\mQ O rest g1 W/\uD Q D0 dt cl g1/\gR O Ro D w w' K B z/\¬ Big (SG (seen (alt Q U) j.fn S) (Te {frame:=l,callers:=cs++[D0],status:=Su,dying:=none} E)).es):=λl hk2 p=>
   ⟨{frame:=l,callers:=cs++[D0],status:=Su,dying:=none},_,_,_,_,_,rfl,rfl,fO,gQ p hcs (cJ cs hk2 F),by rw[SW];omega,bh (aN N) av⟩
  have hfk:∀v,(j.finish v).kind=j.kind:=λv=>by grind [SX]
  cases n;case value v=>
   refine .inl ?_;have:=R (j.finish v) (hfk v) (q.finish λo t y p C=>by
    have⟨f,a,b,e,he⟩:=Z o t y p C;cases e;exact⟨λfn a b e=>by cases e;exact⟨_,rfl,he⟩,by simp⟩)
   rw[gq q.dC.1 q.dC.2]at this;exact this
  case skip=>
   refine .inl ?_;have:=R (j.finish undef) (hfk _) (q.finish λo t y p C=>lT);rw[gq q.dC.1 q.dC.2,jl]at this;exact this
  case enter f I=>
   refine .inl ?_;have hbf:U f=none:=by
    cases hb:U f with
    |none=>rfl
    |some c=>exact absurd ⟨f,I,E,rfl,by rw[hb];rfl,N⟩ H
   dsimp only[Ren.ren,qV];split;rename_i d r sv k heq;exact absurd heq (q.dC.1 d true r sv k);refine⟨{frame:=SL (alt Q U) f I Td,callers:=j::cs++[D0],status:=Su,dying:=none},_,_,{frame:=SL Q f (I.map (ab O)) Td,callers:=(j::cs).map (aC O)++rest,status:=Su,dying:=none},_,_,rfl,rfl,?_,gQ (BA G hbf hnk I (.inl rfl)) (λc hc=> ?_) ⟨λ_ o t y p C=> ?_,F⟩,by rw[SW];exact hW2,bh (aN N) av⟩;rw[<- uw A hbf I Td];exact fO;rcases U0.1 hc with rfl|hc<;>first |exact q|exact hcs c hc
   have⟨f,a,b,e,he⟩:=Z o t y p C;cases e
  case defer d=>
   refine .inl ?_;have hd2:ck Q dt cl {j with defers:=d::j.defers,roundOf:=none}:=⟨rfl,q.items,q.regs,λx hx=>(by
    rcases U0.1 hx with rfl|hx<;>first |exact hnk|exact q.defs x hx),q.kind,q.init⟩
   have:=R ({j with defers:=d::j.defers,roundOf:=none}.finish undef) (by unfold SX;split <;>rfl) (hd2.finish λo t y p C=>lT);rw[gq hd2.dC.1 hd2.dC.2,jl]at this;exact this
  case comm c b sh=>
   refine .inr (.inl ⟨{frame:=j,callers:=cs++[D0],status:=Su,dying:=none},_,_,_,_,_,{frame:=aC O j,callers:=cs.map (aC O)++rest,status:=Su,dying:=none},_,_,rfl,rfl,hnk,fO,gQ q hcs F,λo t y p C=> ?_,by rw[SW];exact hW2,bh (aN N) av⟩);have⟨f,a,b,e,he⟩:=Z o t y p C;cases e
  case recover=>
   refine .inl ?_;dsimp only;show∃g1 K T W B z,SG _ (match tryRecover j (cs++[D0])with |some (v,X)=>_|none=>_)=_/\SG _ (match tryRecover (aC O j) (cs.map (aC O)++rest)with |some (v,X)=>_|none=>_)=_/\_;rw[xp q F,vC q F];cases hr:tryRecover j cs with
   |none=>
    have:=R (j.finish SO) (hfk _) (q.finish λo t y p C=>by
     have⟨f,a,b,e,he⟩:=Z o t y p C;cases e)
    rw[gq q.dC.1 q.dC.2,db]at this;exact this
   |some x=>
    have⟨v,cs2⟩:=x;have⟨k1,k2⟩:=zc hcs hr q.kind F;refine⟨{frame:=j.finish v,callers:=cs2++[D0],status:=Su,dying:=none},_,_,{frame:=(aC O j).finish (ab O v),callers:=cs2.map (aC O)++rest,status:=Su,dying:=none},_,_,rfl,rfl,?_,gQ (q.finish λo t y p C=> ?_) k1 (cJ cs2 (hfk v) k2),by rw[SW];exact hW2,bh (aN N) av⟩<;>first |(rw[<- gq q.dC.1 q.dC.2 v];exact fO)|(have⟨f,a,b,e,he⟩:=Z o t y p C;cases e)
  all_goals exact hnk.elim
 .dsimp only at y C;subst y C;have R:∀l:Sx,l.kind=j.kind->ck Q dt cl l->(∃g1 K T W B z,SG (seen (alt Q U) j.fn S) (Te {frame:=l,callers:=cs++[D0],status:=Su,dying:=none} E)=Te g1 K T/\
   SG (seen Q j.fn es') (Te {frame:=aC O l,callers:=cs.map (aC O)++rest,status:=Su,dying:=none} P)=Te W B z/\mQ O rest g1 W/\uD Q D0 dt cl g1/\gR O Ro D w w' K B z/\¬ Big (SG (seen (alt Q U) j.fn S) (Te {frame:=l,callers:=cs++[D0],status:=Su,dying:=none} E)).es):=λl hk2 p=>
   ⟨{frame:=l,callers:=cs++[D0],status:=Su,dying:=none},_,_,_,_,_,rfl,rfl,fO,gQ p hcs (cJ cs hk2 F),by rw[SW];exact(L E P rfl rfl h4 h5 h6).less (lr _ _ _),bh (aN N) av⟩
  have hrk:∀vs,(j.raise vs).kind=j.kind:=λv=>by unfold TL;split <;>rfl
  have M:(∀v,h≠Ud v)->h≠.goexit->¬ Dead h->(∀g,h≠SS (Tv g))->False:=λq1 q2 q3 q4=>by
   rcases hpl h E S rfl with(⟨v,e⟩|e|e)|⟨g,e,_⟩<;>first |exact q1 v e|exact q2 e|exact q3 e|exact q4 g e
  cases h;case panic v=>
   refine .inl ?_;have:=R (j.raise [{v,recovered:=false}]) (hrk _) (q.raise _);rw[j3]at this;exact this
  case goexit=>
   refine .inl ?_;have:=R (j.raise [goexitEntry]) (hrk _) (q.raise _);rw[j3,Tr,sI]at this;exact this
  case exit c=>exact(M (by simp) (by simp) (by simp[Dead]) (by simp)).elim
  case throw m=>exact(M (by simp) (by simp) (by simp[Dead]) (by simp)).elim
  case fatal m=>exact(M (by simp) (by simp) (by simp[Dead]) (by simp)).elim
  case unsupported u=>
   cases u;case initOrder g=>exact(hni _ _ _ rfl _ rfl).elim
   all_goals exact absurd trivial p
  all_goals exact absurd trivial p
 .dsimp only at y;subst y;refine .inr (.inr (.inr (.inr ?_)));have hnw:∀r,¬ Big (P9 r S):=λr=>Hc N
  cases h;case blocked=>exact⟨.inl (by simp),bh (aN av) av⟩
  case waiting=>exact⟨.inl (by simp),bh (aN av) av⟩
  case stuck m=>exact⟨trivial,bh (aN N) av⟩
  case unsupported u=>
   cases u;case initOrder g=>exact p.elim
   all_goals exact⟨trivial,bh (aN N) av⟩
  all_goals exact p.elim
 exact absurd hS H;exact hS.2.1.elim
end
section
variable{Q:AI}{U:Nat->Option Code}{O:Nat->Nat}{Ro:Nat->Prop}{D:Known}{dt:bM}{cl:Bool}{D0:Sx}{rest:List Sx}
def fZ(Q:AI)(a:Sx)(x:U8):SH:=if Nu Q x then a.eval x else undef
def yQ(F:Fit Q O)(a x):fZ Q (aC O a) x=ab O (fZ Q a x):=by
 unfold fZ;split;rename_i h;refine Kk a (λv c=> ?_) λg b=> ?_<;>first |(subst c;exact wh h O)|(subst b;exact F.low g (of_decide_eq_true h))
 simp
def CZ{f o}(h:mH Q dt cl f o=true):∀cs b,o.op≠.select cs b:=λcs b e=>by
 simp_all[mH,iu,ng]
def Bz{f o}(h:mH Q dt cl f o=true)(a):SE a.eval o=SE (fZ Q a) o:=by
 refine execOp_congr o (CZ h) λx b=> ?_
 unfold mH at h;obtain⟨i,c,rfl⟩:=Array.mem_iff_getElem.1 b;simp_all[fZ]
def IQ(Q:AI)(D:Known)(a:Sx):Prop:=(∀v∈a.tmps,jh D v/\qC D v)/\∀g,g<=Q.globals.size->D g
def AN{v}(h:qt v=true):jh D v/\qC D v:=by
 refine⟨λa e=> ?_,λa l c e=> ?_⟩<;>(subst e;cases h)
def uv{b}(d:IQ Q D b)(x):jh D (fZ Q b x)/\qC D (fZ Q b x):=by
 have i:jh D undef/\qC D undef:=⟨λa e=>by simp[undef]at e,λa l c e=>by simp[undef]at e⟩;unfold fZ;split;rename_i h;cases x with
 |tmp t=>
  simp[Tw];cases j:b.tmps[t]? with
  |none=>exact i
  |some v=>exact d.1 v (Array.mem_of_getElem? j)
 |const v=>exact AN h
 |global g=>exact⟨λa e=>by simp[Tw]at e;subst e;exact d.2 g (of_decide_eq_true h),λa l c e=>by simp[Tw]at e⟩
 |func f=>exact⟨λa e=>by simp[Tw]at e,λa l c e=>by simp[Tw]at e⟩
 omega
structure Env(Q:AI)(U:Nat->Option Code)(O:Nat->Nat)(dt:bM)(cl:Bool):Prop where
 apt:lf Q U
 nf:G3 Q U
 prog:th Q U dt cl
 fit:Fit Q O
 tame:bz (alt Q U)
def wE{P c o h}{a b}(d:o.op= .makeFunc (SQ h) a b)(e:dt.all (·.1 !=h)=true):YP P (λn=>∃fn a b,n=Tc (Tp (SQ fn) a b)/\dt.all (·.1 !=fn)=true) (SE c o):=by
 simp only[SE,d];exact bY ⟨_,_,_,rfl,e⟩
def wM{fr cs w w'}(f:ck Q dt cl fr)(b:∀c∈cs,ck Q dt cl c)(a:ej dt fr cs)(e:eo O Ro D w w')(d:pz Ro w):
 eh Q U O Ro D dt cl D0 rest w w' (Te {frame:=fr,callers:=cs++[D0],status:=Su,dying:=none} w) (Te {frame:=aC O fr,callers:=cs.map (aC O)++rest,status:=Su,dying:=none} w'):=
 .inl ⟨{frame:=fr,callers:=cs++[D0],status:=Su,dying:=none},_,_,_,_,_,rfl,rfl,fO,gQ f b a,gR.refl e d,av⟩
def lx{x a w b}(h:tP D0 x)(c:x.es=#[]):eh Q U O Ro D dt cl D0 rest w b x a:=.inr (.inr (.inr (.inr ⟨h,av⟩)))
def yx(P)(fn a:Nat)(w):(choose (.order fn a)).run P w=Tb (w.tape w.drawn (.order fn a)) {w with drawn:=w.drawn+1}:=by
 simp[Sem.run,Question.forced,Question.cut]
def Ik{w c}(a:eo O Ro D w c)(d:pz Ro w):gR O Ro D w c {w with drawn:=w.drawn+1} {c with drawn:=c.drawn+1} #[]:=
 ⟨⟨a.inj,a.tape,by rw[a.drawn],a.ro,a.blk,a.num,a.os⟩,rfl,Sw _,d,λb _ h=>absurd rfl h,λe f=>by simp at f,rfl,λi o h=>.inr (.inr h)⟩
def HV(A:lf Q U){h}(j:∀f,h (Ub f)=Tp (SQ f) #[] #[]){o c g}{d fn}(m:o.op= .call c)(k:c.callee= .value (Ub g))(i:U g=some d)(b:Q.funcs[g]?=some fn)(w):
 tQ U ((SE h o).runT (alt Q U) w #[]):=by
 have e:(SE h o).runT (alt Q U) w #[]=(SM g (#[]++c.args.map h++ #[])).runT (alt Q U) w #[]:=by
  unfold SE;rw[m];simp only[resolve,k,j];rfl
 rw[e];have l:∀a,(do
  match(<- program).funcs[g]? with
  |none=>stuck "call: no such function"
  |some fn=>
   if fn.name== "runtime.NumGoroutine" then pure UP
   else if fn.body.isNone then
    mark (.extern g)
    if let some e:=Ue fn then return<- e a
    match TZ fn with
    |some e=>pure (Tc (<- e a))
    |none=>
     if fn.name.endsWith ".init" && !fn.name.startsWith "(" && !fn.name.startsWith "gosem." then pure (Tc (Ti #[]))
     else unsupported (.extern fn.name)
   else pure (Ts g a):Sem Next).runT (alt Q U) w #[]=(Tb (Ts g a) w,#[]):=λa=>by
  show(match(alt Q U).funcs[g]? with
   |none=>stuck "call: no such function"
   |some fn=>_:Sem Next).runT (alt Q U) w #[]=_
  simp only[ft,b,AS,j5,A.num g fn b,if_neg SN];have e:(ax U g fn).body.isNone=false:=by simp[ax,i]
  simp[e,if_neg SN]
 exact⟨g,_,w,congrArg Prod.fst (l _),by simp[i],av⟩
def JK(E:Env Q U O dt cl){d cs w m}(z:ck Q dt cl d)(G:∀c∈cs,ck Q dt cl c)(s:ej dt d cs)(T:IQ Q D d)(hH:an w)
 (hw:eo O Ro D w m) (hD:Dom D w) (hR:pz Ro w) (B:g6 O w m (stepW (stepG.oper (alt Q U) true d (cs++[D0]) none w)).heap.size):
 eh Q U O Ro D dt cl D0 rest w m (stepG.oper (alt Q U) true d (cs++[D0]) none w) (stepG.oper Q true (aC O d) (cs.map (aC O)++rest) none m):=by
 unfold stepG.oper at B ⊢;rw[JL];cases v:d.oper? with
 |none=>exact lx trivial rfl
 |some o=>
  rw[v]at B;dsimp only at B ⊢;have r:mH Q dt cl d.fn o=true:=by
   unfold Frame.oper? at v;split at v;rename_i K i is k F;exact z.items (SI K (i::is)) (by rw[F];simp) i (.head _) o v;grind
  have e:iu Q dt cl d.fn o=true:=by
   simp_all[SD,mH,r]
  have C:(aC O d).roundOf=none:=z.round;have N:stepG.apply (alt Q U) true d (cs++[D0]) none (SE d.eval o) w=stepG.apply (alt Q U) true d (cs++[D0]) none (SE (fZ Q d) o) w:=by rw[Bz r]
  have W:stepG.apply Q true (aC O d) (cs.map (aC O)++rest) none (SE (aC O d).eval o) m=stepG.apply Q true (aC O d) (cs.map (aC O)++rest) none (SE (fZ Q (aC O d)) o) m:=by rw[Bz r]
  have A:∀d:Sx,∀f,fZ Q d (Ub f)=Tp (SQ f) #[] #[]:=λd f=>rfl
  have n:∀t,(d.fn,t)∈dt->rD dt (fZ Q d (.tmp t)):=λt y=>z.regs t y
  have L:eh Q U O Ro D dt cl D0 rest w m (stepG.apply (alt Q U) true d (cs++[D0]) none (SE (fZ Q d) o) w) (stepG.apply Q true (aC O d) (cs.map (aC O)++rest) none (SE (fZ Q (aC O d)) o) m):=by
   have R:g6 O w m (stepW (stepG.apply (alt Q U) true d (cs++[D0]) none (SE (fZ Q d) o) w)).heap.size:=by
    rw[<- N];rw[z.round]at B;omega
   refine IC E.apt E.prog z G s (LQ E.apt E.fit (yQ E.fit d) ⟨rfl,rfl⟩ (A d) (λx=>(uv T x).1) (λx=>(uv T x).2) e) (Mf E.apt (A d) (λt y=>(n t y).1) (λt y=>(n t y).2) e) (He (P:=alt Q U) (λt=>rfl) (A d) e λg c _ _ l=>ww E.apt E.nf g l).nf ?_ ?_ hw hD hR R;intro q;refine(He (P:=Q) (λt=>rfl) (A _) e λg c hc hk l=> ?_).nf;cases Z:U g with
   |none=>exact uq E.apt E.nf g Z l
   |some X=>
    cases u:Q.funcs[g]? with
    |none=>
     refine⟨?_⟩;show bE Q (match Q.funcs[g]? with |none=>_|some I=>_);rw[u];exact .inr (.inr trivial)
    |some I=>exact absurd (HV E.apt (A d) hc hk Z u w) q
   intro o' t S h2 h3;rw[v]at S;cases S;have H:=e;unfold iu at H;rw[SD]at H;have p:=H.2;rw[h2]at p;dsimp only at p;have M:dt.contains (d.fn,t)=true:=by grind
   rw[M]at p;cases j:o.op;case makeFunc I a b=>
    rw[j]at p;cases I;case func h=>exact wE j (by simpa using p)
    all_goals(simp at p)
   all_goals(rw[j]at p;simp at p)
  simp_all
end
section
variable{Q:AI}{U:Nat->Option Code}{O:Nat->Nat}{Ro:Nat->Prop}{D:Known}{dt:bM}{cl:Bool}{D0:Sx}{rest:List Sx}
def Kh(E:Env Q U O dt cl){P cs w F}(m m')(L:ck Q dt cl P)(K:∀c∈cs,ck Q dt cl c)(A:ej dt P cs)(hK:IQ Q D P)(hH:an w)
 (S:eo O Ro D w F) (hD:Dom D w) (X:pz Ro w) (hF:g6 O w F (stepW (stepG.exec (alt Q U) m true P (cs++[D0]) none w)).heap.size):
 eh Q U O Ro D dt cl D0 rest w F (stepG.exec (alt Q U) m true P (cs++[D0]) none w) (stepG.exec Q m' true (aC O P) (cs.map (aC O)++rest) none F):=by
 have⟨fn,tmps,todo,defers,mode,kind,H⟩:=P;obtain rfl:H=none:=L.round;have q:∀t:List Item,(∀i∈t,gW Q dt cl fn i)->eh Q U O Ro D dt cl D0 rest w F (Te {frame:=({fn,tmps,todo:=t,defers,mode,kind,roundOf:=none}:Sx),callers:=cs++[D0],status:=Su,dying:=none} w) (Te {frame:=aC O {fn,tmps,todo:=t,defers,mode,kind,roundOf:=none},callers:=cs.map (aC O)++rest,status:=Su,dying:=none} F):=λt ht=>
  wM (L.todo ht) K (cJ (fr:= {fn,tmps,todo,defers,mode,kind,roundOf:=none}) cs rfl A) S X
 have M:eh Q U O Ro D dt cl D0 rest w F (Te {frame:=({fn,tmps,todo,defers,mode:=Ut,kind,roundOf:=none}:Sx),callers:=cs++[D0],status:=Su,dying:=none} w) (Te {frame:=aC O {fn,tmps,todo,defers,mode:=Ut,kind,roundOf:=none},callers:=cs.map (aC O)++rest,status:=Su,dying:=none} F):=
  wM (L.mode Ut) K (cJ (fr:= {fn,tmps,todo,defers,mode,kind,roundOf:=none}) cs rfl A) S X
 have N:∀R k,todo=R::k->gW Q dt cl fn R/\∀i∈k,gW Q dt cl fn i:=λR k h=>by
  subst h;exact⟨L.items R (.head _),λi p=>L.items i (.tail _ p)⟩
 have g:∀(i:Item)(k:List Item),gW Q dt cl fn i->(∀i∈k,gW Q dt cl fn i)->∀j∈i::k,gW Q dt cl fn j:=λi k h1 h2 j hj=>by
  grind
 unfold stepG.exec at hF ⊢;dsimp only[sJ,sK]at hF ⊢;cases todo with
 |nil=>exact M
 |cons R k=>
  have⟨p,B⟩:=N R k rfl;cases R with
  |code c=>
   cases c with
   |ret=>exact M
   |skip=>exact q k B
   |label l=>exact q k B
   |seq a b=>
    have p:codeOk Q dt cl fn (.seq a b)=true:=p;unfold codeOk at p;rw[SD]at p;exact q _ (g _ _ p.1 (g _ _ p.2 B))
   |cond c a b=>
    have p:codeOk Q dt cl fn (Uu c a b)=true:=p;unfold codeOk at p;rw[SD,SD]at p;have Z:(aC O ({fn:=fn,tmps:=tmps,todo:=Uc (Uu c a b)::k,defers:=defers,mode:=mode,kind:=kind,roundOf:=none}:Sx)).eval c=ab O (({fn:=fn,tmps:=tmps,todo:=Uc (Uu c a b)::k,defers:=defers,mode:=mode,kind:=kind,roundOf:=none}:Sx).eval c):=by
     have:=yQ E.fit ({fn:=fn,tmps:=tmps,todo:=Uc (Uu c a b)::k,defers:=defers,mode:=mode,kind:=kind,roundOf:=none}:Sx) c;simp_all[if_pos,fZ,this]
    dsimp only;rw[Z];cases({fn:=fn,tmps:=tmps,todo:=Uc (Uu c a b)::k,defers:=defers,mode:=mode,kind:=kind,roundOf:=none}:Sx).eval c;case bool v=>
     rw[fK];cases v<;>first |exact q _ (g _ _ p.2.2 B)|exact q _ (g _ _ p.2.1 B)
    all_goals exact lx trivial rfl
   |block G I=>exact q _ (g _ _ p (g _ _ trivial B))
   |loop I=>exact q _ (g _ _ p (g _ _ p B))
   |scope I=>exact q _ (g _ _ p (g _ _ p B))
   |exit G=>
    dsimp only;cases Z:exitTo G k with
    |some t=>exact q t (q6 G k t B Z)
    |none=>
     exact lx trivial rfl
   |goto l=>
    dsimp only;cases Z:gotoIn l k with
    |some t=>exact q t (q5 l k t B Z)
    |none=>
     exact lx trivial rfl
   |rangeFunc f params a b=>
    cases p
   |refuse why=>exact lx trivial rfl
   |region G n draw=>
    have p:n.all (mH Q dt cl fn ·)=true:=p;dsimp only;cases draw with
    |false=>exact q _ (g _ _ (pX p _) B)
    |true=>
     simp only[Bool.not_true,SC,if_false];rw[yx,yx];dsimp only;have e:F.tape F.drawn (.order fn G)=w.tape w.drawn (.order fn G):=by rw[S.tape,S.drawn]
     have e2:F.tape F.drawn (.order (aC O {fn,tmps,todo:=Uc (Ux G n true)::k,defers,mode,kind,roundOf:=none}).fn G)=w.tape w.drawn (.order fn G):=e;rw[e2];have:=Ik S X;exact .inl ⟨{frame:= {fn,tmps,todo:=_,defers,mode,kind,roundOf:=none},callers:=cs++[D0],status:=Su,dying:=none},_,_,_,_,_,rfl,rfl,fO,gQ (L.todo (g _ _ (pX p _) B)) K (cJ (fr:= {fn,tmps,todo:=Uc (Ux G n true)::k,defers,mode,kind,roundOf:=none}) cs rfl A),this,av⟩
  |inBlock G=>exact q k B
  |inScope c=>exact q k B
  |inLoop I=>exact q _ (g _ _ p (g _ _ p B))
  |inRegion n todo=>
   cases todo with
   |nil=>exact q k B
   |cons i is=>
    dsimp only at hF ⊢;have W:((n[i]?.map (Uq · (yielded n (aC O {fn,tmps,todo:=SI n (i::is)::k,defers,mode,kind,roundOf:=none}).tmps))).getD false)=((n[i]?.map (Uq · (yielded n tmps))).getD false):=by
     have:yielded n (aC O {fn,tmps,todo:=SI n (i::is)::k,defers,mode,kind,roundOf:=none}).tmps=yielded n tmps:=funext λj=>Cc n tmps j
     rw[this]
    by_cases T:(n[i]?.map (Uq · (yielded n tmps))).getD false=true<;>first |(rw[if_pos T]at hF;rw[if_pos T,if_pos (W.trans T)];exact JK E L K A hK hH S hD X hF)|(rw[if_neg T,if_neg λh=>T (W.symm.trans h)];have:=wM (D0:=D0) (Q:=Q) (U:=U) (O:=O) (Ro:=Ro) (D:=D) (rest:=rest) (fr:=SX {fn:=fn,tmps:=tmps,todo:=SI n (i::is)::k,defers:=defers,mode:=mode,kind:=kind,roundOf:=none} undef) (cs:=cs) (w:=w) (w':=F) (L.finish λo t h1 h2 h3=>lT) K (cJ cs (by unfold SX;rfl) A) S X;rw[gq L.dC.1 L.dC.2,jl]at this;exact this)
  |inRangeFunc l=>exact p.elim
  |endRangeFunc l=>exact p.elim
  |beginRound=>exact p.elim
  |call d a b c=>exact p.elim
  |extern r a=>exact p.elim
end
section
variable{Q:AI}{U:Nat->Option Code}{O:Nat->Nat}{Ro:Nat->Prop}{D:Known}{dt:bM}{cl:Bool}{D0:Sx}{rest:List Sx}
def AtClose(g:T6):Prop:=(∀h:g.frame.mode= .run,False)/\∃d b a t c r,g.frame.defers=d::b/\d.target=TS Ua a t c/\d.args=#[TF (some r)]
def Cv(F:Fit Q O)(fn tmps):au Q U O Ro D (results fn tmps) (results fn (tmps.map (ab O))):=by
 have b:∀t,(tmps.map (ab O)).getD t undef=ab O (tmps.getD t undef):=λt=>by
  simp[TD];cases tmps[t]? <;>simp
 refine am (α:=Array SH) (Ak (λx=> ?_) fn.results) λc=>ae ?_
 cases x with
 |tmp t=>
  simp[b];exact ae rfl
 |cell a t=>
  simp[b];exact am (EL F _) λx=>ui t x
 by_cases h:c.size=1;simp[dif_pos h,Ren.ren];simp_all[Ren.ren]
theorem wv{P}(fn tmps):Nf P (results fn tmps):=by
 refine @dl _ _ _ _ _ (@Mk _ _ _ _ (λx=> ?_) _) λb=>fQ
 cases x with
 |tmp t=>exact fQ
 |cell a t=>exact @dl _ _ _ _ _ zq2 λx=>zq2
def CQ(f fn tmps):results (ax U f fn) tmps=results fn tmps:=by
 grind [results,ax]
def rU:∀l:List PanicEntry,(l.map (jn O)).dropWhile (!·.goexit)=(l.dropWhile (!·.goexit)).map (jn O)
 |[]=>rfl
 |x::l=>by
  rw[Tr,List.dropWhile_cons,List.dropWhile_cons];have:(jn O x).goexit=x.goexit:=rfl;rw[this];split;exact rU l;rfl
def sZ(u:C9 D0){r cs w A z i es k}(m F)(I:ck Q dt cl r)(n:∀c∈cs,ck Q dt cl c)(f:ej dt r cs)(v)(S:gR O Ro D w A z i k)(C:¬ Big es):
 eh Q U O Ro D dt cl D0 rest w A (SG es (doReturn (alt Q U) m r (cs++[D0]) none v z)) (SG k (doReturn Q F (aC O r) (cs.map (aC O)++rest) none (ab O v) i)):=by
 cases cs with
 |nil=>
  refine .inr (.inr (.inr (.inr ?_)));unfold doReturn;dsimp only;rw[Vj,f];dsimp only;have p:D0.finish v=D0:=by
   have⟨L,h⟩:=u.todo;simp_all[SX]
  rw[p];exact⟨.inr ⟨rfl,rfl,rfl,.inl rfl⟩,bh C av⟩
 |cons c cs=>
  have g:=n c (.head _);have b:∀d:Sx,d.kind=c.kind->ck Q dt cl d->eh Q U O Ro D dt cl D0 rest w A (SG es (Te {frame:=d,callers:=cs++[D0],status:=Su,dying:=none} z)) (SG k (Te {frame:=aC O d,callers:=cs.map (aC O)++rest,status:=Su,dying:=none} i)):=λd y s=>
   .inl ⟨{frame:=d,callers:=cs++[D0],status:=Su,dying:=none},_,_,_,_,_,rfl,rfl,fO,gQ s (λx H=>n x (.tail _ H)) (cJ cs y f.2),by rw[SW];omega,bh C av⟩
  rw[Tr,TG,TG];unfold doReturn;dsimp only;rw[oS];rcases I.kind with q|q
  rw[q];have:=b (c.finish v) (by grind [SX]) (g.finish λo t N s M=>absurd M (f.1 q o t N s));rw[gq g.dC.1 g.dC.2]at this;omega;rw[q];dsimp only;rw[fL];cases P:c.mode with
  |run=>exact b c rfl g
  |returning=>exact b c rfl g
  |panicking j=>
   cases j with
   |nil=>exact b c rfl g
   |cons e a=>
    have⟨E,G,B⟩:=e;cases G with
    |false=>exact b c rfl g
    |true=>
     have K:oa O (Tm (⟨E,true,B⟩::a))=Tm (⟨ab O E,true,B⟩::a.map (jn O)):=rfl;rw[K];dsimp only;rw[rU];cases R:a.dropWhile (!·.goexit)with
     |nil=>exact b {c with mode:=Ut} rfl (g.mode _)
     |cons x l=>exact b {c with mode:=Tm (x::l)} rfl (g.mode _)
def s7(A:lf Q U)(f args):YP (alt Q U) (λn=>(∃v,n=Tc v)\/n=Ts f args) (SM f args):=by
 refine vv ?_;rw[ft];cases d:Q.funcs[f]? with
 |none=>exact fi
 |some a=>
  simp only[AS,j5,A.num f a d];cases b:U f with
  |some c=>
   have e:(ax U f a).body.isNone=false:=by simp[ax,b]
   rw[e];exact bY (.inr rfl)
  |none=>
   have e:ax U f a=a:=by simp[ax,b]
   rw[e];cases i:a.body.isNone with
   |false=>
    exact bY (.inr rfl)
   |true=>
    have⟨g,j,h,k⟩:=A.lib f a d b i;rw[g,h];exact cN λ_=>cN λv=>bY (.inl ⟨v,rfl⟩)
section
variable{P:AI}{fr:Sx}{cs:List Sx}{f:Nat}{args cap:Array SH}{w w1:Sz}{es:Array T0}{D0:Sx}
def vj{v}(h:(SM f (args++cap)).runT P w #[]=(Tb (Tc v) w1,es)):SF P fr cs none ⟨TX (SQ f) cap,args⟩ w=SG (seen P fr.fn es) (Te {frame:=fr,callers:=cs,status:=Su,dying:=none} w1):=by
 have e:(invoke (TX (SQ f) cap) args).runT P w #[]=(Tb (Tc v) w1,es):=h;simp_all[SF]
def oD{g:Nat}{a}(h:(SM f (args++cap)).runT P w #[]=(Tb (Ts g a) w1,es)):SF P fr cs none ⟨TX (SQ f) cap,args⟩ w=SG (seen P fr.fn es) (Te {frame:=SL P g a TQ,callers:=fr::cs,status:=Su,dying:=none} w1):=by
 have e:(invoke (TX (SQ f) cap) args).runT P w #[]=(Tb (Ts g a) w1,es):=h;simp_all[SF]
def vk{v}(h:(SM f (args++cap)).runT P w #[]=(SJ (Ud v) w1,es)):SF P fr cs none ⟨TX (SQ f) cap,args⟩ w=SG (seen P fr.fn es) (Te {frame:=fr.raise [{v,recovered:=false}],callers:=cs,status:=Su,dying:=none} w1):=by
 have e:(invoke (TX (SQ f) cap) args).runT P w #[]=(SJ (Ud v) w1,es):=h;simp_all[SF]
def tb(h:(SM f (args++cap)).runT P w #[]=(SJ .goexit w1,es)):SF P fr cs none ⟨TX (SQ f) cap,args⟩ w=SG (seen P fr.fn es) (Te {frame:=fr.raise [goexitEntry],callers:=cs,status:=Su,dying:=none} w1):=by
 have e:(invoke (TX (SQ f) cap) args).runT P w #[]=(SJ .goexit w1,es):=h;simp_all[SF]
def MJ{h}(c:(SM f (args++cap)).runT P w #[]=(SJ h w1,es))(b:Dead h)(d:¬ Big es\/h=V9\/h=V8):tP D0 (SF P fr cs none ⟨TX (SQ f) cap,args⟩ w)/\¬ Big (SF P fr cs none ⟨TX (SQ f) cap,args⟩ w).es:=by
 have e:(invoke (TX (SQ f) cap) args).runT P w #[]=(SJ h w1,es):=c;simp only[SF,UL,SC,if_false,e];have a:h≠V9/\h≠V8->¬ Big es:=λg=>by
  grind
 cases h;case blocked=>exact⟨.inl (by simp),bh (aN av) av⟩
 case waiting=>exact⟨.inl (by simp),bh (aN av) av⟩
 case stuck m=>exact⟨trivial,bh (aN (a ⟨by simp,by simp⟩)) av⟩
 case unsupported u=>exact⟨trivial,bh (aN (a ⟨by simp,by simp⟩)) av⟩
 all_goals exact b.elim
end
def MI{P c cs}{f:Nat}{args a w b d r}(i:(SM f (args++a)).runT P w #[]=(r,d))(g:∃h,r=SJ h b):b.heap.size<=(stepW (SF P c cs none ⟨TX (SQ f) a,args⟩ w)).heap.size:=by
 obtain⟨h,rfl⟩:=g;have e:(invoke (TX (SQ f) a) args).runT P w #[]=(SJ h b,d):=i;simp only[SF,UL,SC,if_false,e,fJ];cases h;case fatal m=>exact(qx P c cs m b).1
 all_goals exact Sw _
def NT(E:Env Q U O dt cl){fr cs w x f args j}(hg:ck Q dt cl fr)(hcs:∀c∈cs,ck Q dt cl c)(I:ej dt fr cs)(hH:an w)
 (hdf:dt.all (·.1 !=f)=true) (hw:eo O Ro D w x) (hD:Dom D w) (hR:pz Ro w) (G:g6 O w x (stepW (SF (alt Q U) fr (cs++[D0]) none ⟨TX (SQ f) j,args⟩ w)).heap.size):
 eh Q U O Ro D dt cl D0 rest w x (SF (alt Q U) fr (cs++[D0]) none ⟨TX (SQ f) j,args⟩ w) (SF Q (aC O fr) (cs.map (aC O)++rest) none ⟨TX (SQ f) (j.map (ab O)),args.map (ab O)⟩ x):=by
 have hs:=rN (Ro:=Ro) (D:=D) (cl:=cl) E.apt E.fit f (args++j);have hy:=s7 E.apt f (args++j) w #[];have hn:=(ww E.apt E.nf f (args++j)).nf;rw[TI]at hs;by_cases b:tQ U ((SM f (args++j)).runT (alt Q U) w #[]);have⟨g,a,s,m,C,M⟩:=b;refine .inr (.inr (.inl ?_));cases u:(SM f (args++j)).runT (alt Q U) w #[]with
 |mk r y=>
  rw[u]at m M;dsimp only at m M;subst m;rw[oD u];exact⟨_,_,_,rfl,⟨g,a,TQ,rfl,C,rfl,λd hd=>by cases hd⟩,bh (aN M) av⟩
 have hn':bE Q (SM f (args.map (ab O)++j.map (ab O))):=by
  cases hb:U f with
  |none=>exact(uq E.apt E.nf f hb _).nf
  |some code=>
   cases P:Q.funcs[f]? with
   |none=>
    show bE Q (match Q.funcs[f]? with |none=>_|some fn=>_);rw[P];exact .inr (.inr trivial)
   |some fn=>
    exfalso;apply b;have e2:∀args,(SM f args).runT (alt Q U) w #[]=(Tb (Ts f args) w,#[]):=λargs=>by
     unfold SM;rw[aM];show(match(alt Q U).funcs[f]? with
      |none=>stuck "call: no such function"
      |some fn=>_:Sem Next).runT (alt Q U) w #[]=_
     rw[ft,P];dsimp only[AS];rw[j5,E.apt.num f fn P,if_neg SN];have e:(ax U f fn).body.isNone=false:=by unfold ax;rw[hb];rfl
     rw[e,if_neg SN];rfl
    exact⟨f,_,w,congrArg Prod.fst (e2 _),by rw[hb];rfl,av⟩
 have K:∀(y p:Array T0)(s F:Sz)(A:Sx),A.kind=fr.kind->ck Q dt cl A->gR O Ro D w x s F p->¬ Big y->eh Q U O Ro D dt cl D0 rest w x (SG (seen (alt Q U) fr.fn y) (Te {frame:=A,callers:=cs++[D0],status:=Su,dying:=none} s)) (SG (seen Q fr.fn p) (Te {frame:=aC O A,callers:=cs.map (aC O)++rest,status:=Su,dying:=none} F)):=λy p s F A hk2 C hW k=>
  .inl ⟨{frame:=A,callers:=cs++[D0],status:=Su,dying:=none},_,_,_,_,_,rfl,rfl,fO,gQ C hcs (cJ cs hk2 I),by rw[SW];exact hW.less (lr _ _ _),bh (aN k) av⟩
 cases u:(SM f (args++j)).runT (alt Q U) w #[]with
 |mk r y=>
 cases B:(SM f (args.map (ab O)++j.map (ab O))).runT Q x #[]with
 |mk r' p=>
 have q:=λ(s F:Sz)=>tw (O:=O) (Ro:=Ro) (D:=D) hn hn' (w:=w) (w':=x) (w1:=s) (w1':=F) hR
 rw[u,B]at q;have z:g6 O w x (dh r).heap.size->Ca O Ro D w x (r,y) (r',p)\/tQ U (r,y)\/cl=false/\Big y/\Big p/\C4 r':=λh=>by
  have:=hs w x #[] #[] hw hD av tB (by rw[u];omega);rw[u,B]at this;omega
 rw[u]at b hy;have hbig:cl=false->Big y->Big p->C4 r'->eh Q U O Ro D dt cl D0 rest w x (SF (alt Q U) fr (cs++[D0]) none ⟨TX (SQ f) j,args⟩ w) (SF Q (aC O fr) (cs.map (aC O)++rest) none ⟨TX (SQ f) (j.map (ab O)),args.map (ab O)⟩ x):=λ_ k1 _ _=>k1.elim
 cases r with
 |ok n s=>
  rcases hy n s y rfl with⟨v,rfl⟩|rfl
  rw[vj u,fJ]at G;rcases z G with⟨k,S⟩|h|⟨L,k1,k2,k3⟩
  rcases S with⟨n,H,l,m,C,T,W,X⟩|⟨h,H,l,m,_⟩|⟨h,H,m,_⟩
  dsimp only at m C;cases m;subst C;rw[vj u,vj B];exact K y p s l fr rfl hg (q s l rfl rfl T W X) k;cases m;grind
  exact absurd h b;grind
  rw[oD u,fJ]at G;rcases z G with⟨k,S⟩|h|⟨L,k1,k2,k3⟩
  rcases S with⟨n,H,l,m,C,T,W,X⟩|⟨h,H,l,m,_⟩|⟨h,H,m,_⟩
  dsimp only at m C;cases m;subst C;rw[oD u,oD B];have hbf:U f=none:=by
   cases hb:U f with
   |none=>rfl
   |some c=>exact absurd ⟨f,_,s,rfl,by rw[hb];rfl,k⟩ b
  refine .inl ⟨{frame:=SL (alt Q U) f (args++j) TQ,callers:=fr::cs++[D0],status:=Su,dying:=none},_,_,{frame:=SL Q f ((args++j).map (ab O)) TQ,callers:=(fr::cs).map (aC O)++rest,status:=Su,dying:=none},_,_,rfl,rfl,?_,gQ (BA E.prog hbf hdf _ (.inr rfl)) (λc hc=> ?_) ⟨λhk=>(by cases hk),I⟩,by rw[SW];exact(q s l rfl rfl T W X).less (lr _ _ _),bh (aN k) av⟩;rw[<- uw E.apt hbf _ TQ];exact fO;grind
  cases m;grind
  exact absurd h b;grind
 |halt h s=>
  by_cases Z:(∃v,h=Ud v)\/h= .goexit;have R:g6 O w x s.heap.size:=by
   rcases Z with⟨v,rfl⟩|rfl<;>first |(rw[vk u,fJ]at G;exact G)|(rw[tb u,fJ]at G;exact G)
  have hrk:∀vs,(fr.raise vs).kind=fr.kind:=λv=>by grind [TL]
  rcases z R with⟨k,S⟩|hh|⟨L,k1,k2,k3⟩
  rcases S with⟨n,H,l,m,_⟩|⟨h0,H,l,m,C,T,W,X,h6⟩|⟨h0,H,m,C⟩
  cases m;dsimp only at m T;cases m;subst T;have hW:=q s l rfl rfl W X h6;rcases Z with⟨v,rfl⟩|rfl<;>first |(rw[vk u,vk (by rw[B];rfl)];have:=K y p s l (fr.raise [{v,recovered:=false}]) (hrk _) (hg.raise _) hW k;rw[j3]at this;exact this)|(rw[tb u,tb (by rw[B];rfl)];have:=K y p s l (fr.raise [goexitEntry]) (hrk _) (hg.raise _) hW k;rw[j3,Tr,sI]at this;exact this)
  cases m;rcases Z with⟨v,rfl⟩|rfl<;>exact C.elim
  exact absurd hh b;grind
  have N:Dead h:=by
   rcases sG _ _ hn w #[] h s y u with(⟨v,e⟩|e|e)|⟨g,e,_⟩
   exact absurd (.inl ⟨v,e⟩) Z;exact absurd (.inr e) Z;exact e;subst e;exact DM hn (λi c t hi=>hw.blk i _ hi) u
  have R:g6 O w x s.heap.size:=by
   exact jW G (MI u ⟨_,rfl⟩)
  rcases z R with⟨k,S⟩|hh|⟨L,k1,k2,k3⟩
  exact .inr (.inr (.inr (.inr (MJ u N (.inl k)))));exact absurd hh b;grind
def Di{args}(b:args≠#[TF none])(c:∀r,args≠#[TF (some r)])(a t):Uk a t args=stuck "close: one channel expected" :=by
 have⟨l⟩:=args;cases l with
 |nil=>rfl
 |cons x l=>
  cases l with
  |nil=>
   cases x;case chan o=>
    cases o with
    |none=>exact absurd rfl b
    |some r=>exact absurd rfl (c r)
   all_goals rfl
  |cons y l=>rfl
def MH{P}{fr:Sx}{cs:List Sx}{a t c args h w es}(b:(Uk a t args).runT P w #[]=(SJ h w,es)):(invoke (TS Ua a t c) args).runT P w #[]=(SJ h w,es):=by
 show(Uk a t args>>=λv=>pure (Tc v)).runT P w #[]=_;rw[aM,b]
def MG(E:Env Q U O dt cl){fr cs w e a t c args}(m:ck Q dt cl fr)(g:∀c∈cs,ck Q dt cl c)(d:ej dt fr cs)(i:∀r,args≠#[TF (some r)])(k:eo O Ro D w e)(n:pz Ro w):
 eh Q U O Ro D dt cl D0 rest w e (SF (alt Q U) fr (cs++[D0]) none ⟨TS Ua a t c,args⟩ w) (SF Q (aC O fr) (cs.map (aC O)++rest) none ⟨TS Ua a t c,args.map (ab O)⟩ e):=by
 by_cases j:args=#[TF none];subst j;have p:∀(P:AI)(w:Sz),(Uk a t #[TF none]).runT P w #[]=(SJ (Ud (TK P.rt.plainError (strVal "close of nil channel"))) w,#[]):=λP w=>rfl
 have b:∀(P:AI)(fr:Sx)(cs:List Sx)(w:Sz),SF P fr cs none ⟨TS Ua a t c,#[TF none]⟩ w=SG (seen P fr.fn #[]) (Te {frame:=fr.raise [{v:=TK P.rt.plainError (strVal "close of nil channel"),recovered:=false}],callers:=cs,status:=Su,dying:=none} w):=λP fr cs w=>by
  rfl
 have l:(#[TF none]:Array SH).map (ab O)=#[TF none]:=by simp
 rw[l,b,b];have f:(aC O fr).raise [{v:=TK Q.rt.plainError (strVal "close of nil channel"),recovered:=false}]=aC O (fr.raise [{v:=TK Q.rt.plainError (strVal "close of nil channel"),recovered:=false}]):=by
  rw[j3];simp[jn,strVal]
 refine .inl ⟨{frame:=fr.raise [{v:=TK Q.rt.plainError (strVal "close of nil channel"),recovered:=false}],callers:=cs++[D0],status:=Su,dying:=none},_,_,_,_,_,rfl,rfl,?_,gQ (m.raise _) g (cJ cs (by unfold TL;split <;>rfl) d),?_,bh (aN av) av⟩<;>first |(rw[f];exact fO)|(rw[SW];exact(tw (O:=O) (Ro:=Ro) (D:=D) (Q:=Q) (U:=U) (s:=(Uz (Ud SO):Sem Unit)) (s':=(Uz (Ud SO):Sem Unit)) (.inl ⟨_,rfl⟩) (.inl ⟨_,rfl⟩) (w:=w) (w':=e) n rfl rfl tB k rfl).less (lr _ _ _))
 have b:SF (alt Q U) fr (cs++[D0]) none ⟨TS Ua a t c,args⟩ w=SG (seen (alt Q U) fr.fn #[]) (.ended (.stuck "close: one channel expected" (fr.pos (alt Q U))) w):=by
  unfold SF;simp only[UL,SC,if_false,MH (P:=alt Q U) (c:=c) (fr:=fr) (cs:=cs) (w:=w) (h:=TV "close: one channel expected") (es:=#[]) (by rw[Di j i a t];rfl)]
 rw[b];exact .inr (.inr (.inr (.inr ⟨trivial,bh (aN av) av⟩)))
def Em(F:C9 D0)(E:Env Q U O dt cl){e cs w y}(m X)(s:ck Q dt cl e)(p:∀c∈cs,ck Q dt cl c)(i:ej dt e cs)(hH:an w)(hm:e.mode= .run->False)
 (Z:∀d ds a t c r,e.defers=d::ds->d.target=TS Ua a t c->d.args≠#[TF (some r)])
 (K:eo O Ro D w y) (hD:Dom D w) (R:pz Ro w) (l:g6 O w y (stepW (unwind (alt Q U) m e (cs++[D0]) none w)).heap.size):
 eh Q U O Ro D dt cl D0 rest w y (unwind (alt Q U) m e (cs++[D0]) none w) (unwind Q X (aC O e) (cs.map (aC O)++rest) none y):=by
 cases j:e.defers with
 |nil=>
  unfold unwind at l ⊢;rw[jG,j];rw[j]at l;dsimp only[List.map_nil]at l ⊢;rw[fL];cases S:e.mode with
  |run=>exact absurd S hm
  |panicking g=>
   dsimp only[oa];have I:∀(P:AI)(e:Sx),ck Q dt cl e->e.catches P=false:=λP e h=>by
    unfold UT;split;rename_i T h2;exact absurd h2 (h.dC.1 _ _ _ _ _);rfl
   rw[I _ _ s];have A:(aC O e).catches Q=false:=by
    simp_all[UT]
   rw[A];simp only[SC,if_false];cases cs with
   |nil=>
    rw[Vj];have W:D0.raise g= {D0 with mode:=Tm g}:=by
     unfold TL;rw[F.mode]
    dsimp only;rw[W];exact lx (.inr ⟨rfl,rfl,rfl,.inr ⟨g,rfl⟩⟩) rfl
   |cons c cs=>
    rw[TG];have:=wM (D0:=D0) (Q:=Q) (U:=U) (O:=O) (Ro:=Ro) (D:=D) (rest:=rest) (fr:=c.raise g) (cs:=cs) (w:=w) (w':=y) ((p c (.head _)).raise g) (λx hx=>p x (.tail _ hx)) (cJ cs (by grind [TL]) i.2) K R;rw[j3]at this;exact this
  |returning=>
   rw[S]at l;rw[ft]at l ⊢;rw[DF];cases B:Q.funcs[e.fn]? with
   |none=>
    have:=sZ F (U:=U) (rest:=rest) (es:=#[]) m X s p i (e.tmps.getD 0 undef) (gR.refl K R) av;have e0:∀x:GStep,SG #[] x=x:=λx=>by cases x<;>simp[SG]
    rw[e0,e0]at this;have e1:(aC O e).tmps.getD 0 undef=ab O (e.tmps.getD 0 undef):=by
     simp only[yu,TD,T9];cases e.tmps[0]? <;>simp
    rw[e1];exact this
   |some z=>
    rw[B]at l;dsimp only[AS]at l ⊢;rw[CQ]at l ⊢;have L:∀a q N,(results z e.tmps).runT (alt Q U) w #[]=(Tb a q,N)->q.heap.size<=(stepW (SG (seen (alt Q U) e.fn N) (doReturn (alt Q U) m e (cs++[D0]) none a q))).heap.size:=λa q N h=>by
     unfold doReturn;repeat' split
     all_goals exact Sw _
    have k:=λ(q w1':Sz)=>tw (O:=O) (Ro:=Ro) (D:=D) (wv (P:=alt Q U) z e.tmps).nf (wv (P:=Q) z (e.tmps.map (ab O))).nf (w:=w) (w':=y) (w1:=q) (w1':=w1') R
    have v:=(Cv (Q:=Q) (U:=U) (Ro:=Ro) (D:=D) E.fit z e.tmps) w y #[] #[] K av tB;rw[yu];generalize (results z e.tmps).runT (alt Q U) w #[]=x at v k L l ⊢;generalize (results z (e.tmps.map (ab O))).runT Q y #[]=x' at v k ⊢;have⟨r,N⟩:=x;have⟨r',es'⟩:=x';cases r with
    |halt h q=>
     have⟨C,_⟩:=v (jW l (by cases h<;>exact Sw _));refine .inr (.inr (.inr (.inr ⟨by cases h<;>trivial,bh (aN C) (by cases h<;>exact av)⟩)))
    |ok a q=>
     have⟨C,hS⟩:=v (jW l (L a q N rfl));rcases hS with⟨n,v1,G,T,h2,h3,h4,h5⟩|⟨h,v1,G,T,_⟩|⟨h,v1,T,_⟩
     cases T;subst h2;exact sZ F m X s p i a ((k q G rfl rfl h3 h4 h5).less (lr _ _ _)) (aN C);cases T;grind
 |cons d ds=>
  have u:=s.defs d (by rw[j];simp);have⟨tg,args⟩:=d;have M:ck Q dt cl {e with defers:=ds}:=⟨s.round,s.items,s.regs,λx hx=>s.defs x (by grind),s.kind,s.init⟩;by_cases H:∃a t c,tg=TS Ua a t c;obtain⟨a,t,c,rfl⟩:=H;unfold unwind;rw[jG,j];exact MG E M p (cJ (fr:=e) cs rfl i) (λr=>Z _ ds a t c r j rfl) K R;have B:∃f c,tg=TX (SQ f) c:=by
   cases tg;case fn z c=>
    cases z;case func f=>exact⟨f,c,rfl⟩
    all_goals exact u.elim
   case builtin b a t c=>
    cases b;case close=>exact absurd ⟨a,t,c,rfl⟩ H
    all_goals exact u.elim
   all_goals exact u.elim
  obtain⟨f,cap,rfl⟩:=B;unfold unwind at l ⊢;rw[jG,j];rw[j]at l;exact NT E M p (cJ (fr:=e) cs rfl i) hH u K hD R l
def Gk(y:C9 D0)(E:Env Q U O dt cl){g v w p}(m s)(W:mQ O rest g v)(M:uD Q D0 dt cl g)(X:IQ Q D g.frame)(z:an w)(x:¬ AtClose g)
 (F:eo O Ro D w p) (G:Dom D w) (H:pz Ro w) (l:g6 O w p (stepW (stepG (alt Q U) m g w)).heap.size):
 eh Q U O Ro D dt cl D0 rest w p (stepG (alt Q U) m g w) (stepG Q s v p):=by
 have⟨e,f,st,dy,b⟩:=g;have⟨fr',I,st',N,B⟩:=v;have⟨h1,h2,⟨K,L⟩,R,T⟩:=W;subst h1 h2 K L R T;have⟨C,q,u,A⟩:=M;generalize hcs:f.dropLast=k at q u A;subst A;cases n:e.mode with
 |run=>
  have j:∀(P:AI)(m:Bool)(e:Sx)(f:List Sx)(b:_)(w:Sz),e.mode= .run->stepG P m {frame:=e,callers:=f,status:=Su,dying:=none,offers:=b} w=stepG.exec P m true e f none w:=λP m e f b w h=>by
   simp_all[stepG]
  rw[j _ _ _ (k++[D0]) _ _ n]at l ⊢;rw[j _ _ _ _ _ _ (by rw[fL,n];rfl)];exact Kh E m s C q u X z F G H l
 |_=>
  have j:∀(P:AI)(m:Bool)(e:Sx)(f:List Sx)(b:_)(w:Sz),(e.mode= .run->False)->stepG P m {frame:=e,callers:=f,status:=Su,dying:=none,offers:=b} w=unwind P m e f none w:=λP m e f b w h=>by
   simp[stepG]
  have i:e.mode= .run->False:=λh=>by rw[n]at h;cases h
  rw[j _ _ _ (k++[D0]) _ _ i]at l ⊢;rw[j _ _ _ _ _ _ (by rw[fL,n];exact nofun)];exact Em y E m s C q u z i (λd ds a t c r j Z S=>x ⟨i,d,ds,a,t,c,r,j,Z,S⟩) F G H l
end
end
section
structure Part where
 K:Nat->Prop
 κ:Nat->Nat
def Ag(p:Part)(a:Nat->Nat):Prop:=(∀i j,a i=a j->i=j)/\∀i,p.K i->a i=p.κ i
structure iA(Q:AI)(p:Part)(n n':Nat):Prop where
 inj:∀i j,p.K i->p.K j->p.κ i=p.κ j->i=j
 dom:∀i,p.K i->i<n
 ran:∀i,p.K i->p.κ i<n'
 low:∀g,g<=Q.globals.size->p.K g/\p.κ g=g
open Classical in
noncomputable def Part.far(p:Part)(n' t:Nat)(i:Nat):Nat:=if p.K i then p.κ i else n'+t+i
def bL{Q p n c}(h:iA Q p n c)(t):Ag p (p.far c t):=by
 refine⟨λi j e=> ?_,λi a=>by simp_all[Part.far]⟩;unfold Part.far at e;split at e;rename_i a;split at e<;>first |(rename_i b;exact h.inj i j a b e)|(have:=h.ran i a;omega)
 split at e;rename_i b;have:=h.ran j b;omega;omega
theorem tI{p:Part}{a t i}(h:¬ p.K i):p.far a t i=a+t+i:=by simp_all[Part.far]
variable[aD]
structure mS(Q:AI)(U:Nat->Option Code)(dt:bM)(cl:Bool):Prop where
 apt:lf Q U
 nf:G3 Q U
 prog:th Q U dt cl
 zero:∀O,l4 Q O
 tame:bz (alt Q U)
structure Side(Q:AI)(U:Nat->Option Code)(D0:Sx)(dt:bM)(cl:Bool)(Ro:Nat->Prop)(os:Os)(rest:List Sx)(p:Part)(g:T6)(w:Sz)(g':T6)(w':Sz):Prop where
 part:iA Q p w.heap.size w'.heap.size
 gok:uD Q D0 dt cl g
 iv:Iv g w
 ro:pz Ro w
 relG:∀O,Ag p O->mQ O rest g g'
 relW:∀O,Ag p O->eo O Ro ⟨p.K,os⟩ (ah w w'.tape w'.drawn) w'
section
variable{Q:AI}{U:Nat->Option Code}{D0:Sx}{dt:bM}{cl:Bool}{Ro:Nat->Prop}{os:Os}{rest:List Sx}{p:Part}{g g':T6}{w w':Sz}
def mS.env(E:mS Q U dt cl){n d}(b:iA Q p n d){a}(h:Ag p a):Env Q U a dt cl:=
 ⟨E.apt,E.nf,E.prog,⟨E.zero a,λg c=>(h.2 g (b.low g c).1).trans (b.low g c).2,h.1⟩,E.tame⟩
def sQ(s:iA Q p w.heap.size w'.heap.size)(m:∀j,Ag p j->eo j Ro ⟨p.K,os⟩ (ah w w'.tape w'.drawn) w'){i o}(r:w.heap[i]?=some o)(q:jv o):p.K i:=by
 refine Uv λn=> ?_
 have b:=(m _ (bL s 0)).blk i o r;have d:w'.heap[p.far w'.heap.size 0 i]?=none:=by
  simp[tI n]
 rw[d]at b;cases o;case cells c e f=>
  by_cases k:Ro i;have⟨t,h,_⟩:=(b.1 k).2;cases h;cases b.2 k
 case number a l=>cases b
 all_goals exact q.elim
def pW(e:iA Q p w.heap.size w'.heap.size)(b:∀a,Ag p a->eo a Ro ⟨p.K,os⟩ (ah w w'.tape w'.drawn) w'){i}(h:aJ w i):p.K i:=by
 have⟨c,t,f,d⟩:=h;exact sQ e b d trivial
def Side.cells(S:Side Q U D0 dt cl Ro os rest p g w g' w'){i}(h:aJ w i):p.K i:=pW S.part S.relW h
def Side.knows(S:Side Q U D0 dt cl Ro os rest p g w g' w'):IQ Q ⟨p.K,os⟩ g.frame:=by
 have d:∀v∈g.frame.tmps,ab (p.far w'.heap.size 0) v=ab (p.far w'.heap.size 1) v:=λv b=>by
  have e:g.frame.tmps.map (ab (p.far w'.heap.size 0))=g.frame.tmps.map (ab (p.far w'.heap.size 1)):=congrArg Frame.tmps (((S.relG _ (bL S.part 0)).frame).symm.trans (S.relG _ (bL S.part 1)).frame);simp_all
 have h:∀i,p.far w'.heap.size 0 i=p.far w'.heap.size 1 i->p.K i:=λi e=>by
  grind [tI]
 refine⟨λv b=>⟨λa e=> ?_,λa l c e=> ?_⟩,λg f=>(S.part.low g f).1⟩<;>(have:=d v b;simp[e]at this;exact h _ (congrArg Addr.block this))
structure Oe(κ:Nat->Nat)(Ro:Nat->Prop)(w1:Sz)(e:T0):Prop where
 cell:∀a',e.loc=TE a'->∃i,a'.block=κ i/\aJ w1 i/\(e.write=true->¬ Ro i)
 obj:∀r,e.loc=Ur r->e.write=false
 mark:∀m,e.loc=TP m->Meek m/\e.write=false/\e.sync=true
structure Grown(p p':Part)(n n' n1 n1':Nat):Prop where
 old:∀i,p.K i->p'.K i/\p'.κ i=p.κ i
 new:∀i,p'.K i->p.K i\/(n<=i/\n'<=p'.κ i)
 le:n<=n1
 le':n'<=n1'
structure Eff(p p':Part)(Ro:Nat->Prop)(w w' w1 w1':Sz)(es':Array T0):Prop where
 grown:Grown p p' w.heap.size w'.heap.size w1.heap.size w1'.heap.size
 frame:∀b,b<w'.heap.size->w1'.heap[b]?≠w'.heap[b]?->∃i,p'.κ i=b/\aJ w1 i/\¬ Ro i
 events:∀e∈es',Oe p'.κ Ro w1 e
 output:w1'.output=w'.output
 os:w1'.os=w'.os
 kinds:∀(i:Nat)(o:Obj),w1.heap[i]?=some o->gV w i o
def vX{m r K q d}(h:eo r Ro ⟨K,os⟩ q d)(s:∀i,K i->m i)(t:∀i o,q.heap[i]?=some o->m i->jv o\/K i):eo r Ro ⟨m,os⟩ q d:=by
 refine⟨h.inj,h.tape,h.drawn,h.ro,λi o j=> ?_,λi a l j=>s _ (h.num i a l j),h.os⟩;have b:=h.blk i o j;cases o;case cells c e f=>exact b
 case number a l=>exact b
 case pending=>exact b.elim
 case view=>exact b.elim
 all_goals
  intro k;rcases t i _ j k with n|n
  exact n.elim;exact b n
open Classical in
noncomputable def Part.grow(p:Part)(n n' n1:Nat):Part:=⟨λi=>p.K i\/(n<=i/\i<n1),λi=>if i<n then p.κ i else n'+(i-n)⟩
def xX{n c f n1'}(h:iA Q p n c)(m:n<=f)(hs:n1'+n=c+f):iA Q (p.grow n c f) f n1':=by
 have b:∀i,p.K i->(p.grow n c f).κ i=p.κ i:=λi a=>by
  show(if i<n then p.κ i else c+(i-n))=_;rw[if_pos (h.dom i a)]
 have k:∀i,n<=i->(p.grow n c f).κ i=c+(i-n):=λi a=>by
  show(if i<n then p.κ i else c+(i-n))=_;rw[if_neg (by omega)]
 refine⟨λi j a d e=> ?_,λi a=> ?_,λi a=> ?_,λg l=>⟨.inl (h.low g l).1,(b g (h.low g l).1).trans (h.low g l).2⟩⟩;rcases a with a|a<;>rcases d with d|d
 rw[b i a,b j d]at e;exact h.inj i j a d e;rw[b i a,k j d.1]at e;have:=h.ran i a;omega;rw[k i a.1,b j d]at e;have:=h.ran j d;omega;grind
 rcases a with a|a
 have:=h.dom i a;omega;omega;rcases a with a|a
 rw[b i a];have:=h.ran i a;omega;grind
def wL{n b d c}(h:iA Q p n b)(e:n<=d)(hs:c+n=b+d):Grown p (p.grow n b d) n b d c:=by
 refine⟨λi a=>⟨.inl a,?_⟩,λi a=> ?_,e,by omega⟩;show(if i<n then p.κ i else b+(i-n))=_;rw[if_pos (h.dom i a)];rcases a with a|a<;>first |exact .inl a|(refine .inr ⟨a.1,?_⟩;show b<=if i<n then p.κ i else b+(i-n);rw[if_neg (by omega)];omega)
def KR(Q:AI)(U:Nat->Option Code)(D0:Sx)(dt:bM)(cl:Bool)(Ro:Nat->Prop)(os:Os)(rest:List Sx)(p:Part)(w w':Sz)(x k:GStep):Prop:=
 (∃h e i d a b f,x=Te h e i/\k=Te d a b/\Side Q U D0 dt cl Ro os rest f h e d a/\Eff p f Ro w w' e a b/\¬ Big x.es)\/
 (∃h c j e i d l a b f,x= .comm h #[c] true j e i/\k= .comm d #[l] true j a b/\qB cl #[c] true j/\lZ dt h.frame/\Side Q U D0 dt cl Ro os rest f h e d a/\(∀m,Ag f m->l=jS m c)/\Eff p f Ro w w' e a b/\¬ Big x.es)\/
 (∃g w i,x=Te g w i/\qc Q U g/\¬ Big x.es)\/(cl=false/\Big x.es/\Big k.es)\/(tP D0 x/\¬ Big x.es)
def oP(hD0:C9 D0)(E:mS Q U dt cl)(S:Side Q U D0 dt cl Ro os rest p g w g' w')(m')(hnc:¬ AtClose g):
 KR Q U D0 dt cl Ro os rest p w w' (stepG (alt Q U) true g (ah w w'.tape w'.drawn)) (stepG Q m' g' w'):=by
 have hIv:Iv g (ah w w'.tape w'.drawn):=fE S.iv ..;have⟨x,hx⟩:∃x,x=stepG (alt Q U) true g (ah w w'.tape w'.drawn):=⟨_,rfl⟩;have v:∀M p',p'=p.grow w.heap.size w'.heap.size M->(stepW x).heap.size<=M->∀f,Ag p' f->eh Q U f Ro ⟨p.K,os⟩ dt cl D0 rest (ah w w'.tape w'.drawn) w' x (stepG Q m' g' w'):=λM p' hp' hn f k=>by
  subst hp';have Z:Ag p f:=⟨k.1,λi s=>by
   rw[k.2 i (.inl s)];show(if i<w.heap.size then p.κ i else w'.heap.size+(i-w.heap.size))=_;rw[if_pos (S.part.dom i s)]⟩
  rw[hx];refine Gk hD0 (E.env S.part Z) true m' (S.relG f Z) S.gok S.knows hIv.1 hnc (S.relW f Z) (λi s=>S.part.dom i s) S.ro ?_;intro j hj;rw[<- hx]at hj;have hj':w.heap.size+j<(stepW x).heap.size:=hj;have:=k.2 (w.heap.size+j) (.inr ⟨by omega,by omega⟩);show f (w.heap.size+j)=w'.heap.size+j;rw[this];show(if w.heap.size+j<w.heap.size then _ else _)=_;rw[if_neg (by omega)];omega
 rw[<- hx];by_cases C:∃g w X,x=Te g w X/\qc Q U g/\¬ Big x.es
 .exact .inr (.inr (.inl C))
 by_cases I:cl=false/\Big x.es/\Big (stepG Q m' g' w').es
 .exact .inr (.inr (.inr (.inl I)))
 by_cases G:tP D0 x/\¬ Big x.es
 .exact .inr (.inr (.inr (.inr G)))
 have hmain:∀M,(stepW x).heap.size<=M->∀f,Ag (p.grow w.heap.size w'.heap.size M) f->_:=λM hn f k=>v M _ rfl hn f k
 have hle:w.heap.size<=max w.heap.size (stepW x).heap.size:=Nat.le_max_left ..;have q:=xX S.part hle (n1':=w'.heap.size+(max w.heap.size (stepW x).heap.size-w.heap.size)) (by omega);rcases v _ _ rfl (Nat.le_max_right w.heap.size (stepW x).heap.size) _ (bL q 0)with⟨L,l,X,F,m,B,e1,e2,T,R,d,N⟩|⟨L,cs,bl,sh,l,X,F,m,B,e1,e2,hC,T,R,hFin,d,N⟩|h|h|h
 .
  subst e1;have u:w.heap.size<=l.heap.size:=d.le;have hmx:max w.heap.size (stepW (Te L l X)).heap.size=l.heap.size:=Nat.max_eq_right u;rw[hmx]at q T d;have r:∀f,Ag (p.grow w.heap.size w'.heap.size l.heap.size) f->mQ f rest L F/\gR f Ro ⟨p.K,os⟩ (ah w w'.tape w'.drawn) w' l m B:=λf k=>by
   rcases v _ _ rfl (Sw _) f k with⟨a1,a2,a3,b1,b2,b3,f1,f2,k1,k2,k3,_⟩|⟨a1,a2,a3,a4,a5,a6,b1,b2,b3,f1,_⟩|h|h|h<;>grind
  have D:m.heap.size+w.heap.size=w'.heap.size+l.heap.size:=d.size;have z:=xX S.part u D;have A:∀f,Ag (p.grow w.heap.size w'.heap.size l.heap.size) f->eo f Ro ⟨(p.grow w.heap.size w'.heap.size l.heap.size).K,os⟩ (ah l m.tape m.drawn) m:=λf k=>by
   have t:=(r f k).2.rel;rw[t.tape,t.drawn,AM];refine vX t (λi s=>.inl s) λi o ho H=> ?_
   rcases d.kinds i o ho with⟨_,h⟩|⟨_,_,_,_,rfl⟩|h
   exact .inl h;exact .inl trivial;rcases H with H|H
   exact .inr H;simp_all
  have n:∀i,aJ l i->(p.grow w.heap.size w'.heap.size l.heap.size).K i:=λi s=>pW z A s
  refine .inl ⟨L,l,X,F,m,B,p.grow w.heap.size w'.heap.size l.heap.size,rfl,e2,⟨z,R,nI E.tame hIv (.go hx.symm),d.ro,λf k=>(r f k).1,A⟩,⟨wL S.part u D,λb hb W=> ?_,λe P=>⟨λa' ha=> ?_,(d.events e P).obj,(d.events e P).mark⟩,d.output,d.rel.os.2.trans (S.relW _ (bL S.part 0)).os.2.symm,d.kinds⟩,N⟩<;>first |(have⟨i,s,y,t⟩:=d.frame b hb W;refine⟨i,?_,y,t⟩;rw[<- s,(bL q 0).2 i (n i y)])|(obtain⟨a,rfl,y,t⟩:=(d.events e P).cell a' ha;exact⟨a.block,(bL q 0).2 _ (n _ y),y,t⟩)
 .
  obtain⟨rfl,c,rfl,hc0⟩:=hC;subst e1;have u:w.heap.size<=l.heap.size:=d.le;have hmx:max w.heap.size (stepW (.comm L #[c] true sh l X)).heap.size=l.heap.size:=Nat.max_eq_right u;rw[hmx]at q T d e2;have r:∀f,Ag (p.grow w.heap.size w'.heap.size l.heap.size) f->mQ f rest L F/\gR f Ro ⟨p.K,os⟩ (ah w w'.tape w'.drawn) w' l m B/\jS ((p.grow w.heap.size w'.heap.size l.heap.size).far (w'.heap.size+(l.heap.size-w.heap.size)) 0) c=jS f c:=λf k=>by
   rcases v _ _ rfl (Sw _) f k with⟨a1,a2,a3,b1,b2,b3,f1,_⟩|⟨a1,a2,a3,a4,a5,a6,b1,b2,b3,f1,f2,f3,k1,k2,_,k3,_⟩|h|h|h<;>grind
  have D:m.heap.size+w.heap.size=w'.heap.size+l.heap.size:=d.size;have z:=xX S.part u D;have A:∀f,Ag (p.grow w.heap.size w'.heap.size l.heap.size) f->eo f Ro ⟨(p.grow w.heap.size w'.heap.size l.heap.size).K,os⟩ (ah l m.tape m.drawn) m:=λf k=>by
   have t:=(r f k).2.1.rel;rw[t.tape,t.drawn,AM];refine vX t (λi s=>.inl s) λi o ho H=> ?_
   rcases d.kinds i o ho with⟨_,h⟩|⟨_,_,_,_,rfl⟩|h<;>first |exact .inl h|exact .inl trivial|rcases H with H|H<;>first |exact .inr H|(have h2:w.heap[i]?=some o:=h;have:=(SR.1 h2).1;omega)
  have hI1:Iv L l:=by
   rcases ou E.tame hIv with⟨_,_,_,e,_⟩|⟨_,_,_,_,_,_,e,⟨e3,_⟩,_⟩|⟨_,_,_,e⟩
   rw[<- hx]at e;cases e;rw[<- hx]at e;cases e;omega;simp_all
  have n:∀i,aJ l i->(p.grow w.heap.size w'.heap.size l.heap.size).K i:=λi s=>pW z A s
  rw[UE,Tr,List.map_nil]at e2;refine .inr (.inl ⟨L,c,sh,l,X,F,_,m,B,p.grow w.heap.size w'.heap.size l.heap.size,rfl,e2,⟨rfl,c,rfl,hc0⟩,hFin,⟨z,R,hI1,d.ro,λf k=>(r f k).1,A⟩,λf k=>(r f k).2.2,⟨wL S.part u D,λb hb W=> ?_,λe P=>⟨λa' ha=> ?_,(d.events e P).obj,(d.events e P).mark⟩,d.output,d.rel.os.2.trans (S.relW _ (bL S.part 0)).os.2.symm,d.kinds⟩,N⟩)<;>first |(have⟨i,s,y,t⟩:=d.frame b hb W;refine⟨i,?_,y,t⟩;rw[<- s,(bL q 0).2 i (n i y)])|(obtain⟨a,rfl,y,t⟩:=(d.events e P).cell a' ha;exact⟨a.block,(bL q 0).2 _ (n _ y),y,t⟩)
 .exact absurd h C
 .exact absurd h I
 .exact absurd h G
end
end
end Go.Proofs.YtkgohmcmmcpigabGreatDoor
