/- A part of the proof that Within holds; no condition. -/
import GoSem.Step
import Derived.StepT
import Derived.Laws.Sem
import Derived.Conc.Deaf
import Derived.Control
set_option linter.unusedSectionVars false
set_option linter.unusedSimpArgs false
set_option linter.unusedVariables false
set_option maxHeartbeats 4000000
namespace Go.Proofs.YtkgohmcmmcpigaaGreatDoor
open Go
open Go.Sem renaming runT->up,bind->OF,runT_fst->Sz
open Go renaming Program->x5,World->AS,callDeferred->BY,runtimePanic->SH,execOp->SQ
open _root_.Nat renaming add_assoc->AI,le_refl->Sv
open _root_.Option renaming elim->AT
open _root_.Array renaming mapM_eq_mapM_toList->By
open Go.Instr renaming endRound->If,takeDeferred->IN,enterLoop->IT,deferInRound->No,endLoop->Sx,beginRound->Sy,getLoop->SL,makeInterface->SN,sliceBounds->SV,yield->SX,typeAssert->SY,sliceBound->SZ,buildSlice->T0,mapUpdate->T3,sureAddr->T8,makeFunc->T9
open _root_.Bool renaming false_eq_true->IS,not_true->SM
open _root_.List renaming mapM_cons->Su,mapM_nil->SF,mem_cons_self->SP
open Go.GStep renaming after->Sw
open Go.Builtin renaming printMarked->SC,unsafeAdd_->SR,holdsCells->SS,firstCells->SU,mayShare->T2,append_->T7,close_->Tb,lenOf->Tl,copy_->Tm,min_->Tw,min2->Tx,len_->Ty
open Go.World renaming farStore->SD,freeze->SG,viewStore->SI
open Go.Kernel renaming perform->SE
open Go.Extern renaming find->SJ,findNext->T5
open Go.Question renaming early->SK
open Go.Result renaming ok->SO
open Go.Conv renaming floatToFloat->SW,floatToInt->T6
open Go.Deferred renaming ofValue->T1
section
theorem zq0:(∀(α:Type)(l:List α)(i:Nat)(v:α),l.toArray.setIfInBounds i v=(l.set i v).toArray)/\(∀(α:Type)(x y:α)(l:List α),(x::l).set 0 y=y::l)/\(∀(α:Type)(x y:α)(l:List α)(i:Nat),(x::l).set (i+1) y=x::l.set i y):=⟨λ_ l i v=>by simp,λ_ _ _ _=>rfl,λ_ _ _ _ _=>rfl⟩
theorem zq1 {α:Type}:(∀(x:α)(l:List α)(i:Nat),(x::l).drop (i+1)=l.drop i)/\(∀(l:List α),l.drop 0=l)/\(∀(x:α)(l:List α)(i:Nat),(x::l).take (i+1)=x::l.take i)/\(∀(l:List α),l.take 0=[]):=⟨λ_ _ _=>rfl,λ_=>rfl,λ_ _ _=>rfl,λ_=>rfl⟩
abbrev zq2.{u}:=@inferInstance.{u}
theorem xJ{α β γ}(s:Sem α)(f)(g:β->Sem γ):(s.bind f).bind g=s.bind λa=>(f a).bind g:=by
 induction s<;>simp[OF, *]
theorem zl{α}(s:Sem α):s.bind Sem.pure=s:=by
 induction s<;>simp[OF, *]
instance OG:LawfulMonad Sem:=LawfulMonad.mk' Sem (λx=>zl x) (λ_ _=>rfl) λx f g=>xJ x f g
def swap(Q:x5)(φ:Nat->Func->Func):x5:= {Q with funcs:=Q.funcs.mapIdx φ}
section
variable{Q:x5}{φ:Nat->Func->Func}
theorem iV:(swap Q φ).toTables=Q.toTables:=rfl
theorem qL:(swap Q φ).underlying=Q.underlying:=rfl
theorem uH:(swap Q φ).depth=Q.depth:=rfl
theorem Ja:(swap Q φ).cellsOf=Q.cellsOf:=rfl
theorem Jb:(swap Q φ).bytesOf=Q.bytesOf:=rfl
theorem zX:(swap Q φ).underlyingId=Q.underlyingId:=rfl
theorem uI:(swap Q φ).alikeButTags=Q.alikeButTags:=by
 funext d;induction d with
 |zero=>rfl
 |succ d ih=>simp[Program.alikeButTags,ih]<;>try rfl
theorem Gg:(swap Q φ).ownRow=Q.ownRow:=by
 rfl
theorem nS:(swap Q φ).stoodInAs=Q.stoodInAs:=by
 funext t;simp[uI,uH,iV,qL,zX,Program.stoodInAs]
theorem Es:(swap Q φ).stoodIn=Q.stoodIn:=by
 funext t;simp[nS,Program.stoodIn]
theorem gL:(swap Q φ).stoodInHeld=Q.stoodInHeld:=by
 funext t;simp[iV,nS,Program.stoodInHeld]
theorem ub:(swap Q φ).packedAs=Q.packedAs:=by
 funext t;simp[uI,uH,iV,qL,Gg,zX,Program.packedAs]
theorem me:(swap Q φ).packed=Q.packed:=by
 funext t;simp[ub,Program.packed]
theorem LH:(swap Q φ).heldOrPacked=Q.heldOrPacked:=by
 funext t;simp[me,gL,Program.heldOrPacked]
theorem Jc:(swap Q φ).bearsPack=Q.bearsPack:=by
 rfl
theorem Gi:typeHandle (swap Q φ)=typeHandle Q:=rfl
theorem zd:handleType (swap Q φ)=handleType Q:=rfl
theorem Na:finalizerTable (swap Q φ)=finalizerTable Q:=rfl
theorem A5:printLock (swap Q φ)=printLock Q:=rfl
theorem J9:cleanupTable (swap Q φ)=cleanupTable Q:=rfl
theorem my:byteOfCell (swap Q φ)=byteOfCell Q:=by
 funext d;induction d with
 |zero=>rfl
 |succ d ih=>simp only[byteOfCell,ih]<;>try rfl
theorem qj:cellHolding (swap Q φ)=cellHolding Q:=by
 funext d;induction d with
 |zero=>rfl
 |succ d ih=>simp only[cellHolding,ih]<;>try rfl
theorem sr:plainCell (swap Q φ)=plainCell Q:=by
 funext d;induction d with
 |zero=>rfl
 |succ d ih=>simp only[plainCell,ih]<;>try rfl
theorem zY:tight (swap Q φ)=tight Q:=by
 funext d;induction d with
 |zero=>rfl
 |succ d ih=>simp[tight,ih]<;>try rfl
theorem sq:seenCells (swap Q φ)=seenCells Q:=by
 funext c e d;induction d with
 |zero=>rfl
 |succ d ih=>simp[seenCells,ih,qj]<;>try rfl
theorem xr(w:AS):w.seen (swap Q φ)=w.seen Q:=by
 unfold World.seen;simp only[sq,sr,my]<;>try rfl
theorem ua(w:AS):w.viewLoad (swap Q φ)=w.viewLoad Q:=by
 unfold World.viewLoad;simp[xr]
theorem so(w:AS):w.viewStore (swap Q φ)=w.viewStore Q:=by
 unfold SI;simp[xr,zY]<;>try rfl
theorem vG(w:AS):w.farLoad (swap Q φ)=w.farLoad Q:=by
 funext a b;simp[ua,World.farLoad]
theorem uc(w:AS):w.farStore (swap Q φ)=w.farStore Q:=by
 funext a v b;simp[so,SD]
theorem vF:(swap Q φ).holdsStoodIn=Q.holdsStoodIn:=by
 funext d;induction d with
 |zero=>rfl
 |succ d ih=>simp[Program.holdsStoodIn,ih,gL]<;>try rfl
theorem xv:(swap Q φ).holdsPacked=Q.holdsPacked:=by
 funext d;induction d with
 |zero=>rfl
 |succ d ih=>simp[Program.holdsPacked,ih,me]<;>try rfl
theorem Ck:(swap Q φ).mayEmbedAPacks=Q.mayEmbedAPacks:=by
 rfl
theorem xu:(swap Q φ).namesPacked=Q.namesPacked:=by
 funext d;induction d with
 |zero=>rfl
 |succ d ih=>simp[Program.namesPacked,ih,me]<;>try rfl
theorem A6:(swap Q φ).methodsOfAPack=Q.methodsOfAPack:=by
 funext d;induction d with
 |zero=>rfl
 |succ d ih=>simp[Program.methodsOfAPack,ih,me]<;>try rfl
theorem rH:sameLayout (swap Q φ)=sameLayout Q:=by
 funext d;induction d with
 |zero=>rfl
 |succ d ih=>simp[sameLayout,ih,gL]<;>try rfl
theorem zZ:rowAt (swap Q φ)=rowAt Q:=by
 funext f d;induction d with
 |zero=>rfl
 |succ d ih=>simp[rowAt,ih,gL]<;>try rfl
theorem Gh:liesAt (swap Q φ)=liesAt Q:=by
 funext d;induction d with
 |zero=>rfl
 |succ d ih=>simp[liesAt,ih,zZ,rH]<;>try rfl
theorem rI:cellOfByte (swap Q φ)=cellOfByte Q:=by
 funext d;induction d with
 |zero=>rfl
 |succ d ih=>simp only[cellOfByte,ih]<;>try rfl
theorem xx:cellAtBytes (swap Q φ)=cellAtBytes Q:=by
 unfold cellAtBytes;simp only[rI,my]<;>try rfl
theorem xw:(swap Q φ).eqGuardType=Q.eqGuardType:=by
 funext d;induction d with
 |zero=>rfl
 |succ d ih=>simp[Program.eqGuardType,ih]<;>try rfl
theorem nU:(swap Q φ).toTables=Q.toTables/\(swap Q φ).underlying=Q.underlying/\(swap Q φ).depth=Q.depth/\(swap Q φ).cellsOf=Q.cellsOf/\(swap Q φ).bytesOf=Q.bytesOf/\(swap Q φ).underlyingId=Q.underlyingId/\(swap Q φ).alikeButTags=Q.alikeButTags/\(swap Q φ).ownRow=Q.ownRow/\(swap Q φ).stoodInAs=Q.stoodInAs/\(swap Q φ).stoodIn=Q.stoodIn/\(swap Q φ).stoodInHeld=Q.stoodInHeld/\(swap Q φ).packedAs=Q.packedAs/\(swap Q φ).packed=Q.packed/\(swap Q φ).heldOrPacked=Q.heldOrPacked/\(swap Q φ).bearsPack=Q.bearsPack/\typeHandle (swap Q φ)=typeHandle Q/\handleType (swap Q φ)=handleType Q/\finalizerTable (swap Q φ)=finalizerTable Q/\printLock (swap Q φ)=printLock Q/\cleanupTable (swap Q φ)=cleanupTable Q/\byteOfCell (swap Q φ)=byteOfCell Q/\cellHolding (swap Q φ)=cellHolding Q/\plainCell (swap Q φ)=plainCell Q/\tight (swap Q φ)=tight Q/\seenCells (swap Q φ)=seenCells Q/\(∀w:AS,w.seen (swap Q φ)=w.seen Q)/\(∀w:AS,w.viewLoad (swap Q φ)=w.viewLoad Q)/\(∀w:AS,w.viewStore (swap Q φ)=w.viewStore Q)/\(∀w:AS,w.farLoad (swap Q φ)=w.farLoad Q)/\(∀w:AS,w.farStore (swap Q φ)=w.farStore Q)/\(swap Q φ).holdsStoodIn=Q.holdsStoodIn/\(swap Q φ).holdsPacked=Q.holdsPacked/\(swap Q φ).mayEmbedAPacks=Q.mayEmbedAPacks/\(swap Q φ).namesPacked=Q.namesPacked/\(swap Q φ).methodsOfAPack=Q.methodsOfAPack/\sameLayout (swap Q φ)=sameLayout Q/\rowAt (swap Q φ)=rowAt Q/\liesAt (swap Q φ)=liesAt Q/\cellOfByte (swap Q φ)=cellOfByte Q/\cellAtBytes (swap Q φ)=cellAtBytes Q/\(swap Q φ).eqGuardType=Q.eqGuardType:=
 ⟨iV,qL,uH,Ja,Jb,zX,uI,Gg,nS,Es,gL,ub,me,LH,Jc,Gi,zd,Na,A5,J9,my,qj,sr,zY,sq,xr,ua,so,vG,uc,vF,xv,Ck,xu,A6,rH,zZ,Gh,rI,xx,xw⟩
end
def Same{α:Type}(Q:x5)(φ:Nat->Func->Func):Sem α->Prop
 | .pure _=>True
 | .halt _=>True
 | .load _ _ k=>∀v,Same Q φ (k v)
 | .store _ _ _ k=>Same Q φ k
 | .new _ k=>∀v,Same Q φ (k v)
 | .shape _ k=>∀v,Same Q φ (k v)
 | .freeze _ _ k=>Same Q φ k
 | .frozen _ k=>∀v,Same Q φ (k v)
 | .getObj _ k=>∀o,Same Q φ (k o)
 | .setObj _ _ k=>Same Q φ k
 | .choose _ k=>∀v,Same Q φ (k v)
 | .sys _ k=>∀v,Same Q φ (k v)
 | .program k=>k (swap Q φ)=k Q/\Same Q φ (k Q)
 | .mark _ k=>Same Q φ k
class Sm{α:Type}(Q:x5)(φ:Nat->Func->Func)(s:Sem α):Prop where
 sm:Same Q φ s
theorem yo{α β Q φ s}{f:α->Sem β}(hs:Same Q φ s)(hf:∀a,Same Q φ (f a)):Same Q φ (s.bind f):=by
 induction s with
 |pure a=>exact hf a
 |halt h=>trivial
 |load m a k ih=>exactλv=>ih v (hs v)
 |store m a v k ih=>exact ih hs
 |new o k ih=>exactλv=>ih v (hs v)
 |shape r k ih=>exactλv=>ih v (hs v)
 |freeze a n k ih=>exact ih hs
 |frozen a k ih=>exactλv=>ih v (hs v)
 |getObj r k ih=>exactλv=>ih v (hs v)
 |setObj r o k ih=>exact ih hs
 |choose q k ih=>exactλv=>ih v (hs v)
 |sys c k ih=>exactλv=>ih v (hs v)
 |program k ih=>exact⟨congrArg (OF · f) hs.1,ih Q hs.2⟩
 |mark m k ih=>exact ih hs
theorem yn{α Q φ}{s:Sem α}(hs:Same Q φ s):∀w es,s.runT (swap Q φ) w es=s.runT Q w es:=by
 induction s with
 |pure a=>exactλw es=>rfl
 |halt h=>exactλw es=>rfl
 |load m a k ih=>
  intro w es;simp only[up,vG];split
  .exact ih _ (hs _) _ _
  .split
   .exact ih _ (hs _) _ _
   rfl
 |store m a v k ih=>
  intro w es;cases v;all_goals simp only[up,uc]
  all_goals
   split
   .split
    .rfl
    .exact ih hs _ _
   .split
    .exact ih hs _ _
    .rfl
 |new o k ih=>exactλw es=>ih _ (hs _) _ _
 |shape r k ih=>exactλw es=>ih _ (hs _) _ _
 |freeze a n k ih=>exactλw es=>ih hs _ _
 |frozen a k ih=>exactλw es=>ih _ (hs _) _ _
 |getObj r k ih=>
  intro w es;simp only[up];split
  .rfl
  .exact ih _ (hs _) _ _
  rfl
 |setObj r o k ih=>
  intro w es;simp only[up];split
  .rfl
  .exact ih hs _ _
  rfl
 |choose q k ih=>
  intro w es;simp only[up];split
  .exact ih _ (hs _) _ _
  .exact ih _ (hs _) _ _
 |sys c k ih=>exactλw es=>ih _ (hs _) _ _
 |program k ih=>exactλw es=>by simp only[up,hs.1];exact ih Q hs.2 w es
 |mark m k ih=>exactλw es=>ih hs _ _
theorem Jr{α Q φ}{s:Sem α}(hs:Same Q φ s)(w):s.run (swap Q φ) w=s.run Q w:=by
 rw[<- Sz (swap Q φ) s w #[],<- Sz Q s w #[],yn hs]
theorem mZ{α Q φ}{f:x5->Sem α}(e:f (swap Q φ)=f Q)(h:Sm Q φ (f Q)):Sm Q φ (program>>=f):=⟨⟨e,h.sm⟩⟩
instance ji{α β Q φ s}{f:α->Sem β}[hs:Sm Q φ s][hf:∀a,Sm Q φ (f a)]:Sm Q φ (s>>=f):=⟨yo hs.sm λa=>(hf a).sm⟩
instance Q2{α Q φ a}:Sm Q φ (pure a:Sem α):=⟨trivial⟩
instance Q4{α Q φ h}:Sm Q φ (Sem.halt h:Sem α):=⟨trivial⟩
instance Ac{α Q φ c}[Decidable c]{x y:Sem α}[hx:Sm Q φ x][hy:Sm Q φ y]:Sm Q φ (if c then x else y):=by
 grind
instance Rw{α β Q φ s}{f:α->β}[hs:Sm Q φ s]:Sm Q φ (f<$>s):=⟨yo hs.sm λa=>trivial⟩
instance Cs{β γ:Type}{Q φ}{f:β->Sem γ}[h:∀a,Sm Q φ (f a)](xs:List β):Sm Q φ (xs.mapM f):=by
 induction xs with
 |nil=>rw[SF];exact zq2
 |cons x l ih=>rw[Su];exact zq2
instance Dy{β γ:Type}{Q φ}{f:β->Sem γ}[h:∀a,Sm Q φ (f a)](xs:Array β):Sm Q φ (xs.mapM f):=by
 rw[By];exact zq2
instance Rv(Q φ c):Sm Q φ (sys c):=⟨λ_=>trivial⟩
instance Q3(Q φ x):Sm Q φ (mark x):=⟨trivial⟩
instance LM{α}(Q φ u):Sm Q φ (unsupported u:Sem α):=⟨trivial⟩
instance Jf{α}(Q φ s):Sm Q φ (stuck s:Sem α):=⟨trivial⟩
section
def Dead:Halt->Prop
 | .waiting=>True
 | .blocked=>True
 | .stuck _=>True
 | .unsupported (.initOrder _)=>False
 | .unsupported _=>True
 |_=>False
def Pe:Target->Prop
 | .coroexit _=>False
 |_=>True
def oK(d:Deferred):Prop:=Pe d.target
class aD where
 ok:Op->Bool
 cm:Prop
 lim:Nat
 nogo:∀c,ok (.go c)=false
 send:∀c x,ok (.send c x)=true->cm
 recv:∀t c b,ok (.recv t c b)=true->cm
 select:∀c b,ok (.select c b)=true->cm
variable[aD]
def Lf(o:Op):Bool:=aD.ok o
def cT:Code->Bool
 | .region _ ops _=>ops.all λo=>Lf o.op
 | .seq a b=>cT a&&cT b
 | .cond _ a b=>cT a&&cT b
 | .block _ b=>cT b
 | .loop b=>cT b
 | .scope b=>cT b
 | .rangeFunc _ _ a b=>cT a&&cT b
 |_=>true
def Lv(l:Loop):Prop:=cT l.assign=true/\cT l.body=true/\∀c,l.pending=some c->cT c=true
def pE:Obj->Prop
 | .loop l=>Lv l
 | .deferred (some ds)=>∀d∈ds,oK d
 | .pending _ _=>False
 | .coro _=>False
 |_=>True
class rF(o:Obj):Prop where
 ok:pE o
instance(c e f):rF (.cells c e f):=⟨trivial⟩
instance(a t):rF (.view a t):=⟨trivial⟩
instance(e c):rF (.map e c):=⟨trivial⟩
instance(c b d s r t):rF (.chan c b d s r t):=⟨trivial⟩
instance(s p):rF (.stringIter s p):=⟨trivial⟩
instance(m s n x):rF (.mapIter m s n x):=⟨trivial⟩
instance:rF (.deferred none):=⟨trivial⟩
instance:rF (.deferred (some [])):=⟨λ_ h=>nomatch h⟩
def lO:Halt->Prop
 | .unsupported (.initOrder g)=>aD.lim<=g
 |_=>True
class NU(u:Unsupported):Prop where
 no:∀g,u≠.initOrder g
instance(s):NU (.extern s):=⟨λ_ h=>nomatch h⟩
instance(s):NU (.noEntry s):=⟨λ_ h=>nomatch h⟩
instance(s):NU (.unsafePointer s):=⟨λ_ h=>nomatch h⟩
instance(s):NU (.resourceLimit s):=⟨λ_ h=>nomatch h⟩
instance:NU .addressObserved:=⟨λ_ h=>nomatch h⟩
theorem yH{u}[hu:NU u]:lO (.unsupported u):=by
 cases u<;>first |trivial|exact absurd rfl (hu.no _)
def pF(o:Obj):Prop:=pE o\/(∃c t,o= .pending c t)\/∃c,o= .coro c
theorem pF.loop{r}(h:pF (.loop r)):Lv r:=by
 rcases h with h|⟨_,_,h⟩|⟨_,h⟩
 .exact h
 .cases h
 .cases h
theorem pF.ds{l}(h:pF (.deferred (some l))):∀d∈l,oK d:=by
 rcases h with h|⟨_,_,h⟩|⟨_,h⟩
 .exact h
 .cases h
 .cases h
def Cut{α:Type}(m:Bool)(k:Obj->Sem α):Prop:=(m=true/\∃h,k (.coro none)= .halt h/\Dead h)\/((∀l,k (.loop l)=k (.coro none))/\∀d,k (.deferred d)=k (.coro none))
theorem ve{α β m k}{f:α->Sem β}(h:Cut m k):Cut m λo=>(k o).bind f:=by
 rcases h with⟨hm,x,e,d⟩|⟨h1,h2⟩
 .exact .inl ⟨hm,x,(congrArg (λs=>OF s f) e).trans rfl,d⟩
 .exact .inr ⟨λl=>congrArg (λs=>OF s f) (h1 l),λd=>congrArg (λs=>OF s f) (h2 d)⟩
def cw{α:Type}(P:x5)(m n:Bool):Sem α->Prop
 | .pure _=>True
 | .halt h=>lO h
 | .load _ _ k=>∀v,cw P m n (k v)
 | .store _ _ _ k=>cw P m n k
 | .new o k=>pE o/\∀v,cw P m n (k v)
 | .shape _ k=>∀v,cw P m n (k v)
 | .freeze _ _ k=>cw P m n k
 | .frozen _ k=>∀v,cw P m n (k v)
 | .getObj _ k=>(∀o,pF o->cw P m n (k o))/\Cut m k
 | .setObj _ o k=>pE o/\cw P m n k
 | .choose _ k=>∀v,cw P m n (k v)
 | .sys _ k=>(∃h,k .wouldBlock= .halt h/\Dead h)/\∀v,cw P m n (k v)
 | .program k=>cw P m n (k P)
 | .mark x k=>(x= .noRoom->n=true)/\cw P m n k
abbrev l6{α:Type}(P:x5)(s:Sem α):Prop:=cw P true true s
class bU{α:Type}(P:x5)(m n:Bool)(s:Sem α):Prop where
 st:cw P m n s
abbrev St{α:Type}(P:x5)(s:Sem α):Prop:=bU P true true s
theorem ue{α β P m n s}{f:α->Sem β}(hs:cw P m n s)(hf:∀a,cw P m n (f a)):cw P m n (s.bind f):=by
 induction s with
 |pure a=>exact hf a
 |halt h=>exact hs
 |load m a k ih=>exactλv=>ih v (hs v)
 |store m a v k ih=>exact ih hs
 |new o k ih=>exact⟨hs.1,λv=>ih v (hs.2 v)⟩
 |shape r k ih=>exactλv=>ih v (hs v)
 |freeze a n k ih=>exact ih hs
 |frozen a k ih=>exactλv=>ih v (hs v)
 |getObj r k ih=>exact⟨λv hv=>ih v (hs.1 v hv),ve hs.2⟩
 |setObj r o k ih=>exact⟨hs.1,ih hs.2⟩
 |choose q k ih=>exactλv=>ih v (hs v)
 |sys c k ih=>exact⟨let⟨h,e,d⟩:=hs.1;⟨h,(congrArg (λx=>OF x f) e).trans rfl,d⟩,λv=>ih v (hs.2 v)⟩
 |program k ih=>exact ih P hs
 |mark m k ih=>exact⟨hs.1,ih hs.2⟩
instance aX{α β P m n s}{f:α->Sem β}[hs:bU P m n s][hf:∀a,bU P m n (f a)]:bU P m n (s>>=f):=⟨ue hs.st λa=>(hf a).st⟩
instance PY{α P m n a}:bU P m n (pure a:Sem α):=⟨trivial⟩
instance P3{α P m n}:bU P m n (Sem.halt .blocked:Sem α):=⟨trivial⟩
instance vI{α P m n c}[Decidable c]{x y:Sem α}[hx:bU P m n x][hy:bU P m n y]:bU P m n (if c then x else y):=by
 grind
instance Ru{α β P m n s}{f:α->β}[hs:bU P m n s]:bU P m n (f<$>s):=⟨ue hs.st λa=>trivial⟩
instance pL{β γ:Type}{P m n}{f:β->Sem γ}[h:∀a,bU P m n (f a)](xs:List β):bU P m n (xs.mapM f):=by
 induction xs with
 |nil=>rw[SF];exact zq2
 |cons x l ih=>rw[Su];exact zq2
instance Dt{β γ:Type}{P m n}{f:β->Sem γ}[h:∀a,bU P m n (f a)](xs:Array β):bU P m n (xs.mapM f):=by
 rw[By];exact zq2
instance OB(P){dy mk}:bU P dy mk program:=⟨trivial⟩
class zE(x:Mark):Prop where
 h:x≠.noRoom
instance(f):zE (.extern f):=⟨λh=>nomatch h⟩
instance:zE .disable:=⟨λh=>nomatch h⟩
instance:zE .enable:=⟨λh=>nomatch h⟩
instance Pm{m n}(P x)[h:zE x]:bU P m n (Go.mark x):=⟨⟨λe=>absurd e h.h,trivial⟩⟩
instance PZ{m}(P x):bU P m true (Go.mark x):=⟨⟨λ_=>rfl,trivial⟩⟩
instance LI{α}(P){dy mk}(u)[hu:NU u]:bU P dy mk (unsupported u:Sem α):=⟨yH⟩
instance qN{α}(P){dy mk}(x0):bU P dy mk (stuck x0:Sem α):=⟨trivial⟩
end
def jv:Obj->Prop
 | .cells _ _ _=>True
 | .number _ _=>True
 |_=>False
def Meek:Mark->Prop
 | .extern _=>True
 | .noRoom=>True
 |_=>False
def qA(h:Halt):Prop:=(∃v,h= .panic v)\/h= .goexit\/Dead h
def bE{α:Type}(P:x5):Sem α->Prop
 | .pure _=>True
 | .halt h=>qA h
 | .load _ _ k=>∀v,bE P (k v)
 | .store _ _ _ k=>bE P k
 | .new o k=>jv o/\∀v,bE P (k v)
 | .shape _ k=>∀v,bE P (k v)
 | .freeze _ _ k=>False
 | .frozen _ k=>∀v,bE P (k v)
 | .getObj _ k=>∀o,bE P (k o)
 | .setObj _ o k=>False
 | .choose _ k=>∀v,bE P (k v)
 | .sys _ k=>∀v,bE P (k v)
 | .program k=>bE P (k P)
 | .mark m k=>Meek m/\bE P k
class Nf{α:Type}(P:x5)(s:Sem α):Prop where
 nf:bE P s
theorem rQ{α β P s}{f:α->Sem β}(hs:bE P s)(hf:∀a,bE P (f a)):bE P (s.bind f):=by
 induction s with
 |pure a=>exact hf a
 |halt h=>exact hs
 |load m a k ih=>exactλv=>ih v (hs v)
 |store m a v k ih=>exact ih hs
 |new o k ih=>exact⟨hs.1,λv=>ih v (hs.2 v)⟩
 |shape r k ih=>exactλv=>ih v (hs v)
 |freeze a n k ih=>exact hs.elim
 |frozen a k ih=>exactλv=>ih v (hs v)
 |getObj r k ih=>exactλv=>ih v (hs v)
 |setObj r o k ih=>exact hs.elim
 |choose q k ih=>exactλv=>ih v (hs v)
 |sys c k ih=>exactλv=>ih v (hs v)
 |program k ih=>exact ih P hs
 |mark m k ih=>exact⟨hs.1,ih hs.2⟩
instance dl{α β P s}{f:α->Sem β}[hs:Nf P s][hf:∀a,Nf P (f a)]:Nf P (s>>=f):=⟨rQ hs.nf λa=>(hf a).nf⟩
instance fQ{α P a}:Nf P (pure a:Sem α):=⟨trivial⟩
theorem Io{u}[hu:NU u]:Dead (.unsupported u):=by
 cases u<;>first |trivial|exact absurd rfl (hu.no _)
instance Nx{α P c}[Decidable c]{x y:Sem α}[hx:Nf P x][hy:Nf P y]:Nf P (if c then x else y):=by
 grind
instance Nw{α β P s}{f:α->β}[hs:Nf P s]:Nf P (f<$>s):=⟨rQ hs.nf λa=>trivial⟩
class Ss(o:Obj):Prop where
 ok:jv o
instance Ba(P f):Nf P (mark (.extern f)):=⟨trivial,trivial⟩
instance Oq(P):Nf P program:=⟨trivial⟩
instance Mj{α}(P u)[hu:NU u]:Nf P (unsupported u:Sem α):=⟨.inr (.inr Io)⟩
instance Ps{α}(P m):Nf P (stuck m:Sem α):=⟨.inr (.inr trivial)⟩
instance Ot{β γ:Type}{P}{f:β->Sem γ}[h:∀a,Nf P (f a)](xs:List β):Nf P (xs.mapM f):=by
 induction xs with
 |nil=>exact fQ
 |cons x l ih=>rw[Su];exact @dl _ _ _ _ _ (h x) λa=> @dl _ _ _ _ _ ih λl=>fQ
instance Mk{β γ:Type}{P}{f:β->Sem γ}[h:∀a,Nf P (f a)](xs:Array β):Nf P (xs.mapM f):=by
 rw[By];exact Nw
def C5:Halt->Prop
 | .blocked=>True
 | .waiting=>True
 | .stuck _=>True
 | .unsupported _=>True
 |_=>False
def ia{α:Type}(P:x5)(n:Nat):Sem α->Prop
 | .pure _=>n=0
 | .halt h=>n=0\/C5 h
 | .load _ _ k=>∀v,ia P n (k v)
 | .store _ _ _ k=>ia P n k
 | .new _ k=>∀v,ia P n (k v)
 | .shape _ k=>∀v,ia P n (k v)
 | .freeze _ _ k=>ia P n k
 | .frozen _ k=>∀v,ia P n (k v)
 | .getObj _ k=>∀o,ia P n (k o)
 | .setObj _ _ k=>ia P n k
 | .choose _ k=>∀v,ia P n (k v)
 | .sys _ k=>∀v,ia P n (k v)
 | .program k=>ia P n (k P)
 | .mark .disable k=>ia P (n+1) k
 | .mark .enable k=>0<n/\ia P (n-1) k
 | .mark _ k=>ia P n k
class Hu{α:Type}(P:x5)(s:Sem α):Prop where
 hu:ia P 0 s
theorem Bm{α β P s}{f:α->Sem β}(hf:∀a,ia P 0 (f a)):∀n,ia P n s->ia P n (s.bind f):=by
 induction s with
 |pure a=>intro n hs;cases hs;exact hf a
 |halt h=>exactλn hs=>hs
 |load m a k ih=>exactλn hs v=>ih v n (hs v)
 |store m a v k ih=>exactλn hs=>ih n hs
 |new o k ih=>exactλn hs v=>ih v n (hs v)
 |shape r k ih=>exactλn hs v=>ih v n (hs v)
 |freeze a c k ih=>exactλn hs=>ih n hs
 |frozen a k ih=>exactλn hs v=>ih v n (hs v)
 |getObj r k ih=>exactλn hs v=>ih v n (hs v)
 |setObj r o k ih=>exactλn hs=>ih n hs
 |choose q k ih=>exactλn hs v=>ih v n (hs v)
 |sys c k ih=>exactλn hs v=>ih v n (hs v)
 |program k ih=>exactλn hs=>ih P n hs
 |mark m k ih=>
  intro n hs;cases m;case disable=>exact ih (n+1) hs
  case enable=>exact⟨hs.1,ih (n-1) hs.2⟩
  all_goals exact ih n hs
instance Mu{α β P s}{f:α->Sem β}[hs:Hu P s][hf:∀a,Hu P (f a)]:Hu P (s>>=f):=⟨Bm (λa=>(hf a).hu) 0 hs.hu⟩
theorem d9{α β P s}{f:α->Sem β}(hs:Hu P s)(hf:∀a,Hu P (f a)):Hu P (s>>=f):=Mu
instance Q6{α P a}:Hu P (pure a:Sem α):=⟨rfl⟩
instance NJ{α P c}[Decidable c]{x y:Sem α}[hx:Hu P x][hy:Hu P y]:Hu P (if c then x else y):=by
 grind
instance Ry{α β P s}{f:α->β}[hs:Hu P s]:Hu P (f<$>s):=⟨Bm (f:=λa=>Sem.pure (f a)) (λa=>rfl) 0 hs.hu⟩
instance Q5(P c):Hu P (sys c):=⟨λ_=>rfl⟩
class Ed(x:Mark):Prop where
 h1:x≠.disable
 h2:x≠.enable
instance(f):Ed (.extern f):=⟨(λh=>nomatch h),λh=>nomatch h⟩
instance Pw(P x)[h:Ed x]:Hu P (Go.mark x):=⟨by
 cases x;case disable=>exact absurd rfl h.h1
 case enable=>exact absurd rfl h.h2
 all_goals exact rfl⟩
theorem js{α P c}[Decidable c]{x y:Sem α}(hx:Hu P x)(hy:Hu P y):Hu P (if c then x else y):=NJ
instance Ou{β γ:Type}{P}{f:β->Sem γ}[h:∀a,Hu P (f a)](xs:List β):Hu P (xs.mapM f):=by
 induction xs with
 |nil=>rw[SF];exact zq2
 |cons x l ih=>rw[Su];exact zq2
instance Mt{β γ:Type}{P}{f:β->Sem γ}[h:∀a,Hu P (f a)](xs:Array β):Hu P (xs.mapM f):=by
 rw[By];exact zq2
instance OS(P):Hu P program:=⟨rfl⟩
instance Ms{α}(P u):Hu P (unsupported u:Sem α):=⟨.inl rfl⟩
instance K8{α}(P s):Hu P (stuck s:Sem α):=⟨.inl rfl⟩
section
variable[aD]
def iO{α:Type}(Q:x5)(φ:Nat->Func->Func)(g m n z d:Bool):Sem α->Prop
 | .pure _=>True
 | .halt h=>lO h/\(z=false->qA h)
 | .load _ _ k=>∀v,iO Q φ g m n z d (k v)
 | .store _ _ _ k=>iO Q φ g m n z d k
 | .new o k=>((g=true->pE o)/\(z=false->jv o))/\∀v,iO Q φ g m n z d (k v)
 | .shape _ k=>∀v,iO Q φ g m n z d (k v)
 | .freeze _ _ k=>z=true/\iO Q φ g m n z d k
 | .frozen _ k=>∀v,iO Q φ g m n z d (k v)
 | .getObj _ k=>(∀o,(g=true->pF o)->iO Q φ g m n z d (k o))/\Cut m k
 | .setObj _ o k=>(z=true/\(g=true->pE o))/\iO Q φ g m n z d k
 | .choose _ k=>∀v,iO Q φ g m n z d (k v)
 | .sys _ k=>(∃h,k .wouldBlock= .halt h/\Dead h)/\∀v,iO Q φ g m n z d (k v)
 | .program k=>k (swap Q φ)=k Q/\iO Q φ g m n z d (k Q)
 | .mark x k=>((x= .noRoom->n=true)/\(d=true->x≠.disable/\x≠.enable)/\(z=false->Meek x))/\iO Q φ g m n z d k
class Al{α:Type}(Q:x5)(φ:Nat->Func->Func)(g m n z d:Bool)(s:Sem α):Prop where
 al:iO Q φ g m n z d s
section
variable{Q:x5}{φ:Nat->Func->Func}{g m n z d:Bool}
theorem yY{α β s}{f:α->Sem β}(hs:iO Q φ g m n z d s)(hf:∀a,iO Q φ g m n z d (f a)):iO Q φ g m n z d (s.bind f):=by
 induction s with
 |pure a=>exact hf a
 |halt h=>exact hs
 |load _ _ k ih|shape _ k ih|frozen _ k ih|choose _ k ih=>exactλv=>ih v (hs v)
 |store _ _ _ k ih=>exact ih hs
 |new o k ih=>exact⟨hs.1,λv=>ih v (hs.2 v)⟩
 |freeze _ _ k ih=>exact⟨hs.1,ih hs.2⟩
 |getObj _ k ih=>exact⟨λv hv=>ih v (hs.1 v hv),ve hs.2⟩
 |setObj _ _ k ih=>exact⟨hs.1,ih hs.2⟩
 |sys _ k ih=>exact⟨let⟨h,e,d⟩:=hs.1;⟨h,(congrArg (λx=>OF x f) e).trans rfl,d⟩,λv=>ih v (hs.2 v)⟩
 |program k ih=>exact⟨congrArg (λx=>OF x f) hs.1,ih Q hs.2⟩
 |mark _ k ih=>exact⟨hs.1,ih hs.2⟩
theorem xe{α}{s:Sem α}(hs:iO Q φ true m n z d s):cw Q m n s:=by
 induction s with
 |pure a=>trivial
 |halt h=>exact hs.1
 |load _ _ k ih|shape _ k ih|frozen _ k ih|choose _ k ih=>exactλv=>ih v (hs v)
 |store _ _ _ k ih=>exact ih hs
 |new o k ih=>exact⟨hs.1.1 rfl,λv=>ih v (hs.2 v)⟩
 |freeze _ _ k ih=>exact ih hs.2
 |getObj _ k ih=>exact⟨λv hv=>ih v (hs.1 v λ_=>hv),hs.2⟩
 |setObj _ _ k ih=>exact⟨hs.1.2 rfl,ih hs.2⟩
 |sys _ k ih=>exact⟨hs.1,λv=>ih v (hs.2 v)⟩
 |program k ih=>exact ih Q hs.2
 |mark _ k ih=>exact⟨hs.1.1,ih hs.2⟩
theorem mr{α}{s:Sem α}(hs:iO Q φ false m n z d s):Same Q φ s/\(d=true->ia Q 0 s)/\(z=false->bE Q s):=by
 induction s with
 |pure a=>exact⟨trivial,λ_=>rfl,λ_=>trivial⟩
 |halt h=>exact⟨trivial,λ_=>.inl rfl,hs.2⟩
 |load _ _ k ih|shape _ k ih|frozen _ k ih|choose _ k ih=>exact⟨λv=>(ih v (hs v)).1,λh v=>(ih v (hs v)).2.1 h,λh v=>(ih v (hs v)).2.2 h⟩
 |store _ _ _ k ih=>exact ih hs
 |new o k ih=>exact⟨λv=>(ih v (hs.2 v)).1,λh v=>(ih v (hs.2 v)).2.1 h,λh=>⟨hs.1.2 h,λv=>(ih v (hs.2 v)).2.2 h⟩⟩
 |freeze _ _ k ih=>exact⟨(ih hs.2).1,(ih hs.2).2.1,λh=>nomatch h.symm.trans hs.1⟩
 |getObj _ k ih=>exact⟨λv=>(ih v (hs.1 v nofun)).1,λh v=>(ih v (hs.1 v nofun)).2.1 h,λh v=>(ih v (hs.1 v nofun)).2.2 h⟩
 |setObj _ _ k ih=>exact⟨(ih hs.2).1,(ih hs.2).2.1,λh=>nomatch h.symm.trans hs.1.1⟩
 |sys _ k ih=>exact⟨λv=>(ih v (hs.2 v)).1,λh v=>(ih v (hs.2 v)).2.1 h,λh v=>(ih v (hs.2 v)).2.2 h⟩
 |program k ih=>exact⟨⟨hs.1,(ih Q hs.2).1⟩,(ih Q hs.2).2.1,(ih Q hs.2).2.2⟩
 |mark x k ih=>
  refine⟨(ih hs.2).1,λhd=> ?_,λh=>⟨hs.1.2.2 h,(ih hs.2).2.2 h⟩⟩;cases x;case disable=>exact absurd rfl (hs.1.2.1 hd).1
  case enable=>exact absurd rfl (hs.1.2.1 hd).2
  all_goals exact(ih hs.2).2.1 hd
@[reducible] def fo:aD:=⟨λ_=>false,True,0,λ_=>rfl,nofun,nofun,nofun⟩
instance(priority:=low) st_al{α}{s:Sem α}[h:Al Q (λ_ f=>f) true m n true false s]:bU Q m n s:=⟨xe h.al⟩
class xj(g z:Bool)(o:Obj):Prop where
 ok:(g=true->pE o)/\(z=false->jv o)
instance(c e f):xj g z (.cells c e f):=⟨λ_=>trivial,λ_=>trivial⟩
instance(a t):xj g z (.number a t):=⟨λ_=>trivial,λ_=>trivial⟩
instance{o}[h:rF o]:xj g true o:=⟨λ_=>h.ok,nofun⟩
class Lw(n z d:Bool)(x:Mark):Prop where
 ok:(x= .noRoom->n=true)/\(d=true->x≠.disable/\x≠.enable)/\(z=false->Meek x)
instance:Lw true z d .noRoom:=⟨λ_=>rfl,λ_=>⟨nofun,nofun⟩,λ_=>trivial⟩
instance:Lw n true false .disable:=⟨nofun,nofun,nofun⟩
instance:Lw n true false .enable:=⟨nofun,nofun,nofun⟩
theorem aB{α β s}{f:α->Sem β}(hs:Al Q φ g m n z d s)(hf:∀a,Al Q φ g m n z d (f a)):Al Q φ g m n z d (s>>=f):=⟨yY hs.al λa=>(hf a).al⟩
instance Rt{α β s}{f:α->Sem β}[hs:Al Q φ g m n z d s][hf:∀a,Al Q φ g m n z d (f a)]:Al Q φ g m n z d (s>>=f):=aB hs hf
theorem aG{α r}{f:Obj->Sem α}(hf:∀o,Al Q φ g m n z d (f o))(hc:Cut m f):Al Q φ g m n z d (getObj r>>=f):=⟨⟨λo _=>(hf o).al,hc⟩⟩
theorem aP{α}{f:x5->Sem α}(e:f (swap Q φ)=f Q)(h:Al Q φ g m n z d (f Q)):Al Q φ g m n z d (program>>=f):=⟨⟨e,h.al⟩⟩
instance eR{α a}:Al Q φ g m n z d (pure a:Sem α):=⟨trivial⟩
instance Sl{α β s}{f:α->β}[hs:Al Q φ g m n z d s]:Al Q φ g m n z d (f<$>s):=⟨yY hs.al λ_=>trivial⟩
theorem aI{α c}[Decidable c]{x y:Sem α}(hx:Al Q φ g m n z d x)(hy:Al Q φ g m n z d y):Al Q φ g m n z d (if c then x else y):=by
 grind
instance Sn{α c}[Decidable c]{x y:Sem α}[hx:Al Q φ g m n z d x][hy:Al Q φ g m n z d y]:Al Q φ g m n z d (if c then x else y):=aI hx hy
theorem So{β γ:Type}(l:List β)(f:(a:β)->a∈l->γ->Sem (ForInStep γ))(h:∀a m' b,Al Q φ g m n z d (f a m' b))(b):Al Q φ g m n z d (forIn' l b f):=by
 induction l generalizing b with
 |nil=>rw[List.forIn'_nil];exact zq2
 |cons x l ih=>
  rw[List.forIn'_cons];refine aB (h x _ b) λr=> ?_
  cases r with
  |done b=>exact zq2
  |yield b=>exact ih (λa m b=>f a (List.mem_cons_of_mem _ m) b) (λa m b=>h a _ b) b
theorem Pd{γ}(l:Std.Legacy.Range)(f:(a:Nat)->a∈l->γ->Sem (ForInStep γ))(h:∀a m' b,Al Q φ g m n z d (f a m' b))(b):Al Q φ g m n z d (forIn' l b f):=by
 rw[Std.Legacy.Range.forIn'_eq_forIn'_range'];exact So _ _ (λ_ _ _=>h _ _ _) _
theorem aL{β γ:Type}{f:β->γ->Sem (ForInStep γ)}(h:∀a b,Al Q φ g m n z d (f a b))(l:List β)(b):Al Q φ g m n z d (forIn l b f):=by
 induction l generalizing b with
 |nil=>rw[List.forIn_nil];exact zq2
 |cons x l ih=>
  rw[List.forIn_cons];refine aB (h x b) λr=> ?_
  cases r with
  |done b=>exact zq2
  |yield b=>exact ih b
theorem aF{β γ:Type}{f:β->γ->Sem (ForInStep γ)}(h:∀a b,Al Q φ g m n z d (f a b))(l:Array β)(b):Al Q φ g m n z d (forIn l b f):=by
 rw[<- Array.forIn_toList];exact aL h _ _
theorem aR{γ}{f:Nat->γ->Sem (ForInStep γ)}(h:∀a b,Al Q φ g m n z d (f a b))(l:Std.Legacy.Range)(b):Al Q φ g m n z d (forIn l b f):=by
 rw[Std.Legacy.Range.forIn_eq_forIn_range'];exact aL h _ _
instance aO{β γ:Type}{f:γ->β->Sem γ}[h:∀a b,Al Q φ g m n z d (f a b)](l:List β)(b):Al Q φ g m n z d (l.foldlM f b):=by
 induction l generalizing b with
 |nil=>rw[List.foldlM_nil];exact zq2
 |cons x l ih=>exact aB (h b x) λr=>ih r
instance Ow{β γ:Type}{f:β->Sem γ}[h:∀a,Al Q φ g m n z d (f a)](xs:List β):Al Q φ g m n z d (xs.mapM f):=by
 induction xs with
 |nil=>rw[SF];exact zq2
 |cons x l ih=>rw[Su];exact zq2
instance Rr{β γ:Type}{f:β->Sem γ}[h:∀a,Al Q φ g m n z d (f a)](xs:Array β):Al Q φ g m n z d (xs.mapM f):=by
 rw[By];exact zq2
instance(o)[h:xj g z o]:Al Q φ g m n z d (newObj o):=⟨h.ok,λ_=>trivial⟩
instance(r o)[h:xj g true o]:Al Q φ g m n true d (setObj r o):=⟨⟨rfl,h.ok.1⟩,trivial⟩
instance(x)[h:Lw n z d x]:Al Q φ g m n z d (mark x):=⟨h.ok,trivial⟩
instance{α}(u)[NU u]:Al Q φ g m n z d (unsupported u:Sem α):=⟨yH,λ_=>.inr (.inr Io)⟩
instance{α}(s):Al Q φ g m n z d (stuck s:Sem α):=⟨trivial,λ_=>.inr (.inr trivial)⟩
instance{α}:Al Q φ g m n z d (.halt .blocked:Sem α):=⟨trivial,λ_=>.inr (.inr trivial)⟩
instance{α}(v):Al Q φ g m n z d (goPanic v:Sem α):=⟨trivial,λ_=>.inl ⟨v,rfl⟩⟩
instance(x0 x1):Al Q φ g m n z d (Go.load x0 x1):=⟨λ_=>trivial⟩
instance(x0 x1 x2):Al Q φ g m n z d (Go.store x0 x1 x2):=⟨trivial⟩
instance(r):Al Q φ g m n z d (Go.shape r):=⟨λ_=>trivial⟩
instance(a k):Al Q φ g m n true d (Go.freeze a k):=⟨rfl,trivial⟩
instance(a):Al Q φ g m n z d (Go.frozen a):=⟨λ_=>trivial⟩
instance(q):Al Q φ g m n z d (Go.choose q):=⟨λ_=>trivial⟩
instance(a b):Al Q φ g m n z d (writeFd a b):=⟨⟨_,rfl,trivial⟩,λv=>by cases v<;>first |trivial|exact⟨trivial,λ_=>.inr (.inr trivial)⟩⟩
instance:Al Q φ g m n z d Instr.panicnil:=⟨⟨_,rfl,trivial⟩,λv=>by cases v<;>first |trivial|exact⟨trivial,λ_=>.inr (.inr trivial)⟩⟩
theorem aA{α}{s:Sem α}(h:Al Q φ g m n z d s:=by
 repeat' (first
  |exact zq2
  |(with_reducible refine aP ?_ ?_)
  |with_reducible rfl
  |(simp only[nU];done)
  |(simp only[nU];with_reducible rfl)
  |rfl
  |(with_reducible refine aG (λ_=> ?_) ?_)
  |exact .inl ⟨rfl,_,rfl,trivial⟩
  |exact .inr ⟨λ_=>rfl,λ_=>rfl⟩
  |(refine aB ?_ λ_=> ?_)
  |(refine aI ?_ ?_)
  |(refine aF (λ_ _=> ?_) _ _)
  |(refine aR (λ_ _=> ?_) _ _)
  |(refine Pd _ _ (λ_ _ _=> ?_) _)
  |split
  |(intro _)
  |dsimp only)):Al Q φ g m n z d s:=h
theorem aU{α}{s:Sem α}(h:Al Q φ g m n z d s:=by
 repeat' (first
  |exact⟨trivial,λ_=>.inr (.inr trivial)⟩
  |exact eR
  |dsimp only
  |exact zq2
  |(with_reducible refine aP ?_ ?_)
  |with_reducible rfl
  |(simp only[nU];done)
  |(simp only[nU];with_reducible rfl)
  |rfl
  |(with_reducible refine aG (λ_=> ?_) ?_)
  |exact .inl ⟨rfl,_,rfl,trivial⟩
  |exact .inr ⟨λ_=>rfl,λ_=>rfl⟩
  |(refine aB ?_ λ_=> ?_)
  |(refine aI ?_ ?_)
  |(refine aF (λ_ _=> ?_) _ _)
  |(refine aR (λ_ _=> ?_) _ _)
  |(refine Pd _ _ (λ_ _ _=> ?_) _)
  |split
  |(intro _)
  |dsimp only)):Al Q φ g m n z d s:=h
class L1(Q:x5)(φ:Nat->Func->Func)(g:Bool):Prop where
 l1_0:∀a b c d e f h,Al Q φ g a b c d (T9 e f h)
 l1_1:∀a b c d e f,Al Q φ g a b c d (Conv.intToInt e f)
 l1_2:∀a b c d e f,Al Q φ g a b c d (Conv.intToFloat e f)
 l1_3:∀a b c d e,Al Q φ g a b c d (Conv.intToString e)
instance:L1 Q φ g:=by
 constructor;all_goals
  intros
  first |unfold T9|unfold Conv.intToInt|unfold Conv.intToFloat|unfold Conv.intToString
  exact aA
attribute [instance] L1.l1_0 L1.l1_1 L1.l1_2 L1.l1_3
class L2(Q:x5)(φ:Nat->Func->Func)(g:Bool):Prop where
 l2_0:∀b c d e a i n acc,Al Q φ g b c d e (loadCellsFrom a i n acc)
 l2_1:∀b c d e a vs i,Al Q φ g b c d e (storeCells a vs i)
 l2_2:∀b c d e a acc n,Al Q φ g b c d e (loadBytes a acc n)
 l2_3:∀a b c d e f h,Al Q φ g a b c d (Builtin.complex_ e f h)
 l2_4:∀a b c d e f h,Al Q φ g a b c d (Builtin.imag_ e f h)
 l2_5:∀a b c d e f h,Al Q φ g a b c d (Builtin.real_ e f h)
 l2_6:∀a b c d,Al Q φ g a true b c (askRoom d)
 l2_7:∀a b c d e,Al Q φ g a b c d (viewAt e)
 l2_8:∀a b c d e,Al Q φ g a b c d (numberAt e)
 l2_9:∀a b c d e,Al Q φ g a b c d (cellsIn e)
 l2_10:∀a b c d e f,Al Q φ g a b c d (asNumber e f)
 l2_11:∀a b c d,Al Q φ g a b true c (markStringish d)
 l2_12:∀a b c d e,Al Q φ g a b c d (stringish e)
 l2_13:∀a b c d e,Al Q φ g a b c d (typeInfo e)
 l2_14:∀a b c d e,Al Q φ g a b c d (underlying e)
 l2_15:∀a b c d e,Al Q φ g a b c d (cutType e)
 l2_16:∀a b c d e,Al Q φ g a b c d (globalAddr e)
 l2_17:∀a b c d e f,Al Q φ g a b c d (newRow e f)
 l2_18:∀α a b c d e,Al Q φ g a b c d (panicString (α:=α) e)
 l2_19:∀a b c d e,Al Q φ g a b c d (asIntOf e)
 l2_20:∀a b c d e,Al Q φ g a b c d (asBool e)
 l2_21:∀a b c d e,Al Q φ g a b c d (asAgg e)
 l2_22:∀a b c d e f,Al Q φ g a b c d (T1 e f)
 l2_23:∀a b c d e f h,Al Q φ g a b c d (variablesAt e f h)
 l2_24:∀a b c d e,Al Q φ g a b c d (T8 e)
 l2_25:∀a b c d e,Al Q φ g a b c d (Instr.waits e)
 l2_26:∀a b c,Al Q φ g true a true b (Instr.ready c)
 l2_27:∀a b c d e f,Al Q φ g a b c d (Instr.keyThatStays e f)
 l2_28:∀a b c d e,Al Q φ g true a true b (Instr.next c d e)
 l2_29:∀a b c d,Al Q φ g true a b c (Instr.entry d)
 l2_30:∀a b c,Al Q φ g true a true b (IN c)
 l2_31:∀a b c d,Al Q φ g a b c d Extern.PrintPieces.held
 l2_32:∀a b c d e f,Al Q φ g a b c d (Instr.extract e f)
 l2_33:∀a b c d e f h i,Al Q φ g a b c d (Op.intArith e f h i)
 l2_34:∀a b c d e f h i,Al Q φ g a b c d (Op.intBits e f h i)
 l2_35:∀a b c d e f h,Al Q φ g a b c d (Op.intCmp e f h)
 l2_36:∀a b c d e f h i,Al Q φ g a b c d (Op.floatArith e f h i)
 l2_37:∀a b c d e f h i,Al Q φ g a b c d (Op.floatCmp e f h i)
 l2_38:∀a b c d e f h,Al Q φ g a b c d (SW e f h)
 l2_39:∀a b c d e f h,Al Q φ g a b c d (Op.stringOp e f h)
 l2_40:∀a b c d e f h,Al Q φ g a b c d (T6 e f h)
 l2_41:∀a b c d e f,Al Q φ g a b c d (SS e f)
 l2_42:∀a b c d e,Al Q φ g a b c d (Tl e)
instance:L2 Q φ g:=by
 constructor;case l2_0=>
  intro _ _ _ _ a i n acc;induction n generalizing i acc
  all_goals
   unfold loadCellsFrom;exact aA
 case l2_1=>
  intro _ _ _ _ a vs i;induction vs generalizing i
  all_goals
   unfold storeCells;exact aA
 case l2_2=>
  intro _ _ _ _ a acc n;induction n generalizing a acc
  all_goals
   unfold loadBytes;exact aA
 case l2_3=>
  intro _ _ _ _ x0 x1 x2;unfold Builtin.complex_;obtain⟨l⟩:=x2;rcases l with _|⟨a,_|⟨b,_|⟨c,l⟩⟩⟩
  all_goals first
   |exact⟨trivial,λ_=>.inr (.inr trivial)⟩
   |(cases a<;>first
    |exact⟨trivial,λ_=>.inr (.inr trivial)⟩
    |(cases b<;>first
     |exact⟨trivial,λ_=>.inr (.inr trivial)⟩
     |(rename_i o;cases o<;>(
    exact aU))
     |(
    exact aU)))
 case l2_4=>
  intro _ _ _ _ x0 x1 x2;unfold Builtin.imag_;obtain⟨l⟩:=x2;rcases l with _|⟨a,_|⟨b,l⟩⟩
  all_goals first
   |exact⟨trivial,λ_=>.inr (.inr trivial)⟩
   |(cases a<;>first
    |exact⟨trivial,λ_=>.inr (.inr trivial)⟩
    |exact eR
    |(rename_i o;cases o<;>first
     |exact⟨trivial,λ_=>.inr (.inr trivial)⟩
     |exact eR
     |(
    exact aU))
    |(
    exact aU))
 case l2_5=>
  intro _ _ _ _ x0 x1 x2;unfold Builtin.real_;obtain⟨l⟩:=x2;rcases l with _|⟨a,_|⟨b,l⟩⟩
  all_goals first
   |exact⟨trivial,λ_=>.inr (.inr trivial)⟩
   |(cases a<;>first
    |exact⟨trivial,λ_=>.inr (.inr trivial)⟩
    |exact eR
    |(rename_i o;cases o<;>first
     |exact⟨trivial,λ_=>.inr (.inr trivial)⟩
     |exact eR
     |(
    exact aU))
    |(
    exact aU))
 all_goals
  intros
  first |unfold askRoom|unfold viewAt|unfold numberAt|unfold cellsIn|unfold asNumber|unfold markStringish|unfold stringish|unfold typeInfo|unfold underlying|unfold cutType|unfold globalAddr|unfold newRow|unfold panicString|unfold asIntOf|unfold asBool|unfold asAgg|unfold T1|unfold variablesAt|unfold T8|unfold Instr.waits|unfold Instr.ready|unfold Instr.keyThatStays|unfold Instr.next |unfold Instr.entry|unfold IN|unfold Extern.PrintPieces.held|unfold Instr.extract|unfold Op.intArith|unfold Op.intBits|unfold Op.intCmp|unfold Op.floatArith|unfold Op.floatCmp|unfold SW|unfold Op.stringOp|unfold T6|unfold SS|unfold Tl
  exact aA
attribute [instance] L2.l2_0 L2.l2_1 L2.l2_2 L2.l2_3 L2.l2_4 L2.l2_5 L2.l2_6 L2.l2_7 L2.l2_8 L2.l2_9 L2.l2_10 L2.l2_11 L2.l2_12 L2.l2_13 L2.l2_14 L2.l2_15 L2.l2_16 L2.l2_17 L2.l2_18 L2.l2_19 L2.l2_20 L2.l2_21 L2.l2_22 L2.l2_23 L2.l2_24 L2.l2_25 L2.l2_26 L2.l2_27 L2.l2_28 L2.l2_29 L2.l2_30 L2.l2_31 L2.l2_32 L2.l2_33 L2.l2_34 L2.l2_35 L2.l2_36 L2.l2_37 L2.l2_38 L2.l2_39 L2.l2_40 L2.l2_41 L2.l2_42
instance(x0 x1):Al Q φ g true n true d (Go.Instr.range x0 x1):=by
 refine aB zq2 λd=> ?_
 split
 .exact⟨⟨λ_=>trivial,nofun⟩,λ_=>trivial⟩
 .exact⟨⟨λ_=>trivial,nofun⟩,λ_=>trivial⟩
 .refine⟨λo _=> ?_,.inl ⟨rfl,_,rfl,trivial⟩⟩;cases o<;>first |exact⟨trivial,λ_=>.inr (.inr trivial)⟩|exact⟨⟨λ_=>trivial,nofun⟩,λ_=>trivial⟩
 .exact⟨trivial,λ_=>.inr (.inr trivial)⟩
theorem Lo{α}(l){f:Loop->Sem α}(h:∀r,(g=true->Lv r)->Al Q φ g true n z d (f r)):Al Q φ g true n z d (SL l>>=f):=by
 refine⟨λo ho=> ?_,.inl ⟨rfl,_,rfl,trivial⟩⟩;cases o with
 |loop r=>exact(h r λe=>(ho e).loop).al
 |_=>exact⟨trivial,λ_=>.inr (.inr trivial)⟩
instance(l):Al Q φ g true n z d (SL l):=by
 refine⟨λo ho=> ?_,.inl ⟨rfl,_,rfl,trivial⟩⟩;cases o<;>first |trivial|exact⟨trivial,λ_=>.inr (.inr trivial)⟩
theorem qb(f t ps a b r)(ha:g=true->cT a=true)(hb:g=true->cT b=true):Al Q φ g true n true d (IT f t ps a b r):=by
 have h:∀d,xj g true (.loop {state:=.ready,pending:=none,fn:=f,tmps:=t,params:=ps,assign:=a,body:=b,defers:=d}):=λd=>⟨λe=>⟨ha e,hb e,nofun⟩,nofun⟩
 cases r with
 |none=>exact aB (s:=newObj (.deferred (some []))) zq2 λx=>aB (s:=newObj (.loop _)) zq2 λy=>eR
 |some l=>exact Lo l λx _=>aB (s:=newObj (.loop _)) zq2 λy=>eR
theorem rz(l j)(hj:g=true->∀c,j=some c->cT c=true):Al Q φ g true n true d (If l j):=by
 refine Lo l λr hr=> ?_
 have h:xj g true (.loop {r with state:=if j.isNone then .ready else .done,pending:=j}):=⟨λe=>⟨(hr e).1,(hr e).2.1,hj e⟩,nofun⟩;exact zq2
theorem lK(l d0)(hd:g=true->oK d0):Al Q φ g true n true d (No l d0):=by
 refine aB zq2 λr=> ?_
 refine⟨λo ho=> ?_,.inl ⟨rfl,_,rfl,trivial⟩⟩;cases o with
 |deferred ds=>
  cases ds with
  |none=>exact⟨trivial,nofun⟩
  |some ds=>exact⟨⟨rfl,λe x hx=>(List.mem_cons.1 hx).elim (λe'=>e'▸hd e) ((ho e).ds x)⟩,trivial⟩
 |_=>exact⟨trivial,nofun⟩
class L3(Q:x5)(φ:Nat->Func->Func)(g:Bool):Prop where
 l3_0:∀a b c d e,Al Q φ g a b c d (behindNumber e)
 l3_1:∀a b c d e,Al Q φ g a b c d (noView e)
 l3_2:∀a b c d e f,Al Q φ g a b c d (mayBeOne e f)
 l3_3:∀a b c d e,Al Q φ g a b c d (typeStr e)
 l3_4:∀a b c d e,Al Q φ g a b c d (zeroValue e)
 l3_5:∀a b c d e,Al Q φ g a b c d (sizeOf e)
 l3_6:∀a b c d e,Al Q φ g a b c d (isAgg e)
 l3_7:∀a b c d e f,Al Q φ g a b c d (loadCells e f)
 l3_8:∀a b c d e f,Al Q φ g a b c d (newVar e f)
 l3_9:∀a b c d e,Al Q φ g a b c d (elemOf e)
 l3_10:∀a b c d e,Al Q φ g a b c d (asInt e)
 l3_11:∀a b c d e f,Al Q φ g a b c d (SN e f)
 l3_12:∀a b c d e,Al Q φ g true a b c (SX d e)
 l3_13:∀a b c d e f,Al Q φ g a b c d (Builtin.printOne e f)
 l3_14:∀a b(c d:Array TypeId)(e:Array Value),Al Q φ g a b true false (Extern.PrintPieces.piece c d e)
 l3_15:∀a b c d e f h i,Al Q φ g a b c d (Op.Complex.arith e f h i)
 l3_16:∀a b c d e f h i,Al Q φ g a b c d (Op.Complex.cmp e f h i)
 l3_17:∀a b c d e f h,Al Q φ g a b c d (Op.Complex.conv e f h)
 l3_18:∀a b c d e f,Al Q φ g a b c d (Op.unary e f)
 l3_19:∀a b c d e f h i,Al Q φ g a b c d (Conv.complexToComplex e f h i)
 l3_20:∀a b c d e,Al Q φ g a b true c (Conv.stringToBytes d e)
 l3_21:∀a b c d e f,Al Q φ g a b c d (Conv.stringToRunes e f)
 l3_22:∀a b c d e,Al Q φ g a b c d (Conv.seenAt e)
 l3_23:∀a b c d e f h i j,Al Q φ g a b c d (T2 e f h i j)
 l3_24:∀a b c d e f,Al Q φ g true a b c (Builtin.cap_ d e f)
 l3_25:∀a b c d e f,Al Q φ g true a b c (Ty d e f)
 l3_26:∀a b c d e f,Al Q φ g a b c d (Builtin.max2 e f)
 l3_27:∀a b c d e f,Al Q φ g a b c d (Tx e f)
 l3_28:∀a b c d e f h,Al Q φ g a b c d (resolve e f h)
instance:L3 Q φ g:=by
 constructor;all_goals
  intros
  first |unfold behindNumber|unfold noView|unfold mayBeOne|unfold typeStr|unfold zeroValue|unfold sizeOf|unfold isAgg|unfold loadCells|unfold newVar|unfold elemOf|unfold asInt|unfold SN|unfold SX|unfold Builtin.printOne|unfold Extern.PrintPieces.piece|unfold Op.Complex.arith|unfold Op.Complex.cmp|unfold Op.Complex.conv|unfold Op.unary|unfold Conv.complexToComplex|unfold Conv.stringToBytes|unfold Conv.stringToRunes|unfold Conv.seenAt|unfold T2|unfold Builtin.cap_|unfold Ty|unfold Builtin.max2|unfold Tx|unfold resolve
  exact aA
attribute [instance] L3.l3_0 L3.l3_1 L3.l3_2 L3.l3_3 L3.l3_4 L3.l3_5 L3.l3_6 L3.l3_7 L3.l3_8 L3.l3_9 L3.l3_10 L3.l3_11 L3.l3_12 L3.l3_13 L3.l3_14 L3.l3_15 L3.l3_16 L3.l3_17 L3.l3_18 L3.l3_19 L3.l3_20 L3.l3_21 L3.l3_22 L3.l3_23 L3.l3_24 L3.l3_25 L3.l3_26 L3.l3_27 L3.l3_28
class L4(Q:x5)(φ:Nat->Func->Func)(g:Bool):Prop where
 l4_0:∀a b c d e f h,Al Q φ g a b c d (SR e f h)
 l4_1:∀a b c d e f,Al Q φ g a b true c (Builtin.unsafeSliceData_ d e f)
 l4_2:∀a b c d e f,Al Q φ g a b true c (Builtin.unsafeStringData_ d e f)
 l4_3:∀a b c d e f,Al Q φ g a b c d (sameAddr e f)
 l4_4:∀a b c d e f,Al Q φ g a b c d (loadVar e f)
 l4_5:∀a b c d e f h,Al Q φ g a b c d (storeVar e f h)
 l4_6:∀a b c d e f h,Al Q φ g a b c d (part e f h)
 l4_7:∀α a b c d e,Al Q φ g a b c d (SH (α:=α) e)
 l4_8:∀a b c d e,Al Q φ g a b c d (byteOf e)
 l4_9:∀a b c d e f,Al Q φ g a b c d (Instr.box e f)
 l4_10:∀a b c d e f,Al Q φ g a b c d (Instr.build e f)
 l4_11:∀a b c d e f h,Al Q φ g a b c d (T0 e f h)
 l4_12:∀a b c d e,Al Q φ g a b true c (Instr.makeMap d e)
 l4_13:∀a b c d e f,Al Q φ g true a true b (Instr.entryStore c d e f)
 l4_14:∀a b c d e f h,Al Q φ g a b true c (Builtin.pieces d e f h)
 l4_15:∀a b c d e f,Al Q φ g a b c d (Op.Complex.add e f)
 l4_16:∀a b c d e f,Al Q φ g a b c d (Op.Complex.sub e f)
 l4_17:∀a b c d e f,Al Q φ g a b c d (Op.Complex.mul e f)
 l4_18:∀a b c d e f,Al Q φ g a b c d (Op.Complex.quo e f)
 l4_19:∀a b c d e,Al Q φ g a b c d (Conv.bytesToString e)
 l4_20:∀a b c d e,Al Q φ g a b c d (Conv.runesToString e)
 l4_21:∀a b c d e f,Al Q φ g a b true c (Conv.unsafePointer d e f)
 l4_22:∀a b c d e f h,Al Q φ g a b c d (SU e f h)
 l4_23:∀a b c d e,Al Q φ g true a true b (Builtin.clear_ c d e)
 l4_24:∀a b c d e f h,Al Q φ g a b c d (Builtin.max_ e f h)
 l4_25:∀a b c d e f h,Al Q φ g a b c d (Tw e f h)
instance:L4 Q φ g:=by
 constructor;case l4_0=>
  intro _ _ _ _ x0 x1 x2;unfold SR;obtain⟨l⟩:=x2;rcases l with _|⟨a,_|⟨b,_|⟨c,l⟩⟩⟩
  all_goals first
   |exact⟨trivial,λ_=>.inr (.inr trivial)⟩
   |(cases a<;>first
    |exact⟨trivial,λ_=>.inr (.inr trivial)⟩
    |(cases b<;>first
     |exact⟨trivial,λ_=>.inr (.inr trivial)⟩
     |(rename_i o;cases o<;>(
    exact aU))
     |(
    exact aU)))
 case l4_1=>
  intro _ _ _ x0 x1 x2;unfold Builtin.unsafeSliceData_;obtain⟨l⟩:=x2;rcases l with _|⟨a,_|⟨b,l⟩⟩
  all_goals first
   |exact⟨trivial,λ_=>.inr (.inr trivial)⟩
   |(cases a<;>first
    |exact⟨trivial,λ_=>.inr (.inr trivial)⟩
    |exact eR
    |(rename_i o _ _;cases o<;>first
     |exact⟨trivial,λ_=>.inr (.inr trivial)⟩
     |exact eR
     |(
    exact aU))
    |(
    exact aU))
 case l4_2=>
  intro _ _ _ x0 x1 x2;unfold Builtin.unsafeStringData_;obtain⟨l⟩:=x2;rcases l with _|⟨a,_|⟨b,l⟩⟩
  all_goals first
   |exact⟨trivial,λ_=>.inr (.inr trivial)⟩
   |(cases a<;>first
    |exact⟨trivial,λ_=>.inr (.inr trivial)⟩
    |exact eR
    |(rename_i o;cases o<;>first
     |exact⟨trivial,λ_=>.inr (.inr trivial)⟩
     |exact eR
     |(
    exact aU))
    |(
    exact aU))
 all_goals
  intros
  first |unfold sameAddr|unfold loadVar|unfold storeVar|unfold part|unfold SH|unfold byteOf|unfold Instr.box|unfold Instr.build|unfold T0|unfold Instr.makeMap|unfold Instr.entryStore|unfold Builtin.pieces|unfold Op.Complex.add|unfold Op.Complex.sub|unfold Op.Complex.mul|unfold Op.Complex.quo|unfold Conv.bytesToString|unfold Conv.runesToString|unfold Conv.unsafePointer|unfold SU|unfold Builtin.clear_|unfold Builtin.max_|unfold Tw
  exact aA
attribute [instance] L4.l4_0 L4.l4_1 L4.l4_2 L4.l4_3 L4.l4_4 L4.l4_5 L4.l4_6 L4.l4_7 L4.l4_8 L4.l4_9 L4.l4_10 L4.l4_11 L4.l4_12 L4.l4_13 L4.l4_14 L4.l4_15 L4.l4_16 L4.l4_17 L4.l4_18 L4.l4_19 L4.l4_20 L4.l4_21 L4.l4_22 L4.l4_23 L4.l4_24 L4.l4_25
instance(x0 x1 x2):Al Q φ g true n true d (Tb x0 x1 x2):=by
 unfold Tb;obtain⟨l⟩:=x2;rcases l with _|⟨a,_|⟨b,l⟩⟩
 all_goals first
  |exact⟨trivial,λ_=>.inr (.inr trivial)⟩
  |(cases a<;>first
   |exact⟨trivial,λ_=>.inr (.inr trivial)⟩
   |(rename_i o;cases o<;>first
    |exact(zq2:Al Q φ g true n true d (SH _))
    |(refine aG (λo=> ?_) (.inl ⟨rfl,_,rfl,trivial⟩);cases o<;>(repeat' (first
     |exact zq2)))))
instance Oa(l):Al Q φ g true n true d (Sy l):=by
 refine Lo l λr hr=> ?_
 have h:xj g true (.loop {r with state:=.busy}):=⟨hr,nofun⟩;repeat' (first
  |exact zq2
  |split)
instance Pc(l):Al Q φ g true n true d (Sx l):=by
 refine Lo l λr hr=> ?_
 have h:xj g true (.loop {r with state:=.exhausted}):=⟨hr,nofun⟩;repeat' (first
  |exact zq2)
class L5(Q:x5)(φ:Nat->Func->Func)(g:Bool):Prop where
 l5_0:∀a b c e d t x y,Al Q φ g a b c e (Op.eqGuardIn d t x y)
 l5_1:∀a b c d e n t v,Al Q φ g a b c d (Instr.checkKey e n t v)
 l5_2:∀a b c d p t x,Al Q φ g a b c d (followBlind p t x)
 l5_3:∀a b c d e f h,Al Q φ g a b c d (Builtin.ssaWrapNilChk_ e f h)
 l5_4:∀a b c d e f,Al Q φ g a b true c (Builtin.unsafeSlice_ d e f)
 l5_5:∀a b c d e f,Al Q φ g a b true c (Builtin.unsafeString_ d e f)
 l5_6:∀a b c d e f,Al Q φ g a b c d (samePointer e f)
 l5_7:∀α a b c d e f h i,Al Q φ g a b c d (boundsPanic (α:=α) e f h i)
 l5_8:∀a b c d e,Al Q φ g a b c d (asAddr e)
 l5_9:∀a b c d e f h,Al Q φ g a b c d (Instr.alloc e f h)
 l5_10:∀a b c d e f h,Al Q φ g a b c d (partAt e f h)
 l5_11:∀a b c d e f,Al Q φ g a b c d (Instr.loadAt e f)
 l5_12:∀a b c d e f h,Al Q φ g a b c d (Instr.storeAt e f h)
 l5_13:∀a b c d e f,Al Q φ g a b c d (Instr.arrayAt e f)
 l5_14:∀a b c d e,Al Q φ g a b true c (Instr.makeChan d e)
 l5_15:∀a b c d e f,Al Q φ g a true b c (Instr.makeSlice d e f)
 l5_16:∀a b c d e f h,Al Q φ g a b c d (Instr.field e f h)
 l5_17:∀a b c d e f,Al Q φ g a b c d (Place.get e f)
 l5_18:∀a b c d e f,Al Q φ g a b true false (SC c d e f)
 l5_19:∀a b c d e f h i,Al Q φ g a b c d (SY e f h i)
 l5_20:∀a b c d e,Al Q φ g a b c d (Instr.panic e)
 l5_21:∀a b c d e f h i,Al Q φ g a b c d (Op.intDiv e f h i)
 l5_22:∀a b c d e f h i j,Al Q φ g a b c d (Op.shift e f h i j)
 l5_23:∀a b c d e f h i,Al Q φ g a b c d (Op.Complex.product e f h i)
 l5_24:∀a b c d e f h i j,Al Q φ g a b c d (Op.Complex.corrected e f h i j)
 l5_25:∀a b c d e f,Al Q φ g a b c d (Op.twoPlaces e f)
 l5_26:∀a b c d e f h,Al Q φ g a b c d (Op.addrMod e f h)
 l5_27:∀a b c d e f,Al Q φ g a true b c (T7 d e f)
 l5_28:∀a b c d e f h,Al Q φ g a b c d (Tm e f h)
 l5_29:∀a b c d e f h,Al Q φ g a b c d (movedNumber e f h)
 l5_30:∀a b c d e f h,Al Q φ g a b c d (movedPointer e f h)
 l5_31:∀a b c d e f,Al Q φ g a b true c (convert d e f)
instance:L5 Q φ g:=by
 constructor;case l5_0=>
  intro _ _ _ _ d t x y;induction d generalizing t x y
  all_goals
   unfold Op.eqGuardIn;exact aA
 case l5_1=>
  intro _ _ _ _ e n t v;induction n generalizing t v
  all_goals
   unfold Instr.checkKey;exact aA
 case l5_2=>
  intro _ _ _ _ p t x;induction p generalizing t x
  all_goals
   unfold followBlind;exact aA
 case l5_3=>
  intro _ _ _ _ x0 x1 x2;unfold Builtin.ssaWrapNilChk_;obtain⟨l⟩:=x2;rcases l with _|⟨a,_|⟨b,_|⟨c,_|⟨d,l⟩⟩⟩⟩
  all_goals first
   |exact⟨trivial,λ_=>.inr (.inr trivial)⟩
   |(cases b<;>first
    |exact⟨trivial,λ_=>.inr (.inr trivial)⟩
    |(cases c<;>first
     |exact⟨trivial,λ_=>.inr (.inr trivial)⟩
     |(cases a<;>first
      |exact⟨trivial,λ_=>.inr (.inr trivial)⟩
      |(rename_i o;cases o<;>(
    exact aU)))))
 case l5_4=>
  intro _ _ _ x0 x1 x2;unfold Builtin.unsafeSlice_;obtain⟨l⟩:=x2;rcases l with _|⟨a,_|⟨b,_|⟨c,l⟩⟩⟩
  all_goals first
   |exact⟨trivial,λ_=>.inr (.inr trivial)⟩
   |(cases a<;>first
    |exact⟨trivial,λ_=>.inr (.inr trivial)⟩
    |(cases b<;>first
     |exact⟨trivial,λ_=>.inr (.inr trivial)⟩
     |(rename_i o;cases o<;>(
    exact aU))
     |(
    exact aU)))
 case l5_5=>
  intro _ _ _ x0 x1 x2;unfold Builtin.unsafeString_;obtain⟨l⟩:=x2;rcases l with _|⟨a,_|⟨b,_|⟨c,l⟩⟩⟩
  all_goals first
   |exact⟨trivial,λ_=>.inr (.inr trivial)⟩
   |(cases a<;>first
    |exact⟨trivial,λ_=>.inr (.inr trivial)⟩
    |(cases b<;>first
     |exact⟨trivial,λ_=>.inr (.inr trivial)⟩
     |(rename_i o;cases o<;>(
    exact aU))
     |(
    exact aU)))
 all_goals
  intros
  first |unfold samePointer|unfold boundsPanic|unfold asAddr|unfold Instr.alloc|unfold partAt|unfold Instr.loadAt|unfold Instr.storeAt|unfold Instr.arrayAt|unfold Instr.makeChan|unfold Instr.makeSlice|unfold Instr.field|unfold Place.get|unfold SC|unfold SY|unfold Instr.panic|unfold Op.intDiv|unfold Op.shift|unfold Op.Complex.product|unfold Op.Complex.corrected|unfold Op.twoPlaces|unfold Op.addrMod|unfold T7|unfold Tm|unfold movedNumber|unfold movedPointer|unfold convert
  exact aA
attribute [instance] L5.l5_0 L5.l5_1 L5.l5_2 L5.l5_3 L5.l5_4 L5.l5_5 L5.l5_6 L5.l5_7 L5.l5_8 L5.l5_9 L5.l5_10 L5.l5_11 L5.l5_12 L5.l5_13 L5.l5_14 L5.l5_15 L5.l5_16 L5.l5_17 L5.l5_18 L5.l5_19 L5.l5_20 L5.l5_21 L5.l5_22 L5.l5_23 L5.l5_24 L5.l5_25 L5.l5_26 L5.l5_27 L5.l5_28 L5.l5_29 L5.l5_30 L5.l5_31
class L6(Q:x5)(φ:Nat->Func->Func)(g:Bool):Prop where
 l6_0:∀a b c e d t x y,Al Q φ g a b c e (Op.equalIn d t x y)
 l6_1:∀a b c d n t v s,Al Q φ g a b c d (nilAhead n t v s)
 l6_2:∀a b c d e f h,Al Q φ g a b c d (SZ e f h)
 l6_3:∀a b c d e f,Al Q φ g a b c d (fieldPlace e f)
 l6_4:∀a b c d e f h,Al Q φ g a b c d (Instr.indexAt e f h)
 l6_5:∀a b c d e f h,Al Q φ g a b c d (Instr.index e f h)
 l6_6:∀a b c d e f h i,Al Q φ g a b c d (receiverAt e f h i)
 l6_7:∀a b c d e f h i,Al Q φ g a b c d (Op.Complex.quotient e f h i)
 l6_8:∀a b c d e f h,Al Q φ g a b c d (Op.addrSub e f h)
 l6_9:∀a b c d e f h,Al Q φ g a b c d (Op.addrCmp e f h)
 l6_10:∀a b c d e f h i j k,Al Q φ g a b c d (eqGuard e f h i j k)
instance:L6 Q φ g:=by
 constructor;case l6_0=>
  intro _ _ _ _ d t x y;induction d generalizing t x y
  all_goals
   unfold Op.equalIn;exact aA
 case l6_1=>
  intro _ _ _ _ n t v s;induction n generalizing t v
  all_goals
   unfold nilAhead;exact aA
 all_goals
  intros
  first |unfold SZ|unfold fieldPlace|unfold Instr.indexAt|unfold Instr.index|unfold receiverAt|unfold Op.Complex.quotient|unfold Op.addrSub|unfold Op.addrCmp|unfold eqGuard
  exact aA
attribute [instance] L6.l6_0 L6.l6_1 L6.l6_2 L6.l6_3 L6.l6_4 L6.l6_5 L6.l6_6 L6.l6_7 L6.l6_8 L6.l6_9 L6.l6_10
class L7(Q:x5)(φ:Nat->Func->Func)(g:Bool):Prop where
 l7_0:∀a b c d p t x,Al Q φ g a b c d (follow p t x)
 l7_1:∀a b c d e f h i j k,Al Q φ g a b c d (SV e f h i j k)
 l7_2:∀a b c d e f h,Al Q φ g a b c d (Instr.fieldAt e f h)
 l7_3:∀a b c d e f h,Al Q φ g a b c d (Op.equal e f h)
 l7_4:∀a b c d e f h i j k,Al Q φ g a b c d (Op.complexOp e f h i j k)
instance:L7 Q φ g:=by
 constructor;case l7_0=>
  intro _ _ _ _ p t x;induction p generalizing t x
  all_goals
   unfold follow;exact aA
 all_goals
  intros
  first |unfold SV|unfold Instr.fieldAt|unfold Op.equal|unfold Op.complexOp
  exact aA
attribute [instance] L7.l7_0 L7.l7_1 L7.l7_2 L7.l7_3 L7.l7_4
class L8(Q:x5)(φ:Nat->Func->Func)(g:Bool):Prop where
 l8_0:∀a b c d t k es i,Al Q φ g a b c d (Instr.findAsking t k es i)
 l8_1:∀a b c d n t v s,Al Q φ g a b c d (method n t v s)
 l8_2:∀a b c d e f h i j,Al Q φ g a b c d (Instr.slice e f h i j)
 l8_3:∀a b c d e f h i,Al Q φ g a b c d (receiverVia e f h i)
 l8_4:∀a b c d e f h i,Al Q φ g a b c d (binOp e f h i)
instance:L8 Q φ g:=by
 constructor;case l8_0=>
  intro _ _ _ _ t k es i;induction es generalizing i
  all_goals
   unfold Instr.findAsking;exact aA
 case l8_1=>
  intro _ _ _ _ n t v s;induction n generalizing t v
  all_goals
   unfold method;exact aA
 all_goals
  intros
  first |unfold Instr.slice|unfold receiverVia|unfold binOp
  exact aA
attribute [instance] L8.l8_0 L8.l8_1 L8.l8_2 L8.l8_3 L8.l8_4
class L9(Q:x5)(φ:Nat->Func->Func)(g:Bool):Prop where
 l9_0:∀a b c d e f h i j,Al Q φ g a b c d (Instr.sliceAt e f h i j)
 l9_1:∀a b c d e f h,Al Q φ g a b c d (Instr.findKey e f h)
instance:L9 Q φ g:=by
 constructor;all_goals
  intros
  exact aA
attribute [instance] L9.l9_0 L9.l9_1
class IP(Q:x5)(φ:Nat->Func->Func)(g:Bool):Prop where
 l10_0:∀a b c d e f h,Al Q φ g true a b c (Instr.lookup d e f h)
 l10_1:∀a b c d e f,Al Q φ g true a true b (T3 c d e f)
 l10_2:∀a b c d e,Al Q φ g true a true b (Instr.mapEntry c d e)
 l10_3:∀a b c d e,Al Q φ g true a true b (Builtin.delete_ c d e)
instance:IP Q φ g:=by
 constructor;all_goals
  intros
  first |unfold Instr.lookup|unfold T3|unfold Instr.mapEntry|unfold Builtin.delete_
  exact aA
attribute [instance] IP.l10_0 IP.l10_1 IP.l10_2 IP.l10_3
class Pf(Q:x5)(φ:Nat->Func->Func)(g:Bool):Prop where
 l11_0:∀a b c d e,Al Q φ g true true true false (builtin a b c d e)
instance:Pf Q φ g:=by
 constructor;all_goals
  intros
  first |unfold builtin
  exact aA
attribute [instance] Pf.l11_0
theorem cP(P){mk}(f t ps a b r)(ha:cT a=true)(hb:cT b=true):bU P true mk (IT f t ps a b r):=st_al (h:=qb f t ps a b r (λ_=>ha) λ_=>hb)
theorem dR(P){mk}(l):bU P true mk (Sy l):=zq2
theorem jx(P){mk}(l j)(hj:∀c,j=some c->cT c=true):bU P true mk (If l j):=st_al (h:=rz l j λ_=>hj)
theorem nW(P){mk}(l):bU P true mk (Sx l):=zq2
theorem kl(P){mk}(l d)(hd:oK d):bU P true mk (No l d):=st_al (h:=lK l d λ_=>hd)
theorem ql(P){mk}(x0):bU P true mk (IN x0):=zq2
instance lj(P){dy mk}(x0 x1 x2):bU P dy mk (Extern.PrintPieces.piece x0 x1 x2):=by
 repeat' (first
  |exact zq2)
end
end
section
variable{Q:x5}
instance(priority:=low) sm_al{α φ}{s:Sem α}[h: @Al fo _ Q φ false true true true false s]:Sm Q φ s:=⟨(@mr fo _ _ _ _ _ _ _ _ h.al).1⟩
instance(priority:=low) hu_al{α}{s:Sem α}[h: @Al fo _ Q (λ_ f=>f) false true true true true s]:Hu Q s:=⟨(@mr fo _ _ _ _ _ _ _ _ h.al).2.1 rfl⟩
instance(priority:=low) nf_al{α}{s:Sem α}[h: @Al fo _ Q (λ_ f=>f) false true true false true s]:Nf Q s:=⟨(@mr fo _ _ _ _ _ _ _ _ h.al).2.2 rfl⟩
instance{φ}(f t ps a b r):Sm Q φ (IT f t ps a b r):=sm_al (h:= @qb fo _ _ _ _ _ f t ps a b r nofun nofun)
instance{φ}(l j):Sm Q φ (If l j):=sm_al (h:= @rz fo _ _ _ _ _ l j nofun)
instance{φ}(l d):Sm Q φ (No l d):=sm_al (h:= @lK fo _ _ _ _ _ l d nofun)
instance(f t ps a b r):Hu Q (IT f t ps a b r):=hu_al (h:= @qb fo _ _ _ _ _ f t ps a b r nofun nofun)
instance(l j):Hu Q (If l j):=hu_al (h:= @rz fo _ _ _ _ _ l j nofun)
instance(l d):Hu Q (No l d):=hu_al (h:= @lK fo _ _ _ _ _ l d nofun)
theorem rZ(Q φ l):Sm Q φ (Sy l):=zq2
theorem Jg(Q φ x0 x1 x2):Sm Q φ (Extern.PrintPieces.piece x0 x1 x2):=zq2
theorem Bn{α P n}{f:Bool->Sem α}(hf:∀b,ia P n (f b)):ia P n (Extern.PrintPieces.held>>=f):=by
 intro v;cases v<;>first |exact hf _|exact .inr trivial
instance K9(P:x5)(x0 x1:Array TypeId)(x2:Array Value):Hu P (Extern.PrintPieces.piece x0 x1 x2):=by
 unfold Extern.PrintPieces.piece;split
 .split
  .dsimp only;refine js ⟨.inl rfl⟩ ?_;have hrest:∀(a b:Bool)(p:ByteArray)(r:Next),Hu P (writeFd 2 p>>=λ_=>if a=true then pure r else if b=true then(mark .disable>>=λ_=>program>>=λq=>store (printLock q) (.bool false) .atomic>>=λ_=>mark .enable>>=λ_=>pure (.value (.tuple #[])))else pure (.value (.tuple #[]))):=λa b p r=>by
    refine d9 zq2 λ_=>js zq2 (js ⟨?_⟩ zq2)
    show 0<1/\0=0;simp
   have hrest2:∀(b:Bool)(p:ByteArray),Hu P (writeFd 2 p>>=λ_=>if b=true then(mark .disable>>=λ_=>program>>=λq=>store (printLock q) (.bool false) .atomic>>=λ_=>mark .enable>>=λ_=>pure (Next.value (.tuple #[])))else pure (.value (.tuple #[]))):=λb p=>by
    refine d9 zq2 λ_=>js ⟨?_⟩ zq2
    show 0<1/\0=0;simp
   refine js ⟨?_⟩ (hrest _ _ _ _);refine Bn (n:=1) λb=> ?_
   split
   .exact .inr trivial
   .split
    .exact⟨Nat.one_pos,(show Hu P (writeFd 2 _>>=λ_=>pure (Next.row _ _))from d9 zq2 λ_=>zq2).hu⟩
    .exact⟨Nat.one_pos,(hrest2 _ _).hu⟩
  .repeat' (first
   |exact zq2)
 .repeat' (first
   |exact zq2)
instance(P x0 x1 x2 x3):Hu P (SC x0 x1 x2 x3):=by
 repeat' (first
  |exact zq2
  |(refine d9 ?_ λ_=> ?_))
instance(P x0 x1 x2 x3 x4):Hu P (builtin x0 x1 x2 x3 x4):=by
 unfold builtin;repeat' (first
  |exact zq2
  |split)
end
end
section
variable[aD]
theorem Gp{α P dy mk}{s:Sem α}(h:cw P dy false s):cw P dy mk s:=by
 induction s with
 |pure a=>trivial
 |halt x=>exact h
 |load m a k ih=>exactλv=>ih v (h v)
 |store m a v k ih=>exact ih h
 |new o k ih=>exact⟨h.1,λv=>ih v (h.2 v)⟩
 |shape r k ih=>exactλv=>ih v (h v)
 |freeze a n k ih=>exact ih h
 |frozen a k ih=>exactλv=>ih v (h v)
 |getObj r k ih=>exact⟨λv hv=>ih v (h.1 v hv),h.2⟩
 |setObj r o k ih=>exact⟨h.1,ih h.2⟩
 |choose q k ih=>exactλv=>ih v (h v)
 |sys c k ih=>exact⟨h.1,λv=>ih v (h.2 v)⟩
 |program k ih=>exact ih P h
 |mark m k ih=>exact⟨λe=>absurd (h.1 e) (by decide),ih h.2⟩
theorem KZ{α P dy mk}{s:Sem α}(h:bU P dy false s):bU P dy mk s:=⟨Gp h.st⟩
def Sep(P:x5){α:Type}(s:Sem α):Prop:=cw P true false s\/cw P false true s
structure dY(P:x5):Prop where
 wait:∀g,aD.lim<=g->P.stepOf g=none
 data:P.follows .staticDataAhead=true
 num:∀(f:Nat)(fn:Func),P.funcs[f]?=some fn->(fn.name== "runtime.NumGoroutine")=false
 next:∀(f:Nat)(fn:Func),P.funcs[f]?=some fn->fn.body.isNone=true->T5 fn=none
 ext:∀(f:Nat)(fn:Func),P.funcs[f]?=some fn->fn.body.isNone=true->∀e,SJ fn=some e->∀args,bU P true false (e args)
structure bz(P:x5):Prop extends dY P where
 nogo:∀(f:Nat)(fn:Func)(c:Code),P.funcs[f]?=some fn->fn.body=some c->cT c=true
instance{P:x5}:Coe (bz P) (dY P):=⟨bz.todY⟩
theorem oy{P}(T:dY P){g}(hg:aD.lim<=g)(fr cs dy w):early P fr cs dy g w= .ended (.unsupported (.initOrder g) (fr.pos P)) w:=by
 simp[early,T.data,T.wait g hg]
def printRow:String:= "runtime.print$piece"
def uC:Next->Prop
 | .value _=>True
 | .skip=>True
 | .enter _ _=>True
 | .round _ _ _ a b=>cT a=true/\cT b=true
 | .recover=>True
 | .comm _ _ _=>aD.cm
 | .defer d=>oK d
 | .row r _=>r=printRow
 |_=>False
def Leaf{α:Type}(P:x5)(Q:α->Prop):Sem α->Prop
 | .pure a=>Q a
 | .halt _=>True
 | .load _ _ k=>∀v,Leaf P Q (k v)
 | .store _ _ _ k=>Leaf P Q k
 | .new _ k=>∀v,Leaf P Q (k v)
 | .shape _ k=>∀v,Leaf P Q (k v)
 | .freeze _ _ k=>Leaf P Q k
 | .frozen _ k=>∀v,Leaf P Q (k v)
 | .getObj _ k=>∀v,pF v->Leaf P Q (k v)
 | .setObj _ _ k=>Leaf P Q k
 | .choose _ k=>∀v,Leaf P Q (k v)
 | .sys _ k=>∀v,Leaf P Q (k v)
 | .program k=>Leaf P Q (k P)
 | .mark _ k=>Leaf P Q k
theorem eW{α β P}{Q:α->Prop}{R:β->Prop}{s f}(hs:Leaf P Q s)(hf:∀a,Q a->Leaf P R (f a)):Leaf P R (s>>=f):=by
 induction s with
 |pure a=>exact hf a hs
 |halt h=>trivial
 |load m a k ih=>exactλv=>ih v (hs v)
 |store m a v k ih=>exact ih hs
 |new o k ih=>exactλv=>ih v (hs v)
 |shape r k ih=>exactλv=>ih v (hs v)
 |freeze a n k ih=>exact ih hs
 |frozen a k ih=>exactλv=>ih v (hs v)
 |getObj r k ih=>exactλv hv=>ih v (hs v hv)
 |setObj r o k ih=>exact ih hs
 |choose q k ih=>exactλv=>ih v (hs v)
 |sys c k ih=>exactλv=>ih v (hs v)
 |program k ih=>exact ih P hs
 |mark m k ih=>exact ih hs
theorem JZ{α P}{s:Sem α}:Leaf P (λ_=>True) s:=by
 induction s<;>first |(intro v;grind)|apply_assumption
theorem bX{α β P}{R:β->Prop}{s:Sem α}{f}(hf:∀a,Leaf P R (f a)):Leaf P R (s>>=f):=eW JZ λa _=>hf a
section
variable{P:x5}{R:Next->Prop}
theorem mV{α Q}(e):Leaf P Q (SH e:Sem α):=by
 refine bX λp=> ?_
 cases e<;>first |trivial|(refine bX λ_=> ?_;first |(refine bX λ_=> ?_;trivial))
theorem mO(T:bz P)(f args):Leaf P uC (callFunc f args):=by
 cases hf:P.funcs[f]? with
 |none=>show Leaf P uC (match P.funcs[f]? with |none=>_|some fn=>_);rw[hf];trivial
 |some fn=>
  show Leaf P uC (match P.funcs[f]? with |none=>_|some fn=>_);simp only[hf,T.num f fn hf];cases hb:fn.body.isNone with
  |false=>trivial
  |true=>
   refine bX λ_=> ?_
   rw[T.next f fn hf hb];cases he:SJ fn with
   |some e=>exact bX λ_=>trivial
   |none=>
    dsimp only;split <;>trivial
theorem pt(T:bz P)(recv name args):Leaf P uC (callMethod recv name args):=by
 cases recv<;>first |(exact bX λ_=>bX λ_=>mO T _ _)|trivial
theorem wj(a b args):Leaf P uC (Extern.PrintPieces.piece a b args):=by
 unfold Extern.PrintPieces.piece;repeat' (first
  |trivial
  |(refine bX λ_=> ?_)
  |split)
theorem BR(b ats t cs args):Leaf P uC (builtin b ats t cs args):=by
 cases b<;>first
  |exact bX λ_=>trivial
  |trivial
  |(refine bX λ_=> ?_;split <;>first |trivial|exact wj _ _ _)
theorem sR(l):Leaf P Lv (SL l):=by
 refineλo ho=> ?_
 cases o<;>first |exact ho.loop|trivial
theorem Eg(l args):Leaf P uC (SX l args):=by
 refine eW (sR l) λr hr=> ?_
 split
 .trivial
 .exact⟨hr.1,hr.2.1⟩
theorem pY(T:bz P){t}(ht:Pe t)(args):Leaf P uC (invoke t args):=by
 unfold invoke;cases t with
 |nil=>exact mV _
 |builtin b ats t cs=>exact BR _ _ _ _ _
 |collected r=>trivial
 |coroexit c=>exact ht.elim
 |fn f c=>
  cases f with
  |func f=>exact mO T _ _
  |method n=>
   dsimp only;split
   .exact pt T _ _ _
   .trivial
  |methodOf t n=>
   dsimp only;split
   .refine bX λ_=> ?_
    repeat' (first |exact pt T _ _ _)
   .trivial
  |via t p f q=>
   dsimp only;split
   .exact bX λ_=>mO T _ _
   .trivial
  |yield l=>exact Eg _ _
theorem iY(ρ c t):Leaf P oK (resolve ρ c t):=by
 unfold resolve;cases c.callee with
 |builtin b=>trivial
 |invoke r n=>trivial
 |value f=>
  dsimp only;cases ρ f<;>trivial
theorem De(T:bz P)(ρ o)(h0:Lf o.op=true):Leaf P uC (SQ ρ o):=by
 unfold SQ;cases hop:o.op;case call c=>exact eW (iY _ _ _) λd hd=>pY T hd _
 case go c=>rw[hop]at h0;exact absurd ((aD.nogo c).symm.trans h0) (by decide)
 case send a b=>rw[hop]at h0;exact aD.send _ _ h0
 case recv a b c=>rw[hop]at h0;refine bX λd=> ?_;split <;>first |exact bX λ_=>aD.recv _ _ _ h0|trivial
 case select a b=>rw[hop]at h0;exact bX λ_=>aD.select _ _ h0
 case defer c=>exact eW (iY _ _ _) λd hd=>hd
 case nilCheck x=>
  repeat' (first
   |trivial
   |(refine bX λ_=> ?_)
   |split)
 all_goals first
  |exact bX λ_=>trivial
  |trivial
end
end
section
def ah(w:AS)(τ:Nat->Question->Nat)(d:Nat):AS:= {w with tape:=τ,drawn:=d}
@[simp] theorem dq(w τ d):(ah w τ d).heap=w.heap:=rfl
@[simp] theorem Rx(w τ d):(ah w τ d).os=w.os:=rfl
@[simp] theorem OL(w τ d):(ah w τ d).output=w.output:=rfl
@[simp] theorem AL(w τ d):(ah w τ d).tape=τ:=rfl
@[simp] theorem yv(w τ d):(ah w τ d).drawn=d:=rfl
@[simp] theorem xO(w τ τ' d d'):ah (ah w τ d) τ' d'=ah w τ' d':=rfl
@[simp] theorem AM(w):ah w w.tape w.drawn=w:=rfl
@[simp] theorem jT(w τ d a):(ah w τ d).cell? a=w.cell? a:=rfl
@[simp] theorem vY(w τ d a):(ah w τ d).frozen? a=w.frozen? a:=rfl
@[simp] theorem P5(w τ d r):(ah w τ d).shape? r=w.shape? r:=rfl
def Agree(k:Nat)(w:AS)(τ:Nat->Question->Nat)(d:Nat):Prop:=∀j,j<k->∀q,τ (d+j) q=w.tape (w.drawn+j) q
theorem Agree.le{k k' w τ d}(h:Agree k w τ d)(hk:k'<=k):Agree k' w τ d:=λj hj q=>h j (by omega) q
theorem Agree.tail{k k' K w w' τ d}(h:Agree K w τ d)(hK:k+k'<=K)(ht:w'.tape=w.tape)(hd:w'.drawn=w.drawn+k):Agree k' w' τ (d+k):=λj hj q=>by
 have:=h (k+j) (by omega) q;rw[ht,hd,AI,AI];omega
def dh{α:Type}:Result α->AS
 | .ok _ w=>w
 | .halt _ w=>w
def cK{α:Type}(r:Result α)(τ:Nat->Question->Nat)(d:Nat):Result α:=
 match r with
 | .ok a w=>.ok a (ah w τ d)
 | .halt h w=>.halt h (ah w τ d)
structure Loc{α:Type}(f:AS->Result α×Array Event)(w:AS)(k m:Nat):Prop where
 tape:(dh (f w).1).tape=w.tape
 drawn:(dh (f w).1).drawn=w.drawn+m
 shift:∀τ d,Agree k w τ d->f (ah w τ d)=(cK (f w).1 τ (d+m),(f w).2)
theorem y6{α}(w:AS)(what range)(k:Nat->Ask α)(hf:(Question.extern what range).forced=true):w.ask (.ask what range k)=w.ask (k 0):=by
 rw[World.ask];grind
theorem BX{α}(w what range)(k:Nat->Ask α)(hf:¬ (Question.extern what range).forced=true):
 w.ask (.ask what range k)=(ah w w.tape (w.drawn+1)).ask (k ((Question.extern what range).cut (w.tape w.drawn (Question.extern what range)))):=if_neg hf
theorem nJ{α}(x:Ask α):∀w,∃k,(w.ask x).2.tape=w.tape/\(w.ask x).2.drawn=w.drawn+k/\(w.ask x).2.heap=w.heap/\(w.ask x).2.os=w.os/\(w.ask x).2.output=w.output/\
 ∀τ d,Agree k w τ d->(ah w τ d).ask x=((w.ask x).1,ah (w.ask x).2 τ (d+k)):=by
 induction x with
 |done a=>exactλw=>⟨0,rfl,rfl,rfl,rfl,rfl,λτ d _=>rfl⟩
 |ask what range k ih=>
  intro w;by_cases hf:(Question.extern what range).forced=true
  .simp_all[y6]
  .obtain⟨n,h1,h2,h3,h4,h5,h6⟩:=ih ((Question.extern what range).cut (w.tape w.drawn (Question.extern what range))) (ah w w.tape (w.drawn+1));refine⟨1+n,?_⟩;simp[BX _ what range k hf];refine⟨h1,h2.trans (by simp[AI]),h3,h4,h5,λτ d ha=> ?_⟩;have e:=ha 0 (by omega) (Question.extern what range);have:=h6 τ (d+1) (Agree.tail (w:=w) (k:=1) ha (Sv _) rfl rfl);simp_all[AI]
section
variable{α:Type}{p:x5}
theorem NA{f g:AS->Result α×Array Event}{w w1 k m}(h:Loc g w1 k m)(e0:f w=g w1)(e1:∀τ d,f (ah w τ d)=g (ah w1 τ d))(ht:w1.tape=w.tape)(hd:w1.drawn=w.drawn):Loc f w k m:=
 ⟨by rw[e0];exact h.tape.trans ht,by rw[e0,h.drawn,hd],λτ d ha=>by rw[e1,e0];exact h.shift τ d λj hj q=>by rw[ht,hd];exact ha j hj q⟩
theorem Bx(p w a b τ d):(ah w τ d).farLoad p a b=w.farLoad p a b:=rfl
theorem El(p w x u a v b τ d):(ah w τ d).viewStore p x u a v b=(w.viewStore p x u a v b).map λy=>(ah y.1 τ d,y.2):=by
 simp only[SI,show(ah w τ d).seen p x u a b=w.seen p x u a b from rfl];by_cases ht:tight p p.depth u=true
 .simp only[ht,SM,IS,if_false];cases hs:w.seen p x u a b with
  |error e=>rfl
  |ok y=>
   cases hv:v.bytes? with
   |none=>rfl
   |some bytes=>
    simp only[bind,Except.bind];split
    .rfl
    .split <;>rfl
 .simp[ht];rfl
theorem sS(p w a v b τ d):(ah w τ d).farStore p a v b=match w.farStore p a v b with | .ok (w1,l)=>.ok (ah w1 τ d,l)| .error h=>.error h:=by
 simp[SD];split
 .rw[El];rename_i x u _;cases w.viewStore p x u a v b<;>rfl
 rfl
theorem xZ(p)(w:AS)(a v b){w1 l}(h:w.farStore p a v b= .ok (w1,l)):w1.tape=w.tape/\w1.drawn=w.drawn:=by
 have h2:=sS p w a v b w.tape w.drawn;simp[h]at h2;rw[h2];simp
end
end
section
variable[aD]
section
variable{P:x5}
theorem pM{mk}(T:dY P)(f args):bU P true mk (callFunc f args):=by
 cases hf:P.funcs[f]? with
 |none=>exact⟨by show cw P true mk (match P.funcs[f]? with |none=>_|some fn=>_);rw[hf];trivial⟩
 |some fn=>
  suffices h:bU P true mk (if(fn.name== "runtime.NumGoroutine")=true then pure Next.numGoroutine else
   if fn.body.isNone=true then(do
    mark (.extern f)
    if let some e:=T5 fn then return<- e args
    match SJ fn with
    |some e=>pure (.value (<- e args))
    |none=>
     if fn.name.endsWith ".init" && !fn.name.startsWith "(" && !fn.name.startsWith "gosem." then pure (.value (.tuple #[]))
     else unsupported (.extern fn.name))
   else pure (.enter f args)) by
   exact⟨by show cw P true mk (match P.funcs[f]? with |none=>_|some fn=>_);rw[hf];exact h.st⟩
  rw[T.num f fn hf];cases hb:fn.body.isNone with
  |false=>simp[IS];exact zq2
  |true=>
   refine @aX _ _ _ _ _ _ _ _ zq2 λ_=> ?_
   rw[T.next f fn hf hb];cases he:SJ fn with
   |some e=>exact @aX _ _ _ _ _ _ _ _ (KZ (T.ext f fn hf hb e he args)) λ_=>zq2
   |none=>
    dsimp only;split <;>exact zq2
theorem rK{mk}(T:dY P)(recv name args):bU P true mk (callMethod recv name args):=by
 unfold callMethod;cases recv<;>first |exact zq2|(exact @aX _ _ _ _ _ _ _ _ zq2 λ_=> @aX _ _ _ _ _ _ _ _ zq2 λ_=>pM T _ _)
theorem vJ{mk}(T:dY P)(t args)(hb:∀b ats ty cs,t≠.builtin b ats ty cs):bU P true mk (invoke t args):=by
 unfold invoke;cases t with
 |nil=>exact zq2
 |builtin b ats t cs=>exact absurd rfl (hb _ _ _ _)
 |collected r=>exact zq2
 |coroexit c=>exact zq2
 |fn f c=>
  cases f with
  |func f=>exact pM T _ _
  |method n=>
   dsimp only;split
   .exact rK T _ _ _
   .exact zq2
  |methodOf t n=>
   dsimp only;split
   .refine @aX _ _ _ _ _ _ _ _ zq2 λ_=> ?_
    repeat' (first |exact rK T _ _ _)
   .exact zq2
  |via t p f q=>
   dsimp only;split
   .exact @aX _ _ _ _ _ _ _ _ zq2 λ_=>pM T _ _
   .exact zq2
  |yield l=>exact zq2
theorem eH(T:dY P)(t args):St P (invoke t args):=by
 cases t with
 |builtin b ats t cs=>unfold invoke;exact zq2
 |_=>exact vJ T _ _ λ_ _ _ _ h=>by cases h
theorem un(b ats t cs args):Sep P (builtin b ats t cs args):=by
 unfold builtin;cases b;case append=>exact .inr (zq2:bU P false true _).st
 all_goals first
  |exact .inl (zq2:bU P true false _).st
theorem nh(T:dY P)(t args):Sep P (invoke t args):=by
 cases t with
 |builtin b ats t cs=>exact un _ _ _ _ _
 |_=>exact .inl (vJ T _ _ λ_ _ _ _ h=>by cases h).st
theorem um(T:dY P)(ρ c t):Sep P (do let d <- resolve ρ c t;invoke d.target d.args):=by
 unfold resolve;cases c.callee with
 |builtin b=>exact un _ _ _ _ _
 |invoke r n=>exact show Sep P (invoke (.fn (.method n) #[]) (#[ρ r]++c.args.map ρ))from nh T _ _
 |value f=>
  dsimp only;cases ρ f;case func fn a b=>exact nh T _ _
  all_goals exact .inl trivial
instance Cr{dy mk}(ρ c t):bU P dy mk (resolve ρ c t):=by
 cases c.callee with
 |builtin b=>exact zq2
 |invoke r n=>exact zq2
 |value f=>exact zq2
theorem gY(T:dY P)(ρ o):St P (SQ ρ o):=by
 unfold SQ;cases o.op;case call c=>exact @aX _ _ _ _ _ _ _ _ zq2 λd=>eH T _ _
 case nilCheck x=>
  dsimp only;repeat' (first
   |exact zq2
   |split)
 all_goals first
  |(repeat' (first
   |exact zq2
   |(refine @aX _ _ _ _ _ _ _ _ ?_ λ_=> ?_)
   |split))
theorem ER(T:dY P)(ρ o):Sep P (SQ ρ o):=by
 unfold SQ;cases o.op;case call c=>exact um T _ _ _
 case makeSlice=>exact .inr (zq2:bU P false true _).st
 all_goals
  refine(λh:bU P true false _=>Or.inl h.st) ?_;first
   |(
    dsimp only;repeat' (first
     |exact zq2
     |(refine @aX _ _ _ _ _ _ _ _ ?_ λ_=> ?_)
     |split))
end
def IM(r:Nat)(o:Obj):Prop:=pE o\/((∃c t,o= .pending c t)/\aD.lim<=r)\/∃c,o= .coro c
theorem IM.i{r o}(h:IM r o):pF o:=h.imp id λh=>h.imp (·.1) id
def an(w:AS):Prop:=∀(r:Nat)(o:Obj),w.heap[r]?=some o->IM r o
theorem jK{w o}(h:an w)(ho:pE o):an {w with heap:=w.heap.push o}:=by
 intro r x hx;rw[Array.getElem?_push]at hx;split at hx
 .cases hx;exact .inl ho
 .exact h r x hx
theorem eE{w r o}(h:an w)(ho:pE o):an {w with heap:=w.heap.setIfInBounds r o}:=by
 intro r' x hx;rw[Array.getElem?_setIfInBounds]at hx;split at hx
 .split at hx
  .cases hx;exact .inl ho
  grind
 .exact h r' x hx
theorem rT{w r f}(h:an w)(hf:∀r o,IM r o->IM r (f o)):an {w with heap:=w.heap.modify r f}:=by
 intro r' x hx;rw[Array.getElem?_modify]at hx;split at hx
 .obtain⟨y,hy,rfl⟩:=Option.map_eq_some_iff.1 hx;exact hf _ _ (h _ y hy)
 .exact h r' x hx
theorem eO{w}(h:an w)(a v):an (w.setCell a v):=
 rT h λr o ho=>by cases o<;>first |exact ho|exact .inl trivial
theorem iz{w}(h:an w)(a n):an (w.freeze a n):=by
 unfold SG;split
 .exact h
 .exact rT h λr o ho=>by cases o<;>first |exact ho|exact .inl trivial
theorem uY{P w}(h:an w){x u a v b w1 l}(e:w.viewStore P x u a v b= .ok (w1,l)):an w1:=by
 simp[SI,bind,Except.bind]at e;repeat' split at e
 all_goals first
  |(cases e;done)
  |(obtain⟨rfl,_⟩:=e;exact eE h trivial)
theorem gp{P w}(h:an w){a v b w1 l}(e:w.farStore P a v b= .ok (w1,l)):an w1:=by
 unfold SD at e;split at e
 .split at e
  .rename_i hv;simp[Except.ok.injEq]at e;subst e;exact uY h hv
  .cases e
 .cases e
theorem Fj{α w}(x:Ask α)(h:an w):an (w.ask x).2:=by
 obtain⟨k,h1,h2,h3,_⟩:=nJ x w;intro r o hr;rw[h3]at hr;exact h r o hr
theorem kU{w}(h:an w)(c):an (w.sys c).2:=by
 unfold World.sys;have:=Fj (SE c w.os) h;generalize w.ask (SE c w.os)=x at this ⊢;obtain⟨⟨r,os⟩,w1⟩:=x;cases r<;>first |exact h|exact this
theorem cf{α P}{s:Sem α}(hs:l6 P s):∀w es,an w->an (dh (s.runT P w es).1):=by
 induction s with
 |pure a=>exactλw es h=>h
 |halt x=>exactλw es h=>h
 |load m a k ih=>
  intro w es h;simp only[up];split
  .exact ih _ (hs _) _ _ h
  .split
   .exact ih _ (hs _) _ _ h
   .exact h
 |store m a v k ih=>
  intro w es h;cases v;all_goals simp only[up]
  case agg=>exact h
  case tuple=>exact h
  all_goals
   split
   .split
    .exact h
    .exact ih hs _ _ (eO h _ _)
   .split
    .rename_i hf;exact ih hs _ _ (gp h hf)
    .exact h
 |new o k ih=>exactλw es h=>ih _ (hs.2 _) _ _ (jK h hs.1)
 |shape r k ih=>exactλw es h=>ih _ (hs _) _ _ h
 |freeze a n k ih=>exactλw es h=>ih hs _ _ (iz h _ _)
 |frozen a k ih=>exactλw es h=>ih _ (hs _) _ _ h
 |getObj r k ih=>
  intro w es h;simp only[up];split
  .exact h
  .exact ih _ (hs.1 _ (h _ _ (by assumption)).i) _ _ h
  .exact h
 |setObj r o k ih=>
  intro w es h;simp only[up];split
  .exact h
  .exact ih hs.2 _ _ (eE h hs.1)
  .exact h
 |choose q k ih=>
  intro w es h;simp only[up];split
  .exact ih _ (hs _) _ _ h
  .exact ih _ (hs _) _ _ h
 |sys c k ih=>exactλw es h=>ih _ (hs.2 _) _ _ (kU h c)
 |program k ih=>exactλw es h=>ih _ hs _ _ h
 |mark m k ih=>exactλw es h=>ih hs.2 _ _ h
theorem rh{α P}{Q:α->Prop}{s}(st:l6 P s)(hs:Leaf P Q s):∀w es,an w->∀a w' es',s.runT P w es=(.ok a w',es')->Q a:=by
 induction s with
 |pure a=>intro w es hw a' w' es' h;cases h;exact hs
 |halt h=>simp
 |load m a k ih=>
  intro w es hw a' w' es' h;simp only[up]at h;split at h
  .exact ih _ (st _) (hs _) _ _ hw _ _ _ h
  .split at h
   .exact ih _ (st _) (hs _) _ _ hw _ _ _ h
   .cases h
 |store m a v k ih=>
  intro w es hw a' w' es' h;cases v;all_goals simp only[up]at h
  case agg=>cases h
  case tuple=>cases h
  all_goals
   split at h
   .split at h
    .cases h
    .exact ih st hs _ _ (eO hw _ _) _ _ _ h
   .split at h
    .rename_i hf;exact ih st hs _ _ (gp hw hf) _ _ _ h
    .cases h
 |new o k ih=>intro w es hw a' w' es' h;exact ih _ (st.2 _) (hs _) _ _ (jK hw st.1) _ _ _ h
 |shape r k ih=>intro w es hw a' w' es' h;exact ih _ (st _) (hs _) _ _ hw _ _ _ h
 |freeze a n k ih=>intro w es hw a' w' es' h;exact ih st hs _ _ (iz hw _ _) _ _ _ h
 |frozen a k ih=>intro w es hw a' w' es' h;exact ih _ (st _) (hs _) _ _ hw _ _ _ h
 |getObj r k ih=>
  intro w es hw a' w' es' h;simp only[up]at h;split at h
  .cases h
  .have hk:=(hw _ _ (by assumption)).i;exact ih _ (st.1 _ hk) (hs _ hk) _ _ hw _ _ _ h
  .cases h
 |setObj r o k ih=>
  intro w es hw a' w' es' h;simp only[up]at h;split at h
  .cases h
  .exact ih st.2 hs _ _ (eE hw st.1) _ _ _ h
  .cases h
 |choose q k ih=>
  intro w es hw a' w' es' h;simp only[up]at h;split at h
  .exact ih _ (st _) (hs _) _ _ hw _ _ _ h
  .exact ih _ (st _) (hs _) {w with drawn:=w.drawn+1} _ hw _ _ _ h
 |sys c k ih=>intro w es hw a' w' es' h;exact ih _ (st.2 _) (hs _) _ _ (kU hw c) _ _ _ h
 |program k ih=>intro w es hw a' w' es' h;exact ih _ st hs _ _ hw _ _ _ h
 |mark m k ih=>intro w es hw a' w' es' h;exact ih st.2 hs _ _ hw _ _ _ h
theorem pQ{α P}{s:Sem α}(st:l6 P s):∀w es,an w->∀x w' es',s.runT P w es=(.halt x w',es')->lO x:=by
 have far:∀(w:AS)(a:Addr)(s:String),an w->lO (w.noCell a s):=λw a s hw=>by
  unfold World.noCell;split
  .rename_i h;exact(hw _ _ h).elim (λh=>h.elim) λh=>h.elim (·.2) λ⟨_,e⟩=>by cases e
  .trivial
  .trivial
 have farL:∀(w:AS)(a:Addr)(b:Bool)(x:Halt),an w->w.farLoad P a b= .error x->lO x:=λw a b x hw h=>by
  unfold World.farLoad at h;split at h
  .split at h
   .cases h
   .cases h;trivial
  grind
 have farS:∀(w:AS)(a:Addr)(v:Value)(b:Bool)(x:Halt),an w->w.farStore P a v b= .error x->lO x:=λw a v b x hw h=>by
  unfold SD at h;split at h
  .split at h
   .cases h
   .cases h;trivial
  grind
 induction s with
 |pure a=>simp
 |halt x0=>intro w es hw x w' es' h;cases h;exact st
 |load m a k ih=>
  intro w es hw x w' es' h;simp only[up]at h;split at h
  .exact ih _ (st _) _ _ hw _ _ _ h
  .split at h
   .exact ih _ (st _) _ _ hw _ _ _ h
   grind
 |store m a v k ih=>
  intro w es hw x w' es' h;cases v;all_goals simp only[up]at h
  case agg=>cases h;trivial
  case tuple=>cases h;trivial
  all_goals
   split at h
   .split at h
    .cases h;trivial
    .exact ih st _ _ (eO hw _ _) _ _ _ h
   .split at h
    .rename_i hf;exact ih st _ _ (gp hw hf) _ _ _ h
    .rename_i hf;cases h;exact farS _ _ _ _ _ hw hf
 |new o k ih=>intro w es hw x w' es' h;exact ih _ (st.2 _) _ _ (jK hw st.1) _ _ _ h
 |shape r k ih=>intro w es hw x w' es' h;exact ih _ (st _) _ _ hw _ _ _ h
 |freeze a n k ih=>intro w es hw x w' es' h;exact ih st _ _ (iz hw _ _) _ _ _ h
 |frozen a k ih=>intro w es hw x w' es' h;exact ih _ (st _) _ _ hw _ _ _ h
 |getObj r k ih=>
  intro w es hw x w' es' h;simp only[up]at h;split at h
  .cases h;trivial
  .exact ih _ (st.1 _ (hw _ _ (by assumption)).i) _ _ hw _ _ _ h
  .cases h;trivial
 |setObj r o k ih=>
  intro w es hw x w' es' h;simp only[up]at h;split at h
  .cases h;trivial
  .exact ih st.2 _ _ (eE hw st.1) _ _ _ h
  .cases h;trivial
 |choose q k ih=>
  intro w es hw x w' es' h;simp only[up]at h;split at h
  .exact ih _ (st _) _ _ hw _ _ _ h
  .exact ih _ (st _) {w with drawn:=w.drawn+1} _ hw _ _ _ h
 |sys c k ih=>intro w es hw x w' es' h;exact ih _ (st.2 _) _ _ (kU hw c) _ _ _ h
 |program k ih=>intro w es hw x w' es' h;exact ih _ st _ _ hw _ _ _ h
 |mark m k ih=>intro w es hw x w' es' h;exact ih st.2 _ _ hw _ _ _ h
theorem J8(c w):(∃m,(w.sys c).2.tape=w.tape/\(w.sys c).2.drawn=w.drawn+m/\∀τ d,Agree m w τ d->(ah w τ d).sys c=((w.sys c).1,ah (w.sys c).2 τ (d+m)))\/(w.sys c).1= .wouldBlock:=by
 obtain⟨k,h1,h2,h3,h4,h5,h6⟩:=nJ (SE c w.os) w;unfold World.sys;cases hr:w.ask (SE c w.os)with
 |mk a w1=>
  obtain⟨r,os⟩:=a;rw[hr]at h1 h2 h3 h4 h5 h6;cases r;case wouldBlock=>exact .inr rfl
  all_goals
   refine .inl ⟨k,h1,h2,λτ d ha=> ?_⟩;simp[h6 τ d ha];rfl
section
variable{α:Type}{p:x5}
def FY(f:AS->Result α×Array Event)(w:AS):Prop:=(∃m,Loc f w m m)\/∃h w',(f w).1= .halt h w'/\Dead h
theorem fR{f g:AS->Result α×Array Event}{w w1}(h:FY g w1)(e0:f w=g w1)(e1:∀τ d,f (ah w τ d)=g (ah w1 τ d))(ht:w1.tape=w.tape)(hd:w1.drawn=w.drawn):FY f w:=by
 rcases h with⟨m,h⟩|⟨x,w',h,hx⟩
 .exact .inl ⟨m,NA h e0 e1 ht hd⟩
 .exact .inr ⟨x,w',by rw[e0];omega,hx⟩
theorem gG{f:AS->Result α×Array Event}{w}(h:Loc f w 0 0):FY f w:=.inl ⟨0,h⟩
theorem Jo(p)(s:Sem α):∀w es,l6 p s->an w->FY (λw=>s.runT p w es) w:=by
 induction s with
 |pure a=>exactλw es _ _=>gG ⟨rfl,rfl,λτ d _=>rfl⟩
 |load m a k ih=>
  intro w es hs hw;cases hc:w.cell? a with
  |some v=>exact fR (ih v w (es.push ⟨.cell a,false,m== .atomic⟩) (hs v) hw) (by simp only[up,hc]) λτ d=>by simp only[up,jT,hc] rfl rfl
  |none=>
   cases hf:w.farLoad p a (m== .atomic)with
   |ok r=>
    obtain⟨v,l⟩:=r;exact fR (ih v w (es++l.toArray.map (⟨.cell ·,false,m== .atomic⟩)) (hs v) hw) (by simp only[up,hc,hf]) λτ d=>by simp only[up,jT,hc,Bx,hf] rfl rfl
   |error e=>exact gG ⟨by simp only[up,hc,hf];rfl,by simp only[up,hc,hf];rfl,λτ d _=>by simp only[up,jT,hc,Bx,hf];rfl⟩
 |store m a v k ih=>
  intro w es hs hw;by_cases hv:v.oneCell'=true
  .have e0:∀u:AS,(Sem.store m a v k).runT p u es=(match u.cell? a with
    |some _=>if u.frozen? a then(.halt (.unsupported (.unsafePointer "a write to bytes that a string shares")) u,es)else k.runT p (u.setCell a v) (es.push ⟨.cell a,true,m== .atomic⟩)
    |none=>match u.farStore p a v (m== .atomic)with
     | .ok (u,touched)=>k.runT p u (es++touched.toArray.map (⟨.cell ·,true,m== .atomic⟩))
     | .error h=>(.halt h u,es)):=λu=>by
    cases v<;>first |rfl|(exact absurd hv (by decide))|(simp[Value.oneCell']at hv)
   cases hc:w.cell? a with
   |some o=>
    by_cases hz:w.frozen? a=true
    .exact gG ⟨by simp only[e0,hc,hz,if_true];rfl,by simp only[e0,hc,hz,if_true];rfl,λτ d _=>by simp only[e0,jT,vY,hc,hz,if_true];rfl⟩
    .exact fR (ih (w.setCell a v) (es.push ⟨.cell a,true,m== .atomic⟩) hs (eO hw _ _)) (by grind) λτ d=>by simp only[e0,jT,vY,hc,hz];rfl rfl rfl
   |none=>
    cases hf:w.farStore p a v (m== .atomic)with
    |ok r=>
     obtain⟨w1,l⟩:=r;obtain⟨t1,t2⟩:=xZ p w a v _ hf;exact fR (ih w1 (es++l.toArray.map (⟨.cell ·,true,m== .atomic⟩)) hs (gp hw hf)) (by simp only[e0,hc,hf]) λτ d=>by simp only[e0,jT,hc,sS,hf] t1 t2
    |error e=>exact gG ⟨by simp only[e0,hc,hf];rfl,by simp only[e0,hc,hf];rfl,λτ d _=>by simp only[e0,jT,hc,sS,hf];rfl⟩
  .have e0:∀u:AS,(Sem.store m a v k).runT p u es=(.halt (.stuck "store: not the value of one cell") u,es):=λu=>by
    cases v<;>first |rfl|(exact absurd rfl hv)
   exact gG ⟨by rw[e0];rfl,by rw[e0];rfl,λτ d _=>by rw[e0,e0];rfl⟩
 |new o k ih=>exactλw es hs hw=>fR (ih w.heap.size {w with heap:=w.heap.push o} es (hs.2 _) (jK hw hs.1)) rfl (λτ d=>rfl) rfl rfl
 |shape r k ih=>exactλw es hs hw=>fR (ih (w.shape? r) w es (hs _) hw) rfl (λτ d=>rfl) rfl rfl
 |freeze a n k ih=>
  intro w es hs hw;refine fR (ih (w.freeze a n) es hs (iz hw _ _)) rfl (λτ d=> ?_) ?_ ?_
  .simp only[up,SG];split <;>rfl
  .grind [SG]
  grind [SG]
 |frozen a k ih=>exactλw es hs hw=>fR (ih (w.frozen? a) w es (hs _) hw) rfl (λτ d=>rfl) rfl rfl
 |getObj r k ih=>
  intro w es hs hw;cases hr:w.heap[r]? with
  |none=>exact gG ⟨by simp only[up,hr];rfl,by simp only[up,hr];rfl,λτ d _=>by simp only[up,dq,hr];rfl⟩
  |some o=>
   by_cases hc:∃c e z,o= .cells c e z
   .obtain⟨c,e,z,rfl⟩:=hc;exact gG ⟨by simp only[up,hr];rfl,by simp only[up,hr];rfl,λτ d _=>by simp only[up,dq,hr];rfl⟩
   .have e0:∀u:AS,u.heap[r]?=some o->(Sem.getObj r k).runT p u es=(k o).runT p u (es.push ⟨.obj r,false,o.isChan⟩):=λu hu=>by
     grind [up]
    exact fR (ih o w (es.push ⟨.obj r,false,o.isChan⟩) (hs.1 o (hw _ _ hr).i) hw) (e0 w hr) (λτ d=>e0 _ hr) rfl rfl
 |setObj r o k ih=>
  intro w es hs hw;cases hr:w.heap[r]? with
  |none=>exact gG ⟨by simp only[up,hr];rfl,by simp only[up,hr];rfl,λτ d _=>by simp only[up,dq,hr];rfl⟩
  |some o1=>
   by_cases hc:∃c e z,o1= .cells c e z
   .obtain⟨c,e,z,rfl⟩:=hc;exact gG ⟨by simp only[up,hr];rfl,by simp only[up,hr];rfl,λτ d _=>by simp only[up,dq,hr];rfl⟩
   .have e0:∀u:AS,u.heap[r]?=some o1->(Sem.setObj r o k).runT p u es=k.runT p {u with heap:=u.heap.setIfInBounds r o} (es.push ⟨.obj r,true,o.isChan⟩):=λu hu=>by
     simp_all[up]
    exact fR (ih {w with heap:=w.heap.setIfInBounds r o} (es.push ⟨.obj r,true,o.isChan⟩) hs.2 (eE hw hs.1)) (e0 w hr) (λτ d=>e0 _ hr) rfl rfl
 |choose q k ih=>
  intro w es hs hw;by_cases hf:q.forced=true
  .exact fR (ih 0 w es (hs _) hw) (by simp only[up,hf,if_true]) λτ d=>by simp only[up,hf,if_true] rfl rfl
  .have e0:∀v:AS,(Sem.choose q k).runT p v es=(k (q.cut (v.tape v.drawn q))).runT p (ah v v.tape (v.drawn+1)) es:=λv=>by
    exact if_neg hf
   rcases ih (q.cut (w.tape w.drawn q)) (ah w w.tape (w.drawn+1)) es (hs _) hw with⟨y,h⟩|⟨x,w',h,hx⟩
   .refine .inl ⟨1+y,?_,?_,λτ d ha=> ?_⟩
    .rw[e0];exact h.tape
    .rw[e0,h.drawn];simp[AI]
    .have e:=ha 0 (by omega) q;have:=h.shift τ (d+1) (Agree.tail (w:=w) (k:=1) ha (Sv _) rfl rfl);simp_all[AL,yv,xO,AI]
   .exact .inr ⟨x,w',(congrArg Prod.fst (e0 w)).trans h,hx⟩
 |sys c k ih=>
  intro w es hs hw;have e0:∀u:AS,(Sem.sys c k).runT p u es=(k (u.sys c).1).runT p (u.sys c).2 (es.push ⟨.output,true,false⟩):=λu=>rfl
  rcases J8 c w with⟨b,h1,h2,h3⟩|hb
  .rcases ih (w.sys c).1 (w.sys c).2 (es.push ⟨.output,true,false⟩) (hs.2 _) (kU hw c)with⟨y,h⟩|⟨x,w',h,hx⟩
   .refine .inl ⟨b+y,?_,?_,λτ d ha=> ?_⟩
    .exact h.tape.trans h1
    .rw[e0,h.drawn,h2,AI]
    .rw[e0,e0,h3 τ d (ha.le (by omega))];rw[<- AI];exact h.shift τ (d+b) (Agree.tail (w:=w) (k:=b) ha (by omega) h1 h2)
   .exact .inr ⟨x,w',(congrArg Prod.fst (e0 w)).trans h,hx⟩
  .obtain⟨x,hx,hd⟩:=hs.1;exact .inr ⟨x,(w.sys c).2,(congrArg Prod.fst (e0 w)).trans (by rw[hb,hx];rfl),hd⟩
 |program k ih=>exactλw es hs hw=>fR (ih p w es hs hw) rfl (λτ d=>rfl) rfl rfl
 |mark m k ih=>exactλw es hs hw=>fR (ih w (es.push ⟨.mark m,false,true⟩) hs.2 hw) rfl (λτ d=>rfl) rfl rfl
 |halt h=>exactλw es _ _=>gG ⟨rfl,rfl,λτ d _=>rfl⟩
end
structure jy(f:AS->GStep)(w:AS)(g':Goroutine)(w':AS)(es:Array Event)(k m:Nat):Prop where
 le:k<=m
 tape:w'.tape=w.tape
 drawn:w'.drawn=w.drawn+m
 shift:∀τ d,Agree k w τ d->f (ah w τ d)= .go g' (ah w' τ (d+m)) es
theorem kt{c}[Decidable c]{A B X:GStep}(h:(if c then A else B)=X):c/\A=X\/¬ c/\B=X:=by
 by_cases hc:c
 .grind
 grind
theorem aZ{es es' s g w}(h:Sw es s= .go g w es'):∃e2,s= .go g w e2/\es'=es++e2:=by
 cases s<;>first |cases h
 simp
theorem HU(P:x5)(w τ d):∀n f,P.found (ah w τ d) n f=P.found w n f:=by
 intro n;induction n with
 |zero=>intro f;rfl
 |succ n ih=>intro f;simp[Program.found,ih];rfl
theorem Dm(P:x5)(w τ d):∀n l s,P.brought (ah w τ d) n l s=P.brought w n l s:=by
 intro n;induction n with
 |zero=>intro l s;rfl
 |succ n ih=>
  intro l s;cases l with
  |nil=>rfl
  |cons f todo=>simp_all[Program.brought]
theorem bT{f w w' g' es}(ht:w'.tape=w.tape)(hd:w'.drawn=w.drawn)(h:∀τ d,f (ah w τ d)= .go g' (ah w' τ d) es):∃k m,jy f w g' w' es k m:=
 ⟨0,0,Sv _,ht,hd,λτ d _=>h τ d⟩
theorem dx{α P}{s:Sem α}[hs:St P s]{w}(hw:an w)(es):(∃k m,k<=m/\Loc (λw=>s.runT P w es) w k m)\/∃h w',(s.runT P w es).1= .halt h w'/\Dead h:=by
 rcases Jo P s w es hs.st hw with⟨m,h⟩|h<;>grind
theorem Ij{P fr callers dying g w w' g' es}(h:early P fr callers dying g w= .go g' w' es):
 ∃k m,jy (λw=>early P fr callers dying g w) w g' w' es k m:=by
 unfold early at h;dsimp only at h;have fr0:=HU P;have br0:=Dm P;have sh0:∀τ d,(ah w τ d).shape?=w.shape?:=λ_ _=>rfl
 have ch0:∀v:AS,(choose (.early g)).run P v= .ok ((SK g).cut (v.tape v.drawn (.early g))) (ah v v.tape (v.drawn+1)):=λv=>by
  rfl
 rw[ch0]at h;have hc0:∀τ d,Agree 1 w τ d->τ d (.early g)=w.tape w.drawn (.early g):=λτ d ha=>ha 0 (by omega) _
 rcases Nat.eq_zero_or_pos ((SK g).cut (w.tape w.drawn (.early g)))with hz|hz
 .rw[hz]at h;repeat' split at h
  all_goals first
   |(cases h;done)
   |(
    cases h;refine bT rfl rfl λτ d=> ?_
    unfold early;simp[*]<;>rfl)
   |(done)
   |(
    have hq:(SO 0 (ah w w.tape (w.drawn+1)):Result Nat)=_:= ‹(SO 0 (ah w w.tape (w.drawn+1)):Result Nat)=_›;simp only[Result.ok.injEq,true_and]at hq;subst hq;have hp:w.heap[g]?=_:= ‹(ah w w.tape (w.drawn+1)).heap[g]?=_›;cases h;refine⟨1,1,Sv _,rfl,rfl,λτ d ha=> ?_⟩;unfold early;simp[*]<;>rfl)
   |(grind)
 .obtain⟨n,hz⟩:∃n,(SK g).cut (w.tape w.drawn (.early g))=n+1:=⟨_,(Nat.succ_pred_eq_of_pos hz).symm⟩;rw[hz]at h;repeat' split at h
  all_goals first
   |(done)
   |(
    cases h;refine bT rfl rfl λτ d=> ?_
    unfold early;simp[*]<;>rfl)
   |(grind)
   |(
    have hq:(SO (n+1) (ah w w.tape (w.drawn+1)):Result Nat)=_:= ‹(SO (n+1) (ah w w.tape (w.drawn+1)):Result Nat)=_›;cases hq;cases h;refine⟨1,1,Sv _,rfl,rfl,λτ d ha=> ?_⟩;unfold early;simp[*])
   |trace_state
theorem tD{α P}{s:Sem α}{w k m}(h:Loc (λw=>s.runT P w #[]) w k m){r}(hr:s.run P w=r):(dh r).tape=w.tape/\(dh r).drawn=w.drawn+m/\∀τ d,Agree k w τ d->s.run P (ah w τ d)=cK r τ (d+m):=by
 subst hr;have e:=λu=>Sz P s u #[]
 refine⟨by rw[<- e];exact h.tape,by rw[<- e];exact h.drawn,λτ d ha=> ?_⟩;rw[<- e,<- e,h.shift τ d ha]
instance xy{dy mk}(P s):bU P dy mk (withAddress s):=by
 unfold withAddress;exact zq2
instance xz{dy mk P}:∀c b,bU P dy mk (reportChain c b):=by
 intro c;induction c with
 |nil=>intro b;unfold reportChain;exact zq2
 |cons e c ih=>
  intro b;repeat' (first
   |exact zq2
   |(refine @aX _ _ _ _ _ _ _ _ ?_ λ_=> ?_)
   |(refine @vI _ _ _ _ _ _ _ _ _ ?_ ?_)
   |split)
theorem sX{P fr callers dy msg w w' g' es}(hw:an w)(h:endFatal P fr callers dy msg w= .go g' w' es):
 ∃k m,jy (λw=>endFatal P fr callers dy msg w) w g' w' es k m:=by
 have H:∀(shown:Sem (List (ByteArray×String)×List ByteArray))(F:AS->GStep),St P shown->(∀w,F w=(match shown.run P w with
  | .ok (texts,tabs) w=>dieOf fr (panicPieces texts++tabs) msg true w
  | .halt (.unsupported u) w=>.ended (.unsupported u "") w
  | .halt _ w=>.ended (.stuck "the report of a panic" "") w))->F w= .go g' w' es->∃k m,jy F w g' w' es k m:=by
  intro s F hs hF h;rw[hF]at h;rcases dx (P:=P) (s:=s) hw #[]with⟨k,m,hk,hL⟩|⟨x0,wx,hx,hdd⟩
  .generalize hr:s.run P w=r at h;obtain⟨h1,h2,h3⟩:=tD hL hr;cases r with
   |ok a v=>
    cases h;exact⟨k,m,hk,h1,h2,λτ d ha=>by rw[hF,h3 τ d ha];rfl⟩
   |halt x v=>cases x<;>cases h
  grind [Sz]
 have hraw:∀vs:List (Value×String),St P (vs.mapM λ(v,mark)=>match panicText P true v with
  | .text s=>pure (s,mark)
  | .address s=>do pure (<- withAddress s,mark)
  |_=>unsupported (.noEntry "a fatal error during a panic whose value the report cannot show")):=by
  intro vs;refine @pL _ _ _ _ _ _ _ (λx=> ?_) _;dsimp only;split <;>exact zq2
 refine H _ _ ?_ (λw=>rfl) h;split
 .exact zq2
 .exact @aX _ _ _ _ _ _ _ _ zq2 λ_=> @aX _ _ _ _ _ _ _ _ (hraw _) λ_=>zq2
 .exact @aX _ _ _ _ _ _ _ _ (hraw _) λ_=>zq2
 .exact zq2
theorem FR{P fr callers dy s w w' wx g' es x}(h:stepG.apply P true fr callers dy s w= .go g' w' es)(hx:(s.runT P w #[]).1= .halt x wx)(hd:Dead x)(hst:g'.status= .running):False:=by
 unfold stepG.apply at h;generalize s.runT P w #[]=y at h hx;obtain⟨r,e0⟩:=y;subst hx;cases x;case unsupported u=>
  cases u<;>first
   |exact hd.elim
   |(obtain⟨e2,h4,_⟩:=aZ h;cases h4)
 all_goals first
  |exact hd.elim
  |(
   obtain⟨e2,h4,_⟩:=aZ h;first
    |(grind))
theorem pw{P fr callers dy s}[hs:St P s]{w w' g' es}(hw:an w)(h:stepG.apply P true fr callers dy s w= .go g' w' es)(hst:g'.status= .running):
 ∃k m,jy (λw=>stepG.apply P true fr callers dy s w) w g' w' es k m:=by
 obtain⟨k,m,hk,hL⟩:=(dx (P:=P) (s:=s) hw #[]).resolve_right λ⟨x,wx,hx,hdd⟩=>FR h hx hdd hst
 have h1:=hL.tape;have h2:=hL.drawn;have h3:=hL.shift;clear hL;have hH:=cf hs.st w #[] hw;unfold stepG.apply at h;simp only[if_true]at h;generalize hr:s.runT P w #[]=x at h h1 h2 h3 hH;obtain⟨r,e0⟩:=x;cases r with
 |ok n v=>
  cases n;all_goals dsimp only at h h1 h2 h3
  case value u=>
   obtain⟨e2,h4,rfl⟩:=aZ h;cases h4;exact⟨k,m,hk,h1,h2,λτ d ha=>by simp only[stepG.apply,if_true,h3 τ d ha,cK];rfl⟩
  case skip=>
   obtain⟨e2,h4,rfl⟩:=aZ h;cases h4;exact⟨k,m,hk,h1,h2,λτ d ha=>by simp only[stepG.apply,if_true,h3 τ d ha,cK];rfl⟩
  case enter f args=>
   obtain⟨e2,h4,rfl⟩:=aZ h;cases h4;exact⟨k,m,hk,h1,h2,λτ d ha=>by simp only[stepG.apply,if_true,h3 τ d ha,cK];rfl⟩
  case round l f tmps assign body=>
   obtain⟨e2,h4,rfl⟩:=aZ h;cases h4;exact⟨k,m,hk,h1,h2,λτ d ha=>by simp only[stepG.apply,if_true,h3 τ d ha,cK];rfl⟩
  case defer x=>
   obtain⟨e2,h4,rfl⟩:=aZ h;cases h4;exact⟨k,m,hk,h1,h2,λτ d ha=>by simp only[stepG.apply,if_true,h3 τ d ha,cK];rfl⟩
  case recover=>
   obtain⟨e2,h4,rfl⟩:=aZ h;refine⟨k,m,?_⟩;cases hro:fr.roundOf with
   |none=>
    simp only[hro]at h4;cases hx:tryRecover fr callers with
    |none=>
     simp only[hx]at h4;cases h4;exact⟨hk,h1,h2,λτ d ha=>by simp only[stepG.apply,if_true,h3 τ d ha,cK,hro,hx];rfl⟩
    |some y=>
     simp only[hx]at h4;cases h4;exact⟨hk,h1,h2,λτ d ha=>by simp only[stepG.apply,if_true,h3 τ d ha,cK,hro,hx];rfl⟩
   |some l=>
    simp only[hro]at h4;cases hx:if P.follows .rangeFuncRecover then tryRecover fr callers else tryRecoverLoop l callers with
    |none=>
     simp only[hx]at h4;cases h4;exact⟨hk,h1,h2,λτ d ha=>by simp only[stepG.apply,if_true,h3 τ d ha,cK,hro,hx];rfl⟩
    |some y=>
     simp only[hx]at h4;cases h4;exact⟨hk,h1,h2,λτ d ha=>by simp only[stepG.apply,if_true,h3 τ d ha,cK,hro,hx];rfl⟩
  case spawn x=>
   obtain⟨e2,h4,rfl⟩:=aZ h;rcases kt h4 with⟨hc,h5⟩|⟨hc,h5⟩
   .cases h5;refine⟨k,m,hk,h1,h2,λτ d ha=> ?_⟩;simp only[stepG.apply,if_true,h3 τ d ha,cK];refine(congrArg (Sw _) (if_pos hc)).trans ?_;rfl
   grind
  case callThen x resume saved wrapper=>
   obtain⟨e2,h4,rfl⟩:=aZ h;cases hfd:fr.todo with
   |nil=>
    simp only[hfd]at h4;cases h4;exact⟨k,m,hk,h1,h2,λτ d ha=>by simp only[stepG.apply,if_true,h3 τ d ha,cK,hfd];rfl⟩
   |cons it k'=>
    cases it<;>simp only[hfd]at h4<;>cases h4<;>exact⟨k,m,hk,h1,h2,λτ d ha=>by simp only[stepG.apply,if_true,h3 τ d ha,cK,hfd];rfl⟩
  case row x args=>
   obtain⟨e2,h4,rfl⟩:=aZ h;cases hfd:fr.todo with
   |nil=>
    simp only[hfd]at h4;cases h4;exact⟨k,m,hk,h1,h2,λτ d ha=>by simp only[stepG.apply,if_true,h3 τ d ha,cK,hfd];rfl⟩
   |cons it k'=>
    cases it<;>simp only[hfd]at h4<;>cases h4<;>exact⟨k,m,hk,h1,h2,λτ d ha=>by simp only[stepG.apply,if_true,h3 τ d ha,cK,hfd];rfl⟩
  case stack resume saved=>
   obtain⟨e2,h4,rfl⟩:=aZ h;cases hfd:fr.todo with
   |nil=>
    simp only[hfd]at h4;cases h4;exact⟨k,m,hk,h1,h2,λτ d ha=>by simp only[stepG.apply,if_true,h3 τ d ha,cK,hfd];rfl⟩
   |cons it k'=>
    cases it<;>simp only[hfd]at h4<;>cases h4<;>exact⟨k,m,hk,h1,h2,λτ d ha=>by simp only[stepG.apply,if_true,h3 τ d ha,cK,hfd];rfl⟩
  case sleep till=>
   obtain⟨e2,h4,rfl⟩:=aZ h<;>grind
  all_goals
   obtain⟨e2,h4,rfl⟩:=aZ h;cases h4
 |halt x v=>
  cases x;all_goals dsimp only at h h1 h2 h3
  case panic u=>
   obtain⟨e2,h4,rfl⟩:=aZ h;cases h4;exact⟨k,m,hk,h1,h2,λτ d ha=>by simp only[stepG.apply,if_true,h3 τ d ha,cK];rfl⟩
  case goexit=>
   obtain⟨e2,h4,rfl⟩:=aZ h;cases h4;exact⟨k,m,hk,h1,h2,λτ d ha=>by simp only[stepG.apply,if_true,h3 τ d ha,cK];rfl⟩
  case blocked=>
   obtain⟨e2,h4,rfl⟩:=aZ h<;>grind
  case waiting=>
   obtain⟨e2,h4,rfl⟩:=aZ h<;>grind
  case exit c=>
   obtain⟨e2,h4,rfl⟩:=aZ h<;>grind
  case stuck c=>
   obtain⟨e2,h4,rfl⟩:=aZ h<;>grind
  case throw c=>
   obtain⟨e2,h4,rfl⟩:=aZ h;cases h4;exact⟨k,m,hk,h1,h2,λτ d ha=>by simp only[stepG.apply,if_true,h3 τ d ha,cK];rfl⟩
  case fatal c=>
   obtain⟨e2,h4,rfl⟩:=aZ h;obtain⟨k',m',hL⟩:=sX (w:=v) hH h4;have hle:=hL.le;have h0:v.drawn=w.drawn+m:=h2;refine⟨m+k',m+m',by omega,hL.tape.trans h1,hL.drawn.trans (by rw[h0,AI]),λτ d ha=> ?_⟩;have e3:=hL.shift τ (d+m) (Agree.tail (w:=w) (k:=m) ha (by omega) h1 h2);simp only[stepG.apply,if_true,h3 τ d (ha.le (by omega)),cK];refine(congrArg (Sw _) e3).trans ?_;rw[AI];rfl
  case unsupported u=>
   obtain⟨e2,h4,rfl⟩:=aZ h;cases u;case initOrder x=>
    dsimp only at h4;obtain⟨k',m',hL⟩:=Ij h4;have hle:=hL.le;refine⟨m+k',m+m',by omega,hL.tape.trans h1,by rw[hL.drawn];dsimp only[dh]at h2;rw[h2,AI],λτ d ha=> ?_⟩;have e3:=hL.shift τ (d+m) (Agree.tail (w:=w) (k:=m) ha (by omega) h1 h2);simp only[stepG.apply,if_true,h3 τ d (ha.le (by omega)),cK,e3];rw[AI];rfl
   all_goals cases h4
instance Ey(P fn tmps):St P (results fn tmps):=by
 refine @aX _ _ _ _ _ _ _ _ (@Dt _ _ _ _ _ _ _ (λr=> ?_) _) λ_=>zq2
 cases r<;>exact zq2
theorem q8{P main fr callers dy v w w' g' es}(h:doReturn P main fr callers dy v w= .go g' w' es):
 w'=w/\∀u,doReturn P main fr callers dy v u= .go g' u es:=by
 unfold doReturn at h;cases callers with
 |cons c cs=>
  grind [doReturn]
 |nil=>
  have hn:∀(F:AS->GStep),(∀u,F u=(if(!main)=true then(.go {frame:=fr,callers:=[],status:=.finished,dying:=none} u:GStep)
   else match P.inits.idxOf? fr.fn with
    |some k=>.go {frame:=Frame.enter P (P.initFrom (k+1)) #[] .normal,callers:=[],status:=.running,dying:=none} u
    |none=>.ended (.done v) u))->F w= .go g' w' es->w'=w/\∀u,F u= .go g' u es:=by
   grind
  cases hk:fr.kind<;>simp only[hk]at h;case report=>
   cases dy with
   |none=>cases h
   |some d=>cases v<;>first
    |(cases h;done)
    |(simp_all[doReturn])
  all_goals exact hn (λu=>doReturn P main fr [] dy v u) λu=>by simp[doReturn,hk];rfl (by simp only[doReturn,hk];exact h)
theorem vo{P fr callers dy d w w' g' es}(T:bz P)(hw:an w)(h:BY P fr callers dy d w= .go g' w' es)(hst:g'.status= .running):
 ∃k m,jy (λw=>BY P fr callers dy d w) w g' w' es k m:=by
 unfold BY at h;rcases kt h with⟨hc,h⟩|⟨hc,h⟩
 .cases h
 have hs:=eH T.todY d.target d.args;rcases dx (P:=P) (s:=invoke d.target d.args) hw #[]with⟨k,m,hk,hL⟩|⟨x0,wx,hx,hdd⟩
 rotate_left
 .exfalso;generalize (invoke d.target d.args).runT P w #[]=y at h hx;obtain⟨r,e0⟩:=y;dsimp only at hx;subst hx;cases x0;all_goals first
   |exact hdd.elim
   |(
    obtain⟨e2,h4,_⟩:=aZ h;first
     |(cases h4;done)
     |(grind))
 have h1:=hL.tape;have h2:=hL.drawn;have h3:=hL.shift;clear hL;have hH:=cf hs.st w #[] hw;generalize hr:(invoke d.target d.args).runT P w #[]=x at h h1 h2 h3 hH;obtain⟨r,e0⟩:=x;cases r with
 |ok n v=>
  cases n;all_goals dsimp only at h h1 h2 h3
  case recover=>
   obtain⟨e2,h4,rfl⟩:=aZ h;refine⟨k,m,?_⟩;cases hm:fr.mode with
   |returning=>
    simp only[hm]at h4;cases hx:tryRecover fr callers with
    |none=>
     simp only[hx]at h4;cases h4;exact⟨hk,h1,h2,λτ d' ha=>by unfold BY;rw[if_neg hc];simp only[h3 τ d' ha,cK,hm,hx];rfl⟩
    |some y=>
     simp only[hx]at h4;cases h4;exact⟨hk,h1,h2,λτ d' ha=>by unfold BY;rw[if_neg hc];simp only[h3 τ d' ha,cK,hm,hx];rfl⟩
   |run=>
    simp only[hm]at h4;cases h4;exact⟨hk,h1,h2,λτ d' ha=>by unfold BY;rw[if_neg hc];simp only[h3 τ d' ha,cK,hm];rfl⟩
   |panicking c=>
    simp only[hm]at h4;cases h4;exact⟨hk,h1,h2,λτ d' ha=>by unfold BY;rw[if_neg hc];simp only[h3 τ d' ha,cK,hm];rfl⟩
  case alone on u=>
   obtain⟨e2,h4,rfl⟩:=aZ h;cases on<;>cases h4
  case coroswitch c ex=>
   obtain⟨e2,h4,rfl⟩:=aZ h;cases ex<;>cases h4
  all_goals
   obtain⟨e2,h4,rfl⟩:=aZ h;first
    |(cases h4;done)
    |(
     cases h4;exact⟨k,m,hk,h1,h2,λτ d' ha=>by unfold BY;rw[if_neg hc];simp only[h3 τ d' ha,cK];rfl⟩)
 |halt x v=>
  cases x;all_goals dsimp only at h h1 h2 h3
  case fatal c=>
   obtain⟨e2,h4,rfl⟩:=aZ h;obtain⟨k',m',hL⟩:=sX (w:=v) hH h4;have hle:=hL.le;have h0:v.drawn=w.drawn+m:=h2;refine⟨m+k',m+m',by omega,hL.tape.trans h1,hL.drawn.trans (by rw[h0,AI]),λτ d' ha=> ?_⟩;have e3:=hL.shift τ (d'+m) (Agree.tail (w:=w) (k:=m) ha (by omega) h1 h2);unfold BY;rw[if_neg hc];simp only[h3 τ d' (ha.le (by omega)),cK];refine(congrArg (Sw _) e3).trans ?_;rw[AI];rfl
  all_goals
   obtain⟨e2,h4,rfl⟩:=aZ h;first
    |(cases h4;done)
    |(
     cases h4;exact⟨k,m,hk,h1,h2,λτ d' ha=>by unfold BY;rw[if_neg hc];simp only[h3 τ d' ha,cK];rfl⟩)
theorem vB{P main fr callers dy w w' g' es}(T:bz P)(hw:an w)(h:unwind P main fr callers dy w= .go g' w' es)(hst:g'.status= .running):
 ∃k m,jy (λw=>unwind P main fr callers dy w) w g' w' es k m:=by
 unfold unwind at h;cases hd:fr.defers with
 |cons d ds=>
  obtain⟨tg,ar⟩:=d;cases tg with
  |collected block=>
   simp only[hd]at h;rcases dx (P:=P) (s:=IN block) hw #[]with⟨k,m,hk,hL⟩|⟨x0,wx,hx,hdd⟩
   rotate_left
   .exfalso;generalize (IN block).runT P w #[]=y at h hx;obtain⟨r,e0⟩:=y;dsimp only at hx;subst hx;obtain⟨e2,h4,_⟩:=aZ h<;>grind
   have h1:=hL.tape;have h2:=hL.drawn;have h3:=hL.shift;clear hL;generalize hr:(IN block).runT P w #[]=x at h h1 h2 h3;obtain⟨r,e0⟩:=x;obtain⟨e2,h4,rfl⟩:=aZ h;cases r with
   |ok a v=>
    dsimp only at h4 h1 h2 h3;cases h4;exact⟨k,m,hk,h1,h2,λτ d' ha=>by unfold unwind;simp only[hd,h3 τ d' ha,cK];rfl⟩
   |halt x v=>
    grind
  |_=>
   simp only[hd]at h;obtain⟨k,m,l,a,b,c⟩:=vo T hw h hst;exact⟨k,m,l,a,b,λτ d' ha=>by unfold unwind;simp only[hd];exact c τ d' ha⟩
 |nil=>
  simp only[hd]at h;cases hm:fr.mode with
  |run=>grind
  |panicking chain=>
   simp only[hm]at h;rcases kt h with⟨hc,h⟩|⟨hc,h⟩
   .cases h
   cases callers with
   |cons c cs=>
    dsimp only at h;cases h;exact bT rfl rfl λτ d'=>by simp_all[if_neg,unwind]
   |nil=>
    cases dy with
    |none=>
     dsimp only at h;rcases kt h with⟨hc2,h⟩|⟨hc2,h⟩
     .grind
     .rcases dx (P:=P) (s:=reportChain chain false) hw #[]with⟨k,m,hk,hL⟩|⟨x0,wx,hx,hdd⟩
      .generalize hr:(reportChain chain false).run P w=r at h;obtain⟨h1,h2,h3⟩:=tD hL hr;cases r with
       |ok a v=>
        cases h;exact⟨k,m,hk,h1,h2,λτ d' ha=>by unfold unwind;simp only[hd,hm];rw[if_neg hc,if_neg hc2,h3 τ d' ha];rfl⟩
       |halt x v=>cases x<;>cases h
      grind [Sz]
    |some dd=>
     dsimp only at h;have he:∀v:Value,endPrinting P fr v w= .go g' w' es->w'=w/\∀u,endPrinting P fr v u= .go g' u es:=by
      intro v h;unfold endPrinting at h;dsimp only at h;split at h
      .rename_i hs;cases h;exact⟨rfl,λu=>by unfold endPrinting;dsimp only;rw[hs];rfl⟩
      .cases h
     cases chain with
     |nil=>cases h
     |cons e older=>
      obtain⟨v,rc,gx⟩:=e;cases gx with
      |true=>cases h
      |false=>
       obtain⟨rfl,hU⟩:=he v h;exact bT rfl rfl λτ d'=>by unfold unwind;simp only[hd,hm];rw[if_neg hc];exact hU _
  |returning=>
   simp only[hm]at h;cases hf:P.funcs[fr.fn]? with
   |none=>
    simp only[hf]at h;obtain⟨rfl,hU⟩:=q8 h;exact bT rfl rfl λτ d'=>by unfold unwind;simp only[hd,hm,hf];exact hU _
   |some fn=>
    simp only[hf]at h;rcases dx (P:=P) (s:=results fn fr.tmps) hw #[]with⟨k,m,hk,hL⟩|⟨x0,wx,hx,hdd⟩
    rotate_left
    .exfalso;generalize (results fn fr.tmps).runT P w #[]=y at h hx;obtain⟨r,e0⟩:=y;dsimp only at hx;subst hx;obtain⟨e2,h4,_⟩:=aZ h;cases x0<;>first
      |exact hdd.elim
      |(dsimp only at h4;cases h4;done)
      |(cases h4;done)
    have h1:=hL.tape;have h2:=hL.drawn;have h3:=hL.shift;clear hL;generalize hr:(results fn fr.tmps).runT P w #[]=x at h h1 h2 h3;obtain⟨r,e0⟩:=x;obtain⟨e2,h4,rfl⟩:=aZ h;cases r with
    |ok a v=>
     dsimp only at h4 h1 h2 h3;obtain⟨rfl,hU⟩:=q8 h4;exact⟨k,m,hk,h1,h2,λτ d' ha=>by unfold unwind;simp only[hd,hm,hf,h3 τ d' ha,cK,hU];rfl⟩
    |halt x v=>
     exfalso;cases x<;>dsimp only at h4<;>cases h4
theorem A9{α β P Q s}{f:α->Sem β}(hs:l6 P s)(hl:Leaf P Q s)(hf:∀a,Q a->l6 P (f a)):l6 P (s>>=f):=by
 induction s with
 |pure a=>exact hf a hl
 |halt h=>trivial
 |load m a k ih=>exactλv=>ih v (hs v) (hl v)
 |store m a v k ih=>exact ih hs hl
 |new o k ih=>exact⟨hs.1,λv=>ih v (hs.2 v) (hl v)⟩
 |shape r k ih=>exactλv=>ih v (hs v) (hl v)
 |freeze a n k ih=>exact ih hs hl
 |frozen a k ih=>exactλv=>ih v (hs v) (hl v)
 |getObj r k ih=>exact⟨λv hv=>ih v (hs.1 v hv) (hl v hv),ve hs.2⟩
 |setObj r o k ih=>exact⟨hs.1,ih hs.2 hl⟩
 |choose q k ih=>exactλv=>ih v (hs v) (hl v)
 |sys c k ih=>exact⟨let⟨h,e,d⟩:=hs.1;⟨h,(congrArg (λx=>OF x f) e).trans rfl,d⟩,λv=>ih v (hs.2 v) (hl v)⟩
 |program k ih=>exact ih P hs hl
 |mark m k ih=>exact⟨hs.1,ih hs.2 hl⟩
theorem ga{P}(ρ c t l):St P (do No l (<- resolve ρ c t);pure Next.skip):=
 ⟨A9 (Cr ρ c t).st (iY ρ c t) λd hd=>(@aX _ _ _ _ _ _ _ _ (kl P l d hd) λ_=>zq2).st⟩
def jM:Item->Prop
 | .call _ _ _ _=>False
 | .extern r _=>r=printRow
 | .code c=>cT c=true
 | .inLoop b=>cT b=true
 | .inScope b=>cT b=true
 | .inRegion ops is=>∀i∈is,∀o,ops[i]?=some o->Lf o.op=true
 |_=>True
theorem ws{id ops draw}(h:cT (.region id ops draw)=true)(is):jM (.inRegion ops is):=λi _ o ho=>by
 grind [cT]
def dg(fr:Frame):Prop:=(∀it∈fr.todo,jM it)/\∀d∈fr.defers,oK d
theorem nk:Extern.next printRow=some (Extern.PrintPieces.piece #[] #[]):=by rfl
theorem JN{P fr callers dy w w' g' es}(T:bz P)(hw:an w)(hst:g'.status= .running)(h:stepG.oper P true fr callers dy w= .go g' w' es):
 ∃k m,jy (λw=>stepG.oper P true fr callers dy w) w g' w' es k m:=by
 unfold stepG.oper at h;cases ho:fr.oper? with
 |none=>rw[ho]at h;cases h
 |some o=>
  simp[ho]at h;suffices H:∀s:Sem Next,St P s->stepG.apply P true fr callers dy s w= .go g' w' es->(∀u,stepG.oper P true fr callers dy u=stepG.apply P true fr callers dy s u)->∃k m,jy (λw=>stepG.oper P true fr callers dy w) w g' w' es k m by
   cases hr:fr.roundOf with
   |none=>
    simp[hr]at h;exact H _ (by first |exact gY T.todY _ _|exact ga _ _ _ _) h λu=>by simp_all[stepG.oper]
   |some l=>
    cases hop:o.op with
    |defer c=>
     simp[hr,hop]at h;exact H _ (by first |exact gY T.todY _ _|exact ga _ _ _ _) h λu=>by simp_all[stepG.oper]
    |_=>
     simp[hop]at h;exact H _ (by first |exact gY T.todY _ _) h λu=>by simp[stepG.oper,ho,hop]
  intro s hS hs hu;obtain⟨k,m,l,a,b,c⟩:=pw (hs:=hS) hw hs hst;exact⟨k,m,l,a,b,λτ d ha=>(hu _).trans (c τ d ha)⟩
theorem oR{P main fr callers dy l jump w w' g' es F}
 (hF:∀u,F u=Sw (seen P fr.fn ((If l jump).runT P u #[]).2) (match((If l jump).runT P u #[]).1 with
  | .ok v w=>doReturn P main fr callers dy v w
  | .halt _ w=>.ended (.stuck "range over a function: no such loop" (fr.pos P)) w)) (h0:∀c,jump=some c->cT c=true) (hw:an w) (h:F w= .go g' w' es):
 ∃k m,jy F w g' w' es k m:=by
 rw[hF]at h;rcases dx (P:=P) (s:=If l jump) (hs:=jx P l jump h0) hw #[]with⟨k,m,hk,hL⟩|⟨x0,wx,hx,hdd⟩
 rotate_left
 .obtain⟨e2,h4,_⟩:=aZ h<;>grind
 have h1:=hL.tape;have h2:=hL.drawn;have h3:=hL.shift;generalize hx:(If l jump).runT P w #[]=x at h h1 h2 h3;obtain⟨r,e0⟩:=x;obtain⟨e2,h4,rfl⟩:=aZ h;cases r with
 |ok a v=>
  obtain⟨rfl,hU⟩:=q8 h4;exact⟨k,m,hk,h1,h2,λτ d' ha=>by simp only[hF,h3 τ d' ha,cK,hU];rfl⟩
 |halt x v=>grind
theorem Kj{P main fr callers dy w w' g' es}(T:bz P)(hw:an w)(hj:dg fr)(hst:g'.status= .running)(h:stepG.exec P main true fr callers dy w= .go g' w' es):
 ∃k m,jy (λw=>stepG.exec P main true fr callers dy w) w g' w' es k m:=by
 cases ht:fr.todo with
 |nil=>
  unfold stepG.exec at h;simp only[ht]at h;cases hr:fr.roundOf with
  |none=>
   simp only[hr]at h;cases h;exact bT rfl rfl λτ d'=>by simp_all[stepG.exec]
  |some l=>
   simp only[hr]at h;exact oR (P:=P) (main:=main) (fr:=fr) (callers:=callers) (F:=λw=>stepG.exec P main true fr callers dy w) (jump:=none) (l:=l) λu=>by unfold stepG.exec;simp only[ht,hr];rfl nofun hw (by simp_all[stepG.exec])
 |cons it rest=>
  cases it with
  |code c=>
   cases c with
   |skip=>
    unfold stepG.exec at h;simp only[ht]at h;cases h;exact bT rfl rfl λτ d'=>by simp_all[stepG.exec]
   |label l=>
    unfold stepG.exec at h;simp only[ht]at h;cases h;exact bT rfl rfl λτ d'=>by simp_all[stepG.exec]
   |seq a b=>
    unfold stepG.exec at h;simp only[ht]at h;cases h;exact bT rfl rfl λτ d'=>by simp_all[stepG.exec]
   |block id body=>
    unfold stepG.exec at h;simp only[ht]at h;cases h;exact bT rfl rfl λτ d'=>by simp_all[stepG.exec]
   |loop body=>
    unfold stepG.exec at h;simp only[ht]at h;cases h;exact bT rfl rfl λτ d'=>by simp_all[stepG.exec]
   |scope body=>
    unfold stepG.exec at h;simp only[ht]at h;cases h;exact bT rfl rfl λτ d'=>by simp_all[stepG.exec]
   |refuse why=>
    simp_all[stepG.exec,h]
   |cond c thn els=>
    unfold stepG.exec at h;simp only[ht]at h;cases hv:fr.eval c;case bool b=>
     simp only[hv]at h;cases h;exact bT rfl rfl λτ d'=>by simp_all[stepG.exec]
    all_goals
     simp only[hv]at h;cases h
   |ret=>
    unfold stepG.exec at h;simp only[ht]at h;cases hr:fr.roundOf with
    |none=>
     simp only[hr]at h;cases h;exact bT rfl rfl λτ d'=>by simp_all[stepG.exec]
    |some l=>
     simp only[hr]at h;exact oR (P:=P) (main:=main) (fr:=fr) (callers:=callers) (F:=λw=>stepG.exec P main true fr callers dy w) (jump:=some .ret) (l:=l) λu=>by unfold stepG.exec;simp only[ht,hr];rfl (by rintro c hc;cases hc;rfl) hw (by simp_all[stepG.exec])
   |exit id=>
    unfold stepG.exec at h;simp only[ht]at h;cases he:exitTo id rest with
    |some k=>
     simp only[he,AT]at h;cases h;exact bT rfl rfl λτ d'=>by simp_all[AT,stepG.exec]
    |none=>
     simp only[he,AT]at h;cases hr:fr.roundOf with
     |none=>
      grind
     |some l=>
      simp only[hr]at h;exact oR (P:=P) (main:=main) (fr:=fr) (callers:=callers) (F:=λw=>stepG.exec P main true fr callers dy w) (jump:=some (.exit id)) (l:=l) λu=>by unfold stepG.exec;simp only[ht,hr,he,AT];rfl (by rintro c hc;cases hc;rfl) hw (by simp_all[AT,stepG.exec])
   |goto id=>
    unfold stepG.exec at h;simp only[ht]at h;cases he:gotoIn id rest with
    |some k=>
     simp only[he,AT]at h;cases h;exact bT rfl rfl λτ d'=>by simp_all[AT,stepG.exec]
    |none=>
     simp only[he,AT]at h;cases hr:fr.roundOf with
     |none=>
      grind
     |some l=>
      simp only[hr]at h;exact oR (P:=P) (main:=main) (fr:=fr) (callers:=callers) (F:=λw=>stepG.exec P main true fr callers dy w) (jump:=some (.goto id)) (l:=l) λu=>by unfold stepG.exec;simp only[ht,hr,he,AT];rfl (by rintro c hc;cases hc;rfl) hw (by simp_all[AT,stepG.exec])
   |rangeFunc f params assign body=>
    unfold stepG.exec at h;simp only[ht]at h;have h0:cT assign=true/\cT body=true:=by
     have:=hj.1 (.code (.rangeFunc f params assign body)) (by rw[ht];simp);simpa[jM,cT]using this
    have hH:=cf (cP P fr.fn fr.tmps params assign body fr.roundOf h0.1 h0.2).st w #[] hw;rcases dx (P:=P) (s:=IT fr.fn fr.tmps params assign body fr.roundOf) (hs:=cP P fr.fn fr.tmps params assign body fr.roundOf h0.1 h0.2) hw #[]with⟨k,m,hk,hL⟩|⟨x0,wx,hx,hdd⟩
    rotate_left
    .exfalso;generalize (IT fr.fn fr.tmps params assign body fr.roundOf).runT P w #[]=y at h hx;obtain⟨r,e0⟩:=y;dsimp only at hx;subst hx;obtain⟨e2,h4,_⟩:=aZ h<;>grind
    have h1:=hL.tape;have h2:=hL.drawn;have h3:=hL.shift;clear hL;generalize hx:(IT fr.fn fr.tmps params assign body fr.roundOf).runT P w #[]=x at h h1 h2 h3 hH;obtain⟨r,e0⟩:=x;obtain⟨e2,h4,rfl⟩:=aZ h;cases r with
    |halt x v=>grind
    |ok a v=>
     obtain⟨l,mark⟩:=a;dsimp only at h4 h1 h2 h3;obtain⟨k2,m2,l2,a2,b2,c2⟩:=pw (hs:= @aX _ _ _ _ _ _ _ _ zq2 λd=>eH T.todY _ _) hH h4 hst;refine⟨m+k2,m+m2,by omega,a2.trans h1,by rw[b2,<- AI];grind,λτ d' ha=> ?_⟩;unfold stepG.exec;simp only[ht,h3 τ d' (ha.le (by omega)),cK];have:=c2 τ (d'+m) (Agree.tail (w:=w) (k:=m) ha (by omega) h1 h2);dsimp only[dh]at this;rw[this,<- AI];rfl
   |region id ops draw=>
    unfold stepG.exec at h;simp only[ht]at h;cases draw with
    |false=>
     simp only[Bool.not_false,if_true]at h;cases h;exact bT rfl rfl λτ d'=>by unfold stepG.exec;simp only[ht,Bool.not_false,if_true]
    |true=>
     have ch0:∀v:AS,(choose (.order fr.fn id)).run P v= .ok ((Question.order fr.fn id).cut (v.tape v.drawn (.order fr.fn id))) (ah v v.tape (v.drawn+1)):=λv=>by
      simp only[choose,Sem.run,Question.forced];rfl
     simp only[SM,IS,if_false,ch0]at h;cases h;refine⟨1,1,Sv _,rfl,rfl,λτ d' ha=> ?_⟩;have hc:τ d' (.order fr.fn id)=w.tape w.drawn (.order fr.fn id):=ha 0 (by omega) _;unfold stepG.exec;simp only[ht,SM,IS,if_false,ch0,AL,yv,hc];rfl
  |inBlock id=>
   unfold stepG.exec at h;simp only[ht]at h;cases h;exact bT rfl rfl λτ d'=>by unfold stepG.exec;simp only[ht]
  |inScope id=>
   unfold stepG.exec at h;simp only[ht]at h;cases h;exact bT rfl rfl λτ d'=>by unfold stepG.exec;simp only[ht]
  |inLoop id=>
   unfold stepG.exec at h;simp only[ht]at h;cases h;exact bT rfl rfl λτ d'=>by unfold stepG.exec;simp only[ht]
  |inRangeFunc id=>
   unfold stepG.exec at h;simp only[ht]at h;cases h
  |beginRound=>
   have hU:∀u,stepG.exec P main true fr callers dy u=stepG.apply P true fr callers dy (do fr.roundOf.elim (stuck "beginRound: no round") Sy;pure .skip) u:=λu=>by unfold stepG.exec;simp only[ht]
   rw[hU]at h;obtain⟨k,m,l,a,b,c⟩:=pw (hs:= @aX _ _ _ _ _ _ _ _ (by cases fr.roundOf with |none=>exact qN P _|some l=>exact dR P l) λ_=>zq2) hw h hst;exact⟨k,m,l,a,b,λτ d ha=>(hU _).trans (c τ d ha)⟩
  |call d a b c=>exact(hj.1 (.call d a b c) (by rw[ht];exact SP ..)).elim
  |extern row args=>
   cases he:Extern.next row with
   |none=>
    unfold stepG.exec at h;simp only[ht,he,AT]at h;cases h
   |some e=>
    have hU:∀u,stepG.exec P main true fr callers dy u=stepG.apply P true fr callers dy (e args) u:=λu=>by unfold stepG.exec;simp only[ht,he,AT]
    rw[hU]at h;have hrow:row=printRow:=hj.1 (.extern row args) (by rw[ht];exact SP ..);subst hrow;rw[nk]at he;cases he;obtain⟨k,m,l,a,b,c⟩:=pw (hs:=lj P _ _ _) hw h hst;exact⟨k,m,l,a,b,λτ d ha=>(hU _).trans (c τ d ha)⟩
  |endRangeFunc l=>
   unfold stepG.exec at h;simp only[ht]at h;rcases dx (P:=P) (s:=Sx l) hw #[]with⟨k,m,hk,hL⟩|⟨x0,wx,hx,hdd⟩
   rotate_left
   .exfalso;generalize (Sx l).runT P w #[]=y at h hx;obtain⟨r,e0⟩:=y;dsimp only at hx;subst hx;obtain⟨e2,h4,_⟩:=aZ h;cases x0<;>first
     |exact hdd.elim
     |(dsimp only at h4;cases h4;done)
     |(cases h4;done)
   have h1:=hL.tape;have h2:=hL.drawn;have h3:=hL.shift;clear hL;generalize hx:(Sx l).runT P w #[]=x at h h1 h2 h3;obtain⟨r,e0⟩:=x;obtain⟨e2,h4,rfl⟩:=aZ h;cases r with
   |ok a v=>
    dsimp only at h4 h1 h2 h3;cases h4;exact⟨k,m,hk,h1,h2,λτ d' ha=>by unfold stepG.exec;simp only[ht,h3 τ d' ha,cK];rfl⟩
   |halt x v=>
    cases x<;>dsimp only at h4 h1 h2 h3<;>cases h4;exact⟨k,m,hk,h1,h2,λτ d' ha=>by unfold stepG.exec;simp only[ht,h3 τ d' ha,cK];rfl⟩
  |inRegion ops todo=>
   cases todo with
   |nil=>
    unfold stepG.exec at h;simp only[ht]at h;cases h;exact bT rfl rfl λτ d'=>by unfold stepG.exec;simp only[ht]
   |cons i is=>
    cases hwn:(ops[i]?.map (Region.wanted · (yielded ops fr.tmps))).getD false with
    |true=>
     have hU:∀u,stepG.exec P main true fr callers dy u=stepG.oper P true fr callers dy u:=λu=>by unfold stepG.exec;simp only[ht,hwn,if_true]
     rw[hU]at h;obtain⟨k,m,l,a,b,c⟩:=JN T hw hst h;exact⟨k,m,l,a,b,λτ d ha=>(hU _).trans (c τ d ha)⟩
    |false=>
     unfold stepG.exec at h;simp only[ht,hwn,IS,if_false]at h;cases h;exact bT rfl rfl λτ d'=>by unfold stepG.exec;simp only[ht,hwn,IS,if_false]
theorem wV{P fr v w w' g' es}(h:endPrinting P fr v w= .go g' w' es):w'=w/\∀u,endPrinting P fr v u= .go g' u es:=by
 simp only[endPrinting]at h;split at h
 .rename_i hs;cases h;exact⟨rfl,λu=>by simp only[endPrinting,hs];rfl⟩
 .cases h
theorem Cf{P fr d f w w' g' es}(hw:an w)(hst:g'.status= .running)(h:writeOn P fr d f w= .go g' w' es):
 ∃k m,jy (λw=>writeOn P fr d f w) w g' w' es k m:=by
 unfold writeOn at h;cases hp:f.pieces with
 |nil=>rw[hp]at h;cases h
 |cons piece rest=>
  rw[hp]at h;dsimp only at h;have H:∀(s:Sem Unit)(F:AS->GStep),St P s->(∀w,F w=(match s.runT P w #[]with
   |(.ok _ w,es)=>.go {frame:=fr,callers:=[],status:=.running,dying:=some {d with fatal:=some {f with pieces:=rest,begun:=true}}} w es
   |(.halt .blocked w,_)=>.go {frame:=fr,callers:=[],status:=.blocked,dying:=some {d with fatal:=some f}} w #[]
   |(.halt (.unsupported u) w,_)=>.ended (.unsupported u "") w
   |(.halt _ w,_)=>.ended (.stuck "the report of a fatal error" "") w))->F w= .go g' w' es->∃k m,jy F w g' w' es k m:=by
   intro s F hs hF h;rw[hF]at h;rcases dx (P:=P) (s:=s) hw #[]with⟨k,m,hk,hL⟩|⟨x0,wx,hx,hdd⟩
   .have h1:=hL.tape;have h2:=hL.drawn;have h3:=hL.shift;generalize hr:s.runT P w #[]=x at h h1 h2 h3;obtain⟨r,e0⟩:=x;cases r with
    |ok a v=>
     cases h;exact⟨k,m,hk,h1,h2,λτ d ha=>by rw[hF];dsimp only at h3;rw[h3 τ d ha];rfl⟩
    |halt x v=>cases x<;>first |(cases h;done)|(grind)
   grind
  refine H _ _ ?_ λu=>by unfold writeOn;rw[hp];rfl (by unfold writeOn;rw[hp];exact h)
  have hsys:∀b:ByteArray,St P (do
   match<- sys (.write 2 b)with
   | .int n=>if n !=b.size then unsupported (.noEntry "a report that its descriptor cannot take whole")
   | .err _=>pure ()
   |_=>unsupported (.noEntry "a report that its descriptor cannot take whole"):Sem Unit):=by
   intro b;refine⟨⟨⟨_,rfl,trivial⟩,λv=> ?_⟩⟩;cases v<;>first
    |trivial
    |(
     show l6 P (if _ then _ else _);split <;>trivial)
  repeat' (first
   |exact zq2
   |exact hsys _
   |(refine @aX _ _ _ _ _ _ _ _ ?_ λ_=> ?_)
   |(refine @vI _ _ _ _ _ _ _ _ _ ?_ ?_)
   |split
   |(intro _)
   |dsimp only)
theorem Dg{w w' fd t o g' es}(h:endWith w fd t o= .go g' w' es):False:=by
 unfold endWith at h;grind
theorem MD{P fr d w w' g' es}(T:bz P)(hw:an w)(hst:g'.status= .running)(h:die P fr d w= .go g' w' es):
 ∃k m,jy (λw=>die P fr d w) w g' w' es k m:=by
 unfold die at h;cases hf:d.fatal with
 |some f=>
  rw[hf]at h;obtain⟨k,m,l,a,b,c⟩:=Cf hw hst h;exact⟨k,m,l,a,b,λτ d' ha=>by simp_all[die]⟩
 |none=>
  rw[hf]at h;dsimp only at h;cases ht:d.todo with
  |nil=>
   rw[ht]at h;dsimp only at h;rcases kt h with⟨hc,h⟩|⟨hc,h⟩
   .grind
   .exact(Dg h).elim
  |cons e rest=>
   obtain⟨v,mark⟩:=e;rw[ht]at h;dsimp only at h;cases hp:panicText P false v with
   |text s=>
    rw[hp]at h;cases h;exact bT rfl rfl λτ d'=>by simp_all[die]
   |no u=>rw[hp]at h;cases h
   |address s=>
    rw[hp]at h;dsimp only at h;rcases dx (P:=P) (s:=withAddress s) hw #[]with⟨k,m,hk,hL⟩|⟨x0,wx,hx,hdd⟩
    .generalize hr:(withAddress s).run P w=r at h;obtain⟨h1,h2,h3⟩:=tD hL hr;cases r with
     |ok a u=>
      cases h;exact⟨k,m,hk,h1,h2,λτ d' ha=>by unfold die;rw[hf,ht];dsimp only;rw[hp];dsimp only;rw[h3 τ d' ha];rfl⟩
     |halt x u=>cases h
    simp_all
   |call t recv name=>
    rw[hp]at h;dsimp only at h;have hs:=eH T.todY (.fn (.method name) #[]) #[.iface t recv];rcases dx (P:=P) (s:=invoke (.fn (.method name) #[]) #[.iface t recv]) hw #[]with⟨k,m,hk,hL⟩|⟨x0,wx,hx,hdd⟩
    .have h1:=hL.tape;have h2:=hL.drawn;have h3:=hL.shift;generalize hr:(invoke (.fn (.method name) #[]) #[.iface t recv]).runT P w #[]=x at h h1 h2 h3;obtain⟨r,e0⟩:=x;dsimp only at h3;obtain⟨e2,h4,rfl⟩:=aZ h;cases r with
     |ok n u=>
      cases n;case enter f args=>
       cases h4;exact⟨k,m,hk,h1,h2,λτ d' ha=>by unfold die;rw[hf,ht];dsimp only;rw[hp];dsimp only;rw[h3 τ d' ha];rfl⟩
      case value v2=>
       cases v2;case string s=>
        cases h4;exact⟨k,m,hk,h1,h2,λτ d' ha=>by unfold die;rw[hf,ht];dsimp only;rw[hp];dsimp only;rw[h3 τ d' ha];rfl⟩
       all_goals cases h4
      all_goals cases h4
     |halt x u=>
      cases x;case panic pv=>
       obtain⟨rfl,hU⟩:=wV h4;exact⟨k,m,hk,h1,h2,λτ d' ha=>by unfold die;rw[hf,ht];dsimp only;rw[hp];dsimp only;rw[h3 τ d' ha];exact congrArg (Sw _) (hU _)⟩
      all_goals cases h4
    .exfalso;generalize (invoke (.fn (.method name) #[]) #[.iface t recv]).runT P w #[]=x at h hx;obtain⟨r,e0⟩:=x;dsimp only at hx;subst hx;obtain⟨e2,h4,_⟩:=aZ h;cases x0<;>first
      |exact hdd.elim
      |(cases h4;done)
theorem Gm{P main g w w' g' es}(T:bz P)(hw:an w)(hj:(∀d,g.dying=some d->d.calling=true)->dg g.frame)(hst:g'.status= .running)(h:stepG P main g w= .go g' w' es):
 ∃k m,jy (λw=>stepG P main g w) w g' w' es k m:=by
 obtain⟨fr,cs,st,dy,off⟩:=g;have h0:(∀d,dy=some d->d.calling=true)->∃k m,jy (λw=>stepG P main ⟨fr,cs,st,dy,off⟩ w) w g' w' es k m:=by
  intro hl;cases hm:fr.mode with
  |run=>
   have hU:∀u,stepG P main ⟨fr,cs,st,dy,off⟩ u=stepG.exec P main true fr cs dy u:=λu=>by
    unfold stepG;grind
   rw[hU]at h;obtain⟨k,m,l,a,b,c⟩:=Kj T hw (hj hl) hst h;exact⟨k,m,l,a,b,λτ d ha=>(hU _).trans (c τ d ha)⟩
  |returning=>
   have hU:∀u,stepG P main ⟨fr,cs,st,dy,off⟩ u=unwind P main fr cs dy u:=λu=>by
    unfold stepG;grind
   rw[hU]at h;obtain⟨k,m,l,a,b,c⟩:=vB T hw h hst;exact⟨k,m,l,a,b,λτ d ha=>(hU _).trans (c τ d ha)⟩
  |panicking chain=>
   have hU:∀u,stepG P main ⟨fr,cs,st,dy,off⟩ u=unwind P main fr cs dy u:=λu=>by
    unfold stepG;grind
   rw[hU]at h;obtain⟨k,m,l,a,b,c⟩:=vB T hw h hst;exact⟨k,m,l,a,b,λτ d ha=>(hU _).trans (c τ d ha)⟩
 cases dy with
 |none=>exact h0 λd hd=>by cases hd
 |some d=>
  cases hc:d.calling with
  |true=>exact h0 λd' hd=>by grind
  |false=>
   obtain⟨a,b,c,e,f,i,j⟩:=d;subst hc;exact MD (P:=P) T hw hst h
end
end Go.Proofs.YtkgohmcmmcpigaaGreatDoor
