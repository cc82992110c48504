/- A part of the proof that Folded holds; no condition. -/
import GoSem.Step
import Derived.StepT
import Derived.Laws.Sem
import Derived.Conc.Deaf
import Derived.Control
set_option linter.all false
set_option maxHeartbeats 4000000
namespace Go.Proofs.YtkgohmcmmcpigabGreatDoor
open Go
open Go.Sem renaming runT->AI,bind->SJ,runT_fst->SR,store->Tr,halt->T0,setObj->Td,getObj->Te,program->T5,frozen->Tf,freeze->Tg,choose->Th,mark->Tj,shape->Ts
open Go renaming Program->AS,World->Sv,callDeferred->Sy,runtimePanic->T6,execOp->Tu
open _root_.Nat renaming add_assoc->Su,le_refl->SM
open _root_.Option renaming elim->Sw
open _root_.Array renaming mapM_eq_mapM_toList->Sx
open Go.Instr renaming endRound->Sz,takeDeferred->SD,enterLoop->SF,deferInRound->SH,endLoop->SO,beginRound->SQ,getLoop->Tl,makeInterface->Tn,sliceBounds->Tz,yield->TE,typeAssert->TG,sliceBound->TH,buildSlice->TI,mapUpdate->TU,sureAddr->U0,makeFunc->U1
open _root_.Bool renaming false_eq_true->SE,not_true->Tm
open _root_.List renaming mapM_cons->SL,mapM_nil->SZ,mem_cons_self->Tt
open Go.GStep renaming after->SN,go->SG,ended->Tb
open Go.Builtin renaming printMarked->SS,unsafeAdd_->Tv,holdsCells->Tw,firstCells->Tx,mayShare->TK,append_->TY,close_->U3,lenOf->Ue,copy_->Uf,min_->Uv,min2->Uw,len_->Ux
open Go.World renaming farStore->SU,freeze->T4,viewStore->T7
open Go.Kernel renaming perform->SX
open Go.Extern renaming find->T9,findNext->TW
open Go.Question renaming early->Ta
open Go.Conv renaming floatToFloat->TC,floatToInt->TX
open Go.Deferred renaming ofValue->TJ
open Go.Result renaming ok->U6,halt->SK
open Go.Halt renaming unsupported->SC,blocked->Tk
open Go.GoStatus renaming running->SI
open Go.Mark renaming disable->SP,enable->SW,noRoom->Tc
open Go.Mode renaming atomic->SV
open Go.Obj renaming deferred->SY,loop->T8
open Go.Unsupported renaming initOrder->Ti,noEntry->TF
section
def zq0:(∀(α:Type)(l:List α)(i:Nat)(v:α),l.toArray.setIfInBounds i v=(l.set i v).toArray)/\(∀(α:Type)(x y:α)(l:List α),(x::l).set 0 y=y::l)/\(∀(α:Type)(x y:α)(l:List α)(i:Nat),(x::l).set (i+1) y=x::l.set i y):=⟨λ_ l i v=>by simp,λ_ _ _ _=>rfl,λ_ _ _ _ _=>rfl⟩
def zq1 {α:Type}:(∀(x:α)(l:List α)(i:Nat),(x::l).drop (i+1)=l.drop i)/\(∀(l:List α),l.drop 0=l)/\(∀(x:α)(l:List α)(i:Nat),(x::l).take (i+1)=x::l.take i)/\(∀(l:List α),l.take 0=[]):=⟨λ_ _ _=>rfl,λ_=>rfl,λ_ _ _=>rfl,λ_=>rfl⟩
abbrev zq2.{u}:=@inferInstance.{u}
def xJ{d b c}(s:Sem d)(f)(g:b->Sem c):(s.bind f).bind g=s.bind λa=>(f a).bind g:=by
 induction s<;>simp[SJ, *]
def zl{a}(s:Sem a):s.bind Sem.pure=s:=by
 induction s<;>simp[SJ, *]
instance OG:LawfulMonad Sem:=LawfulMonad.mk' Sem (λx=>zl x) (λ_ _=>rfl) λx f g=>xJ x f g
def swap(Q:AS)(a:Nat->Func->Func):AS:= {Q with funcs:=Q.funcs.mapIdx a}
section
variable{Q:AS}{J:Nat->Func->Func}
def iV:(swap Q J).toTables=Q.toTables:=rfl
def qL:(swap Q J).underlying=Q.underlying:=rfl
def uH:(swap Q J).depth=Q.depth:=rfl
def Ja:(swap Q J).cellsOf=Q.cellsOf:=rfl
def Jb:(swap Q J).bytesOf=Q.bytesOf:=rfl
def zX:(swap Q J).underlyingId=Q.underlyingId:=rfl
def uI:(swap Q J).alikeButTags=Q.alikeButTags:=by
 funext d;induction d with
 |zero=>rfl
 |succ d a=>simp[Program.alikeButTags,a]<;>try rfl
def Gg:(swap Q J).ownRow=Q.ownRow:=by
 rfl
def nS:(swap Q J).stoodInAs=Q.stoodInAs:=by
 funext t;simp[uI,uH,iV,qL,zX,Program.stoodInAs]
def Es:(swap Q J).stoodIn=Q.stoodIn:=by
 funext t;simp[nS,Program.stoodIn]
def gL:(swap Q J).stoodInHeld=Q.stoodInHeld:=by
 funext t;simp[iV,nS,Program.stoodInHeld]
def ub:(swap Q J).packedAs=Q.packedAs:=by
 funext t;simp[uI,uH,iV,qL,Gg,zX,Program.packedAs]
def me:(swap Q J).packed=Q.packed:=by
 funext t;simp[ub,Program.packed]
def LH:(swap Q J).heldOrPacked=Q.heldOrPacked:=by
 funext t;simp[me,gL,Program.heldOrPacked]
def Jc:(swap Q J).bearsPack=Q.bearsPack:=by
 rfl
def Gi:typeHandle (swap Q J)=typeHandle Q:=rfl
def zd:handleType (swap Q J)=handleType Q:=rfl
def Na:finalizerTable (swap Q J)=finalizerTable Q:=rfl
def A5:printLock (swap Q J)=printLock Q:=rfl
def J9:cleanupTable (swap Q J)=cleanupTable Q:=rfl
def my:byteOfCell (swap Q J)=byteOfCell Q:=by
 funext d;induction d with
 |zero=>rfl
 |succ d a=>simp only[byteOfCell,a]<;>try rfl
def qj:cellHolding (swap Q J)=cellHolding Q:=by
 funext d;induction d with
 |zero=>rfl
 |succ d a=>simp only[cellHolding,a]<;>try rfl
def sr:plainCell (swap Q J)=plainCell Q:=by
 funext d;induction d with
 |zero=>rfl
 |succ d a=>simp only[plainCell,a]<;>try rfl
def zY:tight (swap Q J)=tight Q:=by
 funext d;induction d with
 |zero=>rfl
 |succ d a=>simp[tight,a]<;>try rfl
def sq:seenCells (swap Q J)=seenCells Q:=by
 funext c e d;induction d with
 |zero=>rfl
 |succ d a=>simp[seenCells,a,qj]<;>try rfl
def xr(w:Sv):w.seen (swap Q J)=w.seen Q:=by
 unfold World.seen;simp only[sq,sr,my]<;>try rfl
def ua(w:Sv):w.viewLoad (swap Q J)=w.viewLoad Q:=by
 unfold World.viewLoad;simp[xr]
def so(w:Sv):w.viewStore (swap Q J)=w.viewStore Q:=by
 unfold T7;simp[xr,zY]<;>try rfl
def vG(w:Sv):w.farLoad (swap Q J)=w.farLoad Q:=by
 funext a b;simp[ua,World.farLoad]
def uc(w:Sv):w.farStore (swap Q J)=w.farStore Q:=by
 funext a v b;simp[so,SU]
def vF:(swap Q J).holdsStoodIn=Q.holdsStoodIn:=by
 funext d;induction d with
 |zero=>rfl
 |succ d a=>simp[Program.holdsStoodIn,a,gL]<;>try rfl
def xv:(swap Q J).holdsPacked=Q.holdsPacked:=by
 funext d;induction d with
 |zero=>rfl
 |succ d a=>simp[Program.holdsPacked,a,me]<;>try rfl
def Ck:(swap Q J).mayEmbedAPacks=Q.mayEmbedAPacks:=by
 rfl
def xu:(swap Q J).namesPacked=Q.namesPacked:=by
 funext d;induction d with
 |zero=>rfl
 |succ d a=>simp[Program.namesPacked,a,me]<;>try rfl
def A6:(swap Q J).methodsOfAPack=Q.methodsOfAPack:=by
 funext d;induction d with
 |zero=>rfl
 |succ d a=>simp[Program.methodsOfAPack,a,me]<;>try rfl
def rH:sameLayout (swap Q J)=sameLayout Q:=by
 funext d;induction d with
 |zero=>rfl
 |succ d a=>simp[sameLayout,a,gL]<;>try rfl
def zZ:rowAt (swap Q J)=rowAt Q:=by
 funext f d;induction d with
 |zero=>rfl
 |succ d a=>simp[rowAt,a,gL]<;>try rfl
def Gh:liesAt (swap Q J)=liesAt Q:=by
 funext d;induction d with
 |zero=>rfl
 |succ d a=>simp[liesAt,a,zZ,rH]<;>try rfl
def rI:cellOfByte (swap Q J)=cellOfByte Q:=by
 funext d;induction d with
 |zero=>rfl
 |succ d a=>simp only[cellOfByte,a]<;>try rfl
def xx:cellAtBytes (swap Q J)=cellAtBytes Q:=by
 unfold cellAtBytes;simp only[rI,my]<;>try rfl
def xw:(swap Q J).eqGuardType=Q.eqGuardType:=by
 funext d;induction d with
 |zero=>rfl
 |succ d a=>simp[Program.eqGuardType,a]<;>try rfl
def nU:(swap Q J).toTables=Q.toTables/\(swap Q J).underlying=Q.underlying/\(swap Q J).depth=Q.depth/\(swap Q J).cellsOf=Q.cellsOf/\(swap Q J).bytesOf=Q.bytesOf/\(swap Q J).underlyingId=Q.underlyingId/\(swap Q J).alikeButTags=Q.alikeButTags/\(swap Q J).ownRow=Q.ownRow/\(swap Q J).stoodInAs=Q.stoodInAs/\(swap Q J).stoodIn=Q.stoodIn/\(swap Q J).stoodInHeld=Q.stoodInHeld/\(swap Q J).packedAs=Q.packedAs/\(swap Q J).packed=Q.packed/\(swap Q J).heldOrPacked=Q.heldOrPacked/\(swap Q J).bearsPack=Q.bearsPack/\typeHandle (swap Q J)=typeHandle Q/\handleType (swap Q J)=handleType Q/\finalizerTable (swap Q J)=finalizerTable Q/\printLock (swap Q J)=printLock Q/\cleanupTable (swap Q J)=cleanupTable Q/\byteOfCell (swap Q J)=byteOfCell Q/\cellHolding (swap Q J)=cellHolding Q/\plainCell (swap Q J)=plainCell Q/\tight (swap Q J)=tight Q/\seenCells (swap Q J)=seenCells Q/\(∀w:Sv,w.seen (swap Q J)=w.seen Q)/\(∀w:Sv,w.viewLoad (swap Q J)=w.viewLoad Q)/\(∀w:Sv,w.viewStore (swap Q J)=w.viewStore Q)/\(∀w:Sv,w.farLoad (swap Q J)=w.farLoad Q)/\(∀w:Sv,w.farStore (swap Q J)=w.farStore Q)/\(swap Q J).holdsStoodIn=Q.holdsStoodIn/\(swap Q J).holdsPacked=Q.holdsPacked/\(swap Q J).mayEmbedAPacks=Q.mayEmbedAPacks/\(swap Q J).namesPacked=Q.namesPacked/\(swap Q J).methodsOfAPack=Q.methodsOfAPack/\sameLayout (swap Q J)=sameLayout Q/\rowAt (swap Q J)=rowAt Q/\liesAt (swap Q J)=liesAt Q/\cellOfByte (swap Q J)=cellOfByte Q/\cellAtBytes (swap Q J)=cellAtBytes Q/\(swap Q J).eqGuardType=Q.eqGuardType:=
 ⟨iV,qL,uH,Ja,Jb,zX,uI,Gg,nS,Es,gL,ub,me,LH,Jc,Gi,zd,Na,A5,J9,my,qj,sr,zY,sq,xr,ua,so,vG,uc,vF,xv,Ck,xu,A6,rH,zZ,Gh,rI,xx,xw⟩
end
def Same{c:Type}(Q:AS)(b:Nat->Func->Func):Sem c->Prop
 | .pure _=>True
 |T0 _=>True
 | .load _ _ k=>∀v,Same Q b (k v)
 |Tr _ _ _ k=>Same Q b k
 | .new _ k=>∀v,Same Q b (k v)
 |Ts _ k=>∀v,Same Q b (k v)
 |Tg _ _ k=>Same Q b k
 |Tf _ k=>∀v,Same Q b (k v)
 |Te _ k=>∀o,Same Q b (k o)
 |Td _ _ k=>Same Q b k
 |Th _ k=>∀v,Same Q b (k v)
 | .sys _ k=>∀v,Same Q b (k v)
 |T5 k=>k (swap Q b)=k Q/\Same Q b (k Q)
 |Tj _ k=>Same Q b k
class Sm{α:Type}(Q:AS)(J:Nat->Func->Func)(s:Sem α):Prop where
 sm:Same Q J s
def yo{i g Q d s}{f:i->Sem g}(hs:Same Q d s)(e:∀a,Same Q d (f a)):Same Q d (s.bind f):=by
 induction s with
 |pure a=>exact e a
 |halt h=>trivial
 |load m a k b=>exactλv=>b v (hs v)
 |store m a v k b=>exact b hs
 |new o k b=>exactλv=>b v (hs v)
 |shape r k b=>exactλv=>b v (hs v)
 |freeze a n k b=>exact b hs
 |frozen a k b=>exactλv=>b v (hs v)
 |getObj r k b=>exactλv=>b v (hs v)
 |setObj r o k b=>exact b hs
 |choose q k b=>exactλv=>b v (hs v)
 |sys c k b=>exactλv=>b v (hs v)
 |program k b=>exact⟨congrArg (SJ · f) hs.1,b Q hs.2⟩
 |mark m k b=>exact b hs
def yn{f Q e}{s:Sem f}(hs:Same Q e s):∀w d,s.runT (swap Q e) w d=s.runT Q w d:=by
 induction s with
 |pure a=>exactλw d=>rfl
 |halt h=>exactλw d=>rfl
 |load m a k b=>
  intro w d;simp only[AI,vG];split;exact b _ (hs _) ..;split;exact b _ (hs _) ..;rfl
 |store m a v k b=>
  intro w d;cases v;all_goals simp only[AI,uc]
  all_goals
   split <;>first |split <;>first |rfl|exact b hs .. |split <;>first |exact b hs .. |rfl
 |new o k b=>exactλw d=>b _ (hs _) ..
 |shape r k b=>exactλw d=>b _ (hs _) ..
 |freeze a n k b=>exactλw d=>b hs ..
 |frozen a k b=>exactλw d=>b _ (hs _) ..
 |getObj r k b=>
  intro w d;simp only[AI];split;rfl;exact b _ (hs _) ..;rfl
 |setObj r o k b=>
  intro w d;simp only[AI];split;rfl;exact b hs ..;rfl
 |choose q k b=>
  intro w d;simp only[AI];split <;>exact b _ (hs _) ..
 |sys c k b=>exactλw d=>b _ (hs _) ..
 |program k b=>exactλw d=>by simp only[AI,hs.1];exact b Q hs.2 w d
 |mark m k b=>exactλw d=>b hs ..
def Jr{b Q a}{s:Sem b}(hs:Same Q a s)(w):s.run (swap Q a) w=s.run Q w:=by
 rw[<- SR (swap Q a) s w #[],<- SR Q s w #[],yn hs]
theorem mZ{b Q a}{f:AS->Sem b}(e:f (swap Q a)=f Q)(h:Sm Q a (f Q)):Sm Q a (program>>=f):=⟨⟨e,h.sm⟩⟩
instance ji{c U Q b s}{f:c->Sem U}[hs:Sm Q b s][d:∀a,Sm Q b (f a)]:Sm Q b (s>>=f):=⟨yo hs.sm λa=>(d a).sm⟩
instance Q2{b Q c a}:Sm Q c (pure a:Sem b):=⟨trivial⟩
instance Q4{a Q b h}:Sm Q b (T0 h:Sem a):=⟨trivial⟩
instance Ac{b Q a c}[Decidable c]{x y:Sem b}[e:Sm Q a x][d:Sm Q a y]:Sm Q a (if c then x else y):=by
 grind
instance Rw{d c Q b s}{f:d->c}[hs:Sm Q b s]:Sm Q b (f<$>s):=⟨yo hs.sm λa=>trivial⟩
instance Cs{b e:Type}{Q d}{f:b->Sem e}[h:∀a,Sm Q d (f a)](c:List b):Sm Q d (c.mapM f):=by
 induction c with
 |nil=>rw[SZ];exact zq2
 |cons x l g=>rw[SL];exact zq2
instance Dy{U d:Type}{Q b}{f:U->Sem d}[h:∀a,Sm Q b (f a)](c:Array U):Sm Q b (c.mapM f):=by
 rw[Sx];exact zq2
instance Rv(Q a c):Sm Q a (sys c):=⟨λ_=>trivial⟩
instance Q3(Q a x):Sm Q a (mark x):=⟨trivial⟩
instance LM{a}(Q b u):Sm Q b (unsupported u:Sem a):=⟨trivial⟩
instance Jf{a}(Q b s):Sm Q b (stuck s:Sem a):=⟨trivial⟩
section
def Dead:Halt->Prop
 | .waiting=>True
 |Tk=>True
 | .stuck _=>True
 |SC (Ti _)=>False
 |SC _=>True
 |_=>False
def Pe:Target->Prop
 | .coroexit _=>False
 |_=>True
def oK(d:Deferred):Prop:=Pe d.target
class aD where
 ok:Op->Bool
 cm:Prop
 lim:Nat
 nogo:∀c,ok (.go c)=false
 send:∀c x,ok (.send c x)=true->cm
 recv:∀t c b,ok (.recv t c b)=true->cm
 select:∀c b,ok (.select c b)=true->cm
variable[aD]
def Lf(o:Op):Bool:=aD.ok o
def cT:Code->Bool
 | .region _ d _=>d.all λo=>Lf o.op
 | .seq a b=>cT a&&cT b
 | .cond _ a b=>cT a&&cT b
 | .block _ b=>cT b
 | .loop b=>cT b
 | .scope b=>cT b
 | .rangeFunc _ _ a b=>cT a&&cT b
 |_=>true
def Lv(l:Loop):Prop:=cT l.assign=true/\cT l.body=true/\∀c,l.pending=some c->cT c=true
def pE:Obj->Prop
 |T8 l=>Lv l
 |SY (some a)=>∀d∈a,oK d
 | .pending _ _=>False
 | .coro _=>False
 |_=>True
class rF(o:Obj):Prop where
 ok:pE o
instance(c e f):rF (.cells c e f):=⟨trivial⟩
instance(a t):rF (.view a t):=⟨trivial⟩
instance(e c):rF (.map e c):=⟨trivial⟩
instance(c b d s r t):rF (.chan c b d s r t):=⟨trivial⟩
instance(s p):rF (.stringIter s p):=⟨trivial⟩
instance(m s n x):rF (.mapIter m s n x):=⟨trivial⟩
instance:rF (SY none):=⟨trivial⟩
instance:rF (SY (some [])):=⟨λ_ h=>nomatch h⟩
def lO:Halt->Prop
 |SC (Ti g)=>aD.lim<=g
 |_=>True
class NU(u:Unsupported):Prop where
 no:∀g,u≠Ti g
instance(s):NU (.extern s):=⟨λ_ h=>nomatch h⟩
instance(s):NU (TF s):=⟨λ_ h=>nomatch h⟩
instance(s):NU (.unsafePointer s):=⟨λ_ h=>nomatch h⟩
instance(s):NU (.resourceLimit s):=⟨λ_ h=>nomatch h⟩
instance:NU .addressObserved:=⟨λ_ h=>nomatch h⟩
def yH{u}[a:NU u]:lO (SC u):=by
 cases u<;>first |trivial|exact absurd rfl (a.no _)
def pF(o:Obj):Prop:=pE o\/(∃c t,o= .pending c t)\/∃c,o= .coro c
def pF.loop{r}(h:pF (T8 r)):Lv r:=by
 rcases h with h|⟨_,_,h⟩|⟨_,h⟩<;>first |exact h|cases h
def pF.ds{l}(h:pF (SY (some l))):∀d∈l,oK d:=by
 rcases h with h|⟨_,_,h⟩|⟨_,h⟩<;>first |exact h|cases h
def Cut{a:Type}(m:Bool)(k:Obj->Sem a):Prop:=(m=true/\∃h,k (.coro none)=T0 h/\Dead h)\/((∀l,k (T8 l)=k (.coro none))/\∀d,k (SY d)=k (.coro none))
def ve{g i m k}{f:g->Sem i}(h:Cut m k):Cut m λo=>(k o).bind f:=by
 rcases h with⟨c,x,e,d⟩|⟨a,b⟩
 exact .inl ⟨c,x,(congrArg (λs=>SJ s f) e).trans rfl,d⟩;exact .inr ⟨λl=>congrArg (λs=>SJ s f) (a l),λd=>congrArg (λs=>SJ s f) (b d)⟩
def cw{b:Type}(P:AS)(m n:Bool):Sem b->Prop
 | .pure _=>True
 |T0 h=>lO h
 | .load _ _ k=>∀v,cw P m n (k v)
 |Tr _ _ _ k=>cw P m n k
 | .new o k=>pE o/\∀v,cw P m n (k v)
 |Ts _ k=>∀v,cw P m n (k v)
 |Tg _ _ k=>cw P m n k
 |Tf _ k=>∀v,cw P m n (k v)
 |Te _ k=>(∀o,pF o->cw P m n (k o))/\Cut m k
 |Td _ o k=>pE o/\cw P m n k
 |Th _ k=>∀v,cw P m n (k v)
 | .sys _ k=>(∃h,k .wouldBlock=T0 h/\Dead h)/\∀v,cw P m n (k v)
 |T5 k=>cw P m n (k P)
 |Tj x k=>(x=Tc->n=true)/\cw P m n k
abbrev l6{a:Type}(P:AS)(s:Sem a):Prop:=cw P true true s
class bU{α:Type}(P:AS)(m n:Bool)(s:Sem α):Prop where
 st:cw P m n s
abbrev St{a:Type}(P:AS)(s:Sem a):Prop:=bU P true true s
def ue{i g P m n s}{f:i->Sem g}(hs:cw P m n s)(j:∀a,cw P m n (f a)):cw P m n (s.bind f):=by
 induction s with
 |pure a=>exact j a
 |halt h=>exact hs
 |load m a k b=>exactλv=>b v (hs v)
 |store m a v k b=>exact b hs
 |new o k b=>exact⟨hs.1,λv=>b v (hs.2 v)⟩
 |shape r k b=>exactλv=>b v (hs v)
 |freeze a n k b=>exact b hs
 |frozen a k b=>exactλv=>b v (hs v)
 |getObj r k b=>exact⟨λv l=>b v (hs.1 v l),ve hs.2⟩
 |setObj r o k b=>exact⟨hs.1,b hs.2⟩
 |choose q k b=>exactλv=>b v (hs v)
 |sys c k b=>exact⟨let⟨h,e,d⟩:=hs.1;⟨h,(congrArg (λx=>SJ x f) e).trans rfl,d⟩,λv=>b v (hs.2 v)⟩
 |program k b=>exact b P hs
 |mark m k b=>exact⟨hs.1,b hs.2⟩
instance aX{d b P m n s}{f:d->Sem b}[hs:bU P m n s][c:∀a,bU P m n (f a)]:bU P m n (s>>=f):=⟨ue hs.st λa=>(c a).st⟩
instance PY{b P m n a}:bU P m n (pure a:Sem b):=⟨trivial⟩
instance P3{a P m n}:bU P m n (T0 Tk:Sem a):=⟨trivial⟩
instance vI{a P m n c}[Decidable c]{x y:Sem a}[d:bU P m n x][b:bU P m n y]:bU P m n (if c then x else y):=by
 grind
instance Ru{c b P m n s}{f:c->b}[hs:bU P m n s]:bU P m n (f<$>s):=⟨ue hs.st λa=>trivial⟩
instance pL{c d:Type}{P m n}{f:c->Sem d}[h:∀a,bU P m n (f a)](b:List c):bU P m n (b.mapM f):=by
 induction b with
 |nil=>rw[SZ];exact zq2
 |cons x l e=>rw[SL];exact zq2
instance Dt{b c:Type}{P m n}{f:b->Sem c}[h:∀a,bU P m n (f a)](d:Array b):bU P m n (d.mapM f):=by
 rw[Sx];exact zq2
instance OB(P){a b}:bU P a b program:=⟨trivial⟩
class zE(x:Mark):Prop where
 h:x≠Tc
instance(f):zE (.extern f):=⟨λh=>nomatch h⟩
instance:zE SP:=⟨λh=>nomatch h⟩
instance:zE SW:=⟨λh=>nomatch h⟩
instance Pm{m n}(P x)[h:zE x]:bU P m n (Go.mark x):=⟨⟨λe=>absurd e h.h,trivial⟩⟩
instance PZ{m}(P x):bU P m true (Go.mark x):=⟨⟨λ_=>rfl,trivial⟩⟩
instance LI{c}(P){b a}(u)[d:NU u]:bU P b a (unsupported u:Sem c):=⟨yH⟩
instance qN{a}(P){d b}(c):bU P d b (stuck c:Sem a):=⟨trivial⟩
end
def jv:Obj->Prop
 | .cells _ _ _=>True
 | .number _ _=>True
 |_=>False
def Meek:Mark->Prop
 | .extern _=>True
 |Tc=>True
 |_=>False
def qA(h:Halt):Prop:=(∃v,h= .panic v)\/h= .goexit\/Dead h
def bE{b:Type}(P:AS):Sem b->Prop
 | .pure _=>True
 |T0 h=>qA h
 | .load _ _ k=>∀v,bE P (k v)
 |Tr _ _ _ k=>bE P k
 | .new o k=>jv o/\∀v,bE P (k v)
 |Ts _ k=>∀v,bE P (k v)
 |Tg _ _ k=>False
 |Tf _ k=>∀v,bE P (k v)
 |Te _ k=>∀o,bE P (k o)
 |Td _ o k=>False
 |Th _ k=>∀v,bE P (k v)
 | .sys _ k=>∀v,bE P (k v)
 |T5 k=>bE P (k P)
 |Tj m k=>Meek m/\bE P k
class Nf{α:Type}(P:AS)(s:Sem α):Prop where
 nf:bE P s
def rQ{g d P s}{f:g->Sem d}(hs:bE P s)(e:∀a,bE P (f a)):bE P (s.bind f):=by
 induction s with
 |pure a=>exact e a
 |halt h=>exact hs
 |load m a k b=>exactλv=>b v (hs v)
 |store m a v k b=>exact b hs
 |new o k b=>exact⟨hs.1,λv=>b v (hs.2 v)⟩
 |shape r k b=>exactλv=>b v (hs v)
 |freeze a n k b=>exact hs.elim
 |frozen a k b=>exactλv=>b v (hs v)
 |getObj r k b=>exactλv=>b v (hs v)
 |setObj r o k b=>exact hs.elim
 |choose q k b=>exactλv=>b v (hs v)
 |sys c k b=>exactλv=>b v (hs v)
 |program k b=>exact b P hs
 |mark m k b=>exact⟨hs.1,b hs.2⟩
instance dl{d b P s}{f:d->Sem b}[hs:Nf P s][c:∀a,Nf P (f a)]:Nf P (s>>=f):=⟨rQ hs.nf λa=>(c a).nf⟩
instance fQ{b P a}:Nf P (pure a:Sem b):=⟨trivial⟩
def Io{u}[a:NU u]:Dead (SC u):=by
 cases u<;>first |trivial|exact absurd rfl (a.no _)
instance Nx{a P c}[Decidable c]{x y:Sem a}[d:Nf P x][b:Nf P y]:Nf P (if c then x else y):=by
 grind
instance Nw{c b P s}{f:c->b}[hs:Nf P s]:Nf P (f<$>s):=⟨rQ hs.nf λa=>trivial⟩
class Ss(o:Obj):Prop where
 ok:jv o
instance Ba(P f):Nf P (mark (.extern f)):=⟨trivial,trivial⟩
instance Oq(P):Nf P program:=⟨trivial⟩
instance Mj{a}(P u)[b:NU u]:Nf P (unsupported u:Sem a):=⟨.inr (.inr Io)⟩
instance Ps{a}(P m):Nf P (stuck m:Sem a):=⟨.inr (.inr trivial)⟩
instance Ot{c d:Type}{P}{f:c->Sem d}[h:∀a,Nf P (f a)](b:List c):Nf P (b.mapM f):=by
 induction b with
 |nil=>exact fQ
 |cons x l e=>rw[SL];exact @dl _ _ _ _ _ (h x) λa=> @dl _ _ _ _ _ e λl=>fQ
instance Mk{b c:Type}{P}{f:b->Sem c}[h:∀a,Nf P (f a)](d:Array b):Nf P (d.mapM f):=by
 rw[Sx];exact Nw
def C5:Halt->Prop
 |Tk=>True
 | .waiting=>True
 | .stuck _=>True
 |SC _=>True
 |_=>False
def ia{b:Type}(P:AS)(n:Nat):Sem b->Prop
 | .pure _=>n=0
 |T0 h=>n=0\/C5 h
 | .load _ _ k=>∀v,ia P n (k v)
 |Tr _ _ _ k=>ia P n k
 | .new _ k=>∀v,ia P n (k v)
 |Ts _ k=>∀v,ia P n (k v)
 |Tg _ _ k=>ia P n k
 |Tf _ k=>∀v,ia P n (k v)
 |Te _ k=>∀o,ia P n (k o)
 |Td _ _ k=>ia P n k
 |Th _ k=>∀v,ia P n (k v)
 | .sys _ k=>∀v,ia P n (k v)
 |T5 k=>ia P n (k P)
 |Tj SP k=>ia P (n+1) k
 |Tj SW k=>0<n/\ia P (n-1) k
 |Tj _ k=>ia P n k
class Hu{α:Type}(P:AS)(s:Sem α):Prop where
 hu:ia P 0 s
def Bm{i g P s}{f:i->Sem g}(e:∀a,ia P 0 (f a)):∀n,ia P n s->ia P n (s.bind f):=by
 induction s with
 |pure a=>intro n b;cases b;exact e a
 |halt h=>exactλn b=>b
 |load m a k d=>exactλn b v=>d v n (b v)
 |store m a v k d=>exactλn b=>d n b
 |new o k d=>exactλn b v=>d v n (b v)
 |shape r k d=>exactλn b v=>d v n (b v)
 |freeze a c k d=>exactλn b=>d n b
 |frozen a k d=>exactλn b v=>d v n (b v)
 |getObj r k d=>exactλn b v=>d v n (b v)
 |setObj r o k d=>exactλn b=>d n b
 |choose q k d=>exactλn b v=>d v n (b v)
 |sys c k d=>exactλn b v=>d v n (b v)
 |program k d=>exactλn b=>d P n b
 |mark m k d=>
  intro n b;cases m;case disable=>exact d (n+1) b
  case enable=>exact⟨b.1,d (n-1) b.2⟩
  all_goals exact d n b
instance Mu{d b P s}{f:d->Sem b}[hs:Hu P s][c:∀a,Hu P (f a)]:Hu P (s>>=f):=⟨Bm (λa=>(c a).hu) 0 hs.hu⟩
theorem d9{c b P s}{f:c->Sem b}(hs:Hu P s)(d:∀a,Hu P (f a)):Hu P (s>>=f):=Mu
instance Q6{b P a}:Hu P (pure a:Sem b):=⟨rfl⟩
instance NJ{a P c}[Decidable c]{x y:Sem a}[d:Hu P x][b:Hu P y]:Hu P (if c then x else y):=by
 grind
instance Ry{c b P s}{f:c->b}[hs:Hu P s]:Hu P (f<$>s):=⟨Bm (f:=λa=>Sem.pure (f a)) (λa=>rfl) 0 hs.hu⟩
instance Q5(P c):Hu P (sys c):=⟨λ_=>rfl⟩
class Ed(x:Mark):Prop where
 h1:x≠SP
 h2:x≠SW
instance(f):Ed (.extern f):=⟨(λh=>nomatch h),λh=>nomatch h⟩
instance Pw(P x)[h:Ed x]:Hu P (Go.mark x):=⟨by
 cases x;case disable=>exact absurd rfl h.h1
 case enable=>exact absurd rfl h.h2
 all_goals exact rfl⟩
theorem js{a P c}[Decidable c]{x y:Sem a}(d:Hu P x)(b:Hu P y):Hu P (if c then x else y):=NJ
instance Ou{c d:Type}{P}{f:c->Sem d}[h:∀a,Hu P (f a)](b:List c):Hu P (b.mapM f):=by
 induction b with
 |nil=>rw[SZ];exact zq2
 |cons x l e=>rw[SL];exact zq2
instance Mt{b d:Type}{P}{f:b->Sem d}[h:∀a,Hu P (f a)](c:Array b):Hu P (c.mapM f):=by
 rw[Sx];exact zq2
instance OS(P):Hu P program:=⟨rfl⟩
instance Ms{a}(P u):Hu P (unsupported u:Sem a):=⟨.inl rfl⟩
instance K8{a}(P s):Hu P (stuck s:Sem a):=⟨.inl rfl⟩
section
variable[aD]
def iO{c:Type}(Q:AS)(b:Nat->Func->Func)(g m n z d:Bool):Sem c->Prop
 | .pure _=>True
 |T0 h=>lO h/\(z=false->qA h)
 | .load _ _ k=>∀v,iO Q b g m n z d (k v)
 |Tr _ _ _ k=>iO Q b g m n z d k
 | .new o k=>((g=true->pE o)/\(z=false->jv o))/\∀v,iO Q b g m n z d (k v)
 |Ts _ k=>∀v,iO Q b g m n z d (k v)
 |Tg _ _ k=>z=true/\iO Q b g m n z d k
 |Tf _ k=>∀v,iO Q b g m n z d (k v)
 |Te _ k=>(∀o,(g=true->pF o)->iO Q b g m n z d (k o))/\Cut m k
 |Td _ o k=>(z=true/\(g=true->pE o))/\iO Q b g m n z d k
 |Th _ k=>∀v,iO Q b g m n z d (k v)
 | .sys _ k=>(∃h,k .wouldBlock=T0 h/\Dead h)/\∀v,iO Q b g m n z d (k v)
 |T5 k=>k (swap Q b)=k Q/\iO Q b g m n z d (k Q)
 |Tj x k=>((x=Tc->n=true)/\(d=true->x≠SP/\x≠SW)/\(z=false->Meek x))/\iO Q b g m n z d k
class Al{α:Type}(Q:AS)(J:Nat->Func->Func)(g m n z d:Bool)(s:Sem α):Prop where
 al:iO Q J g m n z d s
section
variable{Q:AS}{J:Nat->Func->Func}{g m n z d:Bool}
def yY{i c s}{f:i->Sem c}(hs:iO Q J g m n z d s)(j:∀a,iO Q J g m n z d (f a)):iO Q J g m n z d (s.bind f):=by
 induction s with
 |pure a=>exact j a
 |halt h=>exact hs
 |load _ _ k b|shape _ k b|frozen _ k b|choose _ k b=>exactλv=>b v (hs v)
 |store _ _ _ k b=>exact b hs
 |new o k b=>exact⟨hs.1,λv=>b v (hs.2 v)⟩
 |freeze _ _ k b=>exact⟨hs.1,b hs.2⟩
 |getObj _ k b=>exact⟨λv l=>b v (hs.1 v l),ve hs.2⟩
 |setObj _ _ k b=>exact⟨hs.1,b hs.2⟩
 |sys _ k b=>exact⟨let⟨h,e,d⟩:=hs.1;⟨h,(congrArg (λx=>SJ x f) e).trans rfl,d⟩,λv=>b v (hs.2 v)⟩
 |program k b=>exact⟨congrArg (λx=>SJ x f) hs.1,b Q hs.2⟩
 |mark _ k b=>exact⟨hs.1,b hs.2⟩
def xe{c}{s:Sem c}(hs:iO Q J true m n z d s):cw Q m n s:=by
 induction s with
 |pure a=>trivial
 |halt h=>exact hs.1
 |load _ _ k b|shape _ k b|frozen _ k b|choose _ k b=>exactλv=>b v (hs v)
 |store _ _ _ k b=>exact b hs
 |new o k b=>exact⟨hs.1.1 rfl,λv=>b v (hs.2 v)⟩
 |freeze _ _ k b=>exact b hs.2
 |getObj _ k b=>exact⟨λv e=>b v (hs.1 v λ_=>e),hs.2⟩
 |setObj _ _ k b=>exact⟨hs.1.2 rfl,b hs.2⟩
 |sys _ k b=>exact⟨hs.1,λv=>b v (hs.2 v)⟩
 |program k b=>exact b Q hs.2
 |mark _ k b=>exact⟨hs.1.1,b hs.2⟩
theorem mr{e}{s:Sem e}(hs:iO Q J false m n z d s):Same Q J s/\(d=true->ia Q 0 s)/\(z=false->bE Q s):=by
 induction s with
 |pure a=>exact⟨trivial,λ_=>rfl,λ_=>trivial⟩
 |halt h=>exact⟨trivial,λ_=>.inl rfl,hs.2⟩
 |load _ _ k b|shape _ k b|frozen _ k b|choose _ k b=>exact⟨λv=>(b v (hs v)).1,λh v=>(b v (hs v)).2.1 h,λh v=>(b v (hs v)).2.2 h⟩
 |store _ _ _ k b=>exact b hs
 |new o k b=>exact⟨λv=>(b v (hs.2 v)).1,λh v=>(b v (hs.2 v)).2.1 h,λh=>⟨hs.1.2 h,λv=>(b v (hs.2 v)).2.2 h⟩⟩
 |freeze _ _ k b=>exact⟨(b hs.2).1,(b hs.2).2.1,λh=>nomatch h.symm.trans hs.1⟩
 |getObj _ k b=>exact⟨λv=>(b v (hs.1 v nofun)).1,λh v=>(b v (hs.1 v nofun)).2.1 h,λh v=>(b v (hs.1 v nofun)).2.2 h⟩
 |setObj _ _ k b=>exact⟨(b hs.2).1,(b hs.2).2.1,λh=>nomatch h.symm.trans hs.1.1⟩
 |sys _ k b=>exact⟨λv=>(b v (hs.2 v)).1,λh v=>(b v (hs.2 v)).2.1 h,λh v=>(b v (hs.2 v)).2.2 h⟩
 |program k b=>exact⟨⟨hs.1,(b Q hs.2).1⟩,(b Q hs.2).2.1,(b Q hs.2).2.2⟩
 |mark x k b=>
  refine⟨(b hs.2).1,λc=> ?_,λh=>⟨hs.1.2.2 h,(b hs.2).2.2 h⟩⟩;cases x;case disable=>exact absurd rfl (hs.1.2.1 c).1
  case enable=>exact absurd rfl (hs.1.2.1 c).2
  all_goals exact(b hs.2).2.1 c
@[reducible] def fo:aD:=⟨λ_=>false,True,0,λ_=>rfl,nofun,nofun,nofun⟩
instance(priority:=low) st_al{a}{s:Sem a}[h:Al Q (λ_ f=>f) true m n true false s]:bU Q m n s:=⟨xe h.al⟩
class xj(g z:Bool)(o:Obj):Prop where
 ok:(g=true->pE o)/\(z=false->jv o)
instance(c e f):xj g z (.cells c e f):=⟨λ_=>trivial,λ_=>trivial⟩
instance(a t):xj g z (.number a t):=⟨λ_=>trivial,λ_=>trivial⟩
instance{o}[h:rF o]:xj g true o:=⟨λ_=>h.ok,nofun⟩
class Lw(n z d:Bool)(x:Mark):Prop where
 ok:(x=Tc->n=true)/\(d=true->x≠SP/\x≠SW)/\(z=false->Meek x)
instance:Lw true z d Tc:=⟨λ_=>rfl,λ_=>⟨nofun,nofun⟩,λ_=>trivial⟩
instance:Lw n true false SP:=⟨nofun,nofun,nofun⟩
instance:Lw n true false SW:=⟨nofun,nofun,nofun⟩
theorem aB{e b s}{f:e->Sem b}(hs:Al Q J g m n z d s)(c:∀a,Al Q J g m n z d (f a)):Al Q J g m n z d (s>>=f):=⟨yY hs.al λa=>(c a).al⟩
instance Rt{e b s}{f:e->Sem b}[hs:Al Q J g m n z d s][c:∀a,Al Q J g m n z d (f a)]:Al Q J g m n z d (s>>=f):=aB hs c
theorem aG{a r}{f:Obj->Sem a}(b:∀o,Al Q J g m n z d (f o))(c:Cut m f):Al Q J g m n z d (getObj r>>=f):=⟨⟨λo _=>(b o).al,c⟩⟩
theorem aP{a}{f:AS->Sem a}(e:f (swap Q J)=f Q)(h:Al Q J g m n z d (f Q)):Al Q J g m n z d (program>>=f):=⟨⟨e,h.al⟩⟩
instance eR{b a}:Al Q J g m n z d (pure a:Sem b):=⟨trivial⟩
instance Sl{b a s}{f:b->a}[hs:Al Q J g m n z d s]:Al Q J g m n z d (f<$>s):=⟨yY hs.al λ_=>trivial⟩
theorem aI{a c}[Decidable c]{x y:Sem a}(e:Al Q J g m n z d x)(b:Al Q J g m n z d y):Al Q J g m n z d (if c then x else y):=by
 grind
instance Sn{a c}[Decidable c]{x y:Sem a}[e:Al Q J g m n z d x][b:Al Q J g m n z d y]:Al Q J g m n z d (if c then x else y):=aI e b
theorem So{c e:Type}(l:List c)(f:(a:c)->a∈l->e->Sem (ForInStep e))(h:∀a i b,Al Q J g m n z d (f a i b))(b):Al Q J g m n z d (forIn' l b f):=by
 induction l generalizing b with
 |nil=>rw[List.forIn'_nil];exact zq2
 |cons x l j=>
  rw[List.forIn'_cons];refine aB (h x _ b) λr=> ?_
  cases r with
  |done b=>exact zq2
  |yield b=>exact j (λa m b=>f a (List.mem_cons_of_mem _ m) b) (λa m b=>h a _ b) b
theorem Pd{c}(l:Std.Legacy.Range)(f:(a:Nat)->a∈l->c->Sem (ForInStep c))(h:∀a e b,Al Q J g m n z d (f a e b))(b):Al Q J g m n z d (forIn' l b f):=by
 rw[Std.Legacy.Range.forIn'_eq_forIn'_range'];exact So _ _ (λ_ _ _=>h ..) _
theorem aL{c e:Type}{f:c->e->Sem (ForInStep e)}(h:∀a b,Al Q J g m n z d (f a b))(l:List c)(b):Al Q J g m n z d (forIn l b f):=by
 induction l generalizing b with
 |nil=>rw[List.forIn_nil];exact zq2
 |cons x l i=>
  rw[List.forIn_cons];refine aB (h x b) λr=> ?_
  cases r with
  |done b=>exact zq2
  |yield b=>exact i b
theorem aF{c e:Type}{f:c->e->Sem (ForInStep e)}(h:∀a b,Al Q J g m n z d (f a b))(l:Array c)(b):Al Q J g m n z d (forIn l b f):=by
 rw[<- Array.forIn_toList];exact aL h ..
theorem aR{c}{f:Nat->c->Sem (ForInStep c)}(h:∀a b,Al Q J g m n z d (f a b))(l:Std.Legacy.Range)(b):Al Q J g m n z d (forIn l b f):=by
 rw[Std.Legacy.Range.forIn_eq_forIn_range'];exact aL h ..
instance aO{c e:Type}{f:e->c->Sem e}[h:∀a b,Al Q J g m n z d (f a b)](l:List c)(b):Al Q J g m n z d (l.foldlM f b):=by
 induction l generalizing b with
 |nil=>rw[List.foldlM_nil];exact zq2
 |cons x l i=>exact aB (h b x) λr=>i r
instance Ow{c e:Type}{f:c->Sem e}[h:∀a,Al Q J g m n z d (f a)](b:List c):Al Q J g m n z d (b.mapM f):=by
 induction b with
 |nil=>rw[SZ];exact zq2
 |cons x l i=>rw[SL];exact zq2
instance Rr{b c:Type}{f:b->Sem c}[h:∀a,Al Q J g m n z d (f a)](e:Array b):Al Q J g m n z d (e.mapM f):=by
 rw[Sx];exact zq2
instance(o)[h:xj g z o]:Al Q J g m n z d (newObj o):=⟨h.ok,λ_=>trivial⟩
instance(r o)[h:xj g true o]:Al Q J g m n true d (setObj r o):=⟨⟨rfl,h.ok.1⟩,trivial⟩
instance(x)[h:Lw n z d x]:Al Q J g m n z d (mark x):=⟨h.ok,trivial⟩
instance{a}(u)[NU u]:Al Q J g m n z d (unsupported u:Sem a):=⟨yH,λ_=>.inr (.inr Io)⟩
instance{a}(s):Al Q J g m n z d (stuck s:Sem a):=⟨trivial,λ_=>.inr (.inr trivial)⟩
instance{a}:Al Q J g m n z d (T0 Tk:Sem a):=⟨trivial,λ_=>.inr (.inr trivial)⟩
instance{a}(v):Al Q J g m n z d (goPanic v:Sem a):=⟨trivial,λ_=>.inl ⟨v,rfl⟩⟩
instance(a b):Al Q J g m n z d (Go.load a b):=⟨λ_=>trivial⟩
instance(a b c):Al Q J g m n z d (Go.store a b c):=⟨trivial⟩
instance(r):Al Q J g m n z d (Go.shape r):=⟨λ_=>trivial⟩
instance(a k):Al Q J g m n true d (Go.freeze a k):=⟨rfl,trivial⟩
instance(a):Al Q J g m n z d (Go.frozen a):=⟨λ_=>trivial⟩
instance(q):Al Q J g m n z d (Go.choose q):=⟨λ_=>trivial⟩
instance(a b):Al Q J g m n z d (writeFd a b):=⟨⟨_,rfl,trivial⟩,λv=>by cases v<;>first |trivial|exact⟨trivial,λ_=>.inr (.inr trivial)⟩⟩
instance:Al Q J g m n z d Instr.panicnil:=⟨⟨_,rfl,trivial⟩,λv=>by cases v<;>first |trivial|exact⟨trivial,λ_=>.inr (.inr trivial)⟩⟩
theorem aA{a}{s:Sem a}(h:Al Q J g m n z d s:=by
 repeat' (first
  |exact zq2
  |(with_reducible refine aP ?_ ?_)
  |with_reducible rfl
  |(simp only[nU];done)
  |(simp only[nU];with_reducible rfl)
  |rfl
  |(with_reducible refine aG (λ_=> ?_) ?_)
  |exact .inl ⟨rfl,_,rfl,trivial⟩
  |exact .inr ⟨λ_=>rfl,λ_=>rfl⟩
  |(refine aB ?_ λ_=> ?_)
  |(refine aI ?_ ?_)
  |(refine aF (λ_ _=> ?_) ..)
  |(refine aR (λ_ _=> ?_) ..)
  |(refine Pd _ _ (λ_ _ _=> ?_) _)
  |split
  |(intro _)
  |dsimp only)):Al Q J g m n z d s:=h
theorem aU{a}{s:Sem a}(h:Al Q J g m n z d s:=by
 repeat' (first
  |exact⟨trivial,λ_=>.inr (.inr trivial)⟩
  |exact eR
  |dsimp only
  |exact zq2
  |(with_reducible refine aP ?_ ?_)
  |with_reducible rfl
  |(simp only[nU];done)
  |(simp only[nU];with_reducible rfl)
  |rfl
  |(with_reducible refine aG (λ_=> ?_) ?_)
  |exact .inl ⟨rfl,_,rfl,trivial⟩
  |exact .inr ⟨λ_=>rfl,λ_=>rfl⟩
  |(refine aB ?_ λ_=> ?_)
  |(refine aI ?_ ?_)
  |(refine aF (λ_ _=> ?_) ..)
  |(refine aR (λ_ _=> ?_) ..)
  |(refine Pd _ _ (λ_ _ _=> ?_) _)
  |split
  |(intro _)
  |dsimp only)):Al Q J g m n z d s:=h
class L1(Q:AS)(J:Nat->Func->Func)(g:Bool):Prop where
 l1_0:∀a b c d e f h,Al Q J g a b c d (U1 e f h)
 l1_1:∀a b c d e f,Al Q J g a b c d (Conv.intToInt e f)
 l1_2:∀a b c d e f,Al Q J g a b c d (Conv.intToFloat e f)
 l1_3:∀a b c d e,Al Q J g a b c d (Conv.intToString e)
instance:L1 Q J g:=by
 constructor;all_goals
  intros
  first |unfold U1|unfold Conv.intToInt|unfold Conv.intToFloat|unfold Conv.intToString
  exact aA
attribute [instance] L1.l1_0 L1.l1_1 L1.l1_2 L1.l1_3
class L2(Q:AS)(J:Nat->Func->Func)(g:Bool):Prop where
 l2_0:∀b c d e a i n acc,Al Q J g b c d e (loadCellsFrom a i n acc)
 l2_1:∀b c d e a vs i,Al Q J g b c d e (storeCells a vs i)
 l2_2:∀b c d e a acc n,Al Q J g b c d e (loadBytes a acc n)
 l2_3:∀a b c d e f h,Al Q J g a b c d (Builtin.complex_ e f h)
 l2_4:∀a b c d e f h,Al Q J g a b c d (Builtin.imag_ e f h)
 l2_5:∀a b c d e f h,Al Q J g a b c d (Builtin.real_ e f h)
 l2_6:∀a b c d,Al Q J g a true b c (askRoom d)
 l2_7:∀a b c d e,Al Q J g a b c d (viewAt e)
 l2_8:∀a b c d e,Al Q J g a b c d (numberAt e)
 l2_9:∀a b c d e,Al Q J g a b c d (cellsIn e)
 l2_10:∀a b c d e f,Al Q J g a b c d (asNumber e f)
 l2_11:∀a b c d,Al Q J g a b true c (markStringish d)
 l2_12:∀a b c d e,Al Q J g a b c d (stringish e)
 l2_13:∀a b c d e,Al Q J g a b c d (typeInfo e)
 l2_14:∀a b c d e,Al Q J g a b c d (underlying e)
 l2_15:∀a b c d e,Al Q J g a b c d (cutType e)
 l2_16:∀a b c d e,Al Q J g a b c d (globalAddr e)
 l2_17:∀a b c d e f,Al Q J g a b c d (newRow e f)
 l2_18:∀α a b c d e,Al Q J g a b c d (panicString (α:=α) e)
 l2_19:∀a b c d e,Al Q J g a b c d (asIntOf e)
 l2_20:∀a b c d e,Al Q J g a b c d (asBool e)
 l2_21:∀a b c d e,Al Q J g a b c d (asAgg e)
 l2_22:∀a b c d e f,Al Q J g a b c d (TJ e f)
 l2_23:∀a b c d e f h,Al Q J g a b c d (variablesAt e f h)
 l2_24:∀a b c d e,Al Q J g a b c d (U0 e)
 l2_25:∀a b c d e,Al Q J g a b c d (Instr.waits e)
 l2_26:∀a b c,Al Q J g true a true b (Instr.ready c)
 l2_27:∀a b c d e f,Al Q J g a b c d (Instr.keyThatStays e f)
 l2_28:∀a b c d e,Al Q J g true a true b (Instr.next c d e)
 l2_29:∀a b c d,Al Q J g true a b c (Instr.entry d)
 l2_30:∀a b c,Al Q J g true a true b (SD c)
 l2_31:∀a b c d,Al Q J g a b c d Extern.PrintPieces.held
 l2_32:∀a b c d e f,Al Q J g a b c d (Instr.extract e f)
 l2_33:∀a b c d e f h i,Al Q J g a b c d (Op.intArith e f h i)
 l2_34:∀a b c d e f h i,Al Q J g a b c d (Op.intBits e f h i)
 l2_35:∀a b c d e f h,Al Q J g a b c d (Op.intCmp e f h)
 l2_36:∀a b c d e f h i,Al Q J g a b c d (Op.floatArith e f h i)
 l2_37:∀a b c d e f h i,Al Q J g a b c d (Op.floatCmp e f h i)
 l2_38:∀a b c d e f h,Al Q J g a b c d (TC e f h)
 l2_39:∀a b c d e f h,Al Q J g a b c d (Op.stringOp e f h)
 l2_40:∀a b c d e f h,Al Q J g a b c d (TX e f h)
 l2_41:∀a b c d e f,Al Q J g a b c d (Tw e f)
 l2_42:∀a b c d e,Al Q J g a b c d (Ue e)
instance:L2 Q J g:=by
 constructor;case l2_0=>
  intro _ _ _ _ a i n e;induction n generalizing i e
  all_goals
   unfold loadCellsFrom;exact aA
 case l2_1=>
  intro _ _ _ _ a k i;induction k generalizing i
  all_goals
   unfold storeCells;exact aA
 case l2_2=>
  intro _ _ _ _ a e n;induction n generalizing a e
  all_goals
   unfold loadBytes;exact aA
 case l2_3=>
  intro _ _ _ _ j h f;unfold Builtin.complex_;have⟨l⟩:=f;rcases l with _|⟨a,_|⟨b,_|⟨c,l⟩⟩⟩
  all_goals first
   |exact⟨trivial,λ_=>.inr (.inr trivial)⟩
   |(cases a<;>first
    |exact⟨trivial,λ_=>.inr (.inr trivial)⟩
    |(cases b<;>first
     |exact⟨trivial,λ_=>.inr (.inr trivial)⟩
     |(rename_i o;cases o<;>(
    exact aU))
     |(
    exact aU)))
 case l2_4=>
  intro _ _ _ _ j h f;unfold Builtin.imag_;have⟨l⟩:=f;rcases l with _|⟨a,_|⟨b,l⟩⟩
  all_goals first
   |exact⟨trivial,λ_=>.inr (.inr trivial)⟩
   |(cases a<;>first
    |exact⟨trivial,λ_=>.inr (.inr trivial)⟩
    |exact eR
    |(rename_i o;cases o<;>first
     |exact⟨trivial,λ_=>.inr (.inr trivial)⟩
     |exact eR
     |(
    exact aU))
    |(
    exact aU))
 case l2_5=>
  intro _ _ _ _ j h f;unfold Builtin.real_;have⟨l⟩:=f;rcases l with _|⟨a,_|⟨b,l⟩⟩
  all_goals first
   |exact⟨trivial,λ_=>.inr (.inr trivial)⟩
   |(cases a<;>first
    |exact⟨trivial,λ_=>.inr (.inr trivial)⟩
    |exact eR
    |(rename_i o;cases o<;>first
     |exact⟨trivial,λ_=>.inr (.inr trivial)⟩
     |exact eR
     |(
    exact aU))
    |(
    exact aU))
 all_goals
  intros
  first |unfold askRoom|unfold viewAt|unfold numberAt|unfold cellsIn|unfold asNumber|unfold markStringish|unfold stringish|unfold typeInfo|unfold underlying|unfold cutType|unfold globalAddr|unfold newRow|unfold panicString|unfold asIntOf|unfold asBool|unfold asAgg|unfold TJ|unfold variablesAt|unfold U0|unfold Instr.waits|unfold Instr.ready|unfold Instr.keyThatStays|unfold Instr.next |unfold Instr.entry|unfold SD|unfold Extern.PrintPieces.held|unfold Instr.extract|unfold Op.intArith|unfold Op.intBits|unfold Op.intCmp|unfold Op.floatArith|unfold Op.floatCmp|unfold TC|unfold Op.stringOp|unfold TX|unfold Tw|unfold Ue
  exact aA
attribute [instance] L2.l2_0 L2.l2_1 L2.l2_2 L2.l2_3 L2.l2_4 L2.l2_5 L2.l2_6 L2.l2_7 L2.l2_8 L2.l2_9 L2.l2_10 L2.l2_11 L2.l2_12 L2.l2_13 L2.l2_14 L2.l2_15 L2.l2_16 L2.l2_17 L2.l2_18 L2.l2_19 L2.l2_20 L2.l2_21 L2.l2_22 L2.l2_23 L2.l2_24 L2.l2_25 L2.l2_26 L2.l2_27 L2.l2_28 L2.l2_29 L2.l2_30 L2.l2_31 L2.l2_32 L2.l2_33 L2.l2_34 L2.l2_35 L2.l2_36 L2.l2_37 L2.l2_38 L2.l2_39 L2.l2_40 L2.l2_41 L2.l2_42
instance(a b):Al Q J g true n true d (Go.Instr.range a b):=by
 refine aB zq2 λd=> ?_
 split <;>first |exact⟨⟨λ_=>trivial,nofun⟩,λ_=>trivial⟩|(refine⟨λo _=> ?_,.inl ⟨rfl,_,rfl,trivial⟩⟩;cases o<;>first |exact⟨trivial,λ_=>.inr (.inr trivial)⟩|exact⟨⟨λ_=>trivial,nofun⟩,λ_=>trivial⟩)|exact⟨trivial,λ_=>.inr (.inr trivial)⟩
theorem Lo{a}(l){f:Loop->Sem a}(h:∀r,(g=true->Lv r)->Al Q J g true n z d (f r)):Al Q J g true n z d (Tl l>>=f):=by
 refine⟨λo b=> ?_,.inl ⟨rfl,_,rfl,trivial⟩⟩;cases o with
 |loop r=>exact(h r λe=>(b e).loop).al
 |_=>exact⟨trivial,λ_=>.inr (.inr trivial)⟩
instance(l):Al Q J g true n z d (Tl l):=by
 refine⟨λo a=> ?_,.inl ⟨rfl,_,rfl,trivial⟩⟩;cases o<;>first |trivial|exact⟨trivial,λ_=>.inr (.inr trivial)⟩
theorem qb(f t c a b r)(i:g=true->cT a=true)(j:g=true->cT b=true):Al Q J g true n true d (SF f t c a b r):=by
 have h:∀d,xj g true (T8 {state:= .ready,pending:=none,fn:=f,tmps:=t,params:=c,assign:=a,body:=b,defers:=d}):=λd=>⟨λe=>⟨i e,j e,nofun⟩,nofun⟩
 cases r with
 |none=>exact aB (s:=newObj (SY (some []))) zq2 λx=>aB (s:=newObj (T8 _)) zq2 λy=>eR
 |some l=>exact Lo l λx _=>aB (s:=newObj (T8 _)) zq2 λy=>eR
theorem rz(l j)(b:g=true->∀c,j=some c->cT c=true):Al Q J g true n true d (Sz l j):=by
 refine Lo l λr a=> ?_
 have h:xj g true (T8 {r with state:=if j.isNone then .ready else .done,pending:=j}):=⟨λe=>⟨(a e).1,(a e).2.1,b e⟩,nofun⟩;exact zq2
theorem lK(l b)(h:g=true->oK b):Al Q J g true n true d (SH l b):=by
 refine aB zq2 λr=> ?_
 refine⟨λo f=> ?_,.inl ⟨rfl,_,rfl,trivial⟩⟩;cases o with
 |deferred a=>
  cases a with
  |none=>exact⟨trivial,nofun⟩
  |some a=>exact⟨⟨rfl,λe x i=>(List.mem_cons.1 i).elim (λc=>c▸h e) ((f e).ds x)⟩,trivial⟩
 |_=>exact⟨trivial,nofun⟩
class L3(Q:AS)(J:Nat->Func->Func)(g:Bool):Prop where
 l3_0:∀a b c d e,Al Q J g a b c d (behindNumber e)
 l3_1:∀a b c d e,Al Q J g a b c d (noView e)
 l3_2:∀a b c d e f,Al Q J g a b c d (mayBeOne e f)
 l3_3:∀a b c d e,Al Q J g a b c d (typeStr e)
 l3_4:∀a b c d e,Al Q J g a b c d (zeroValue e)
 l3_5:∀a b c d e,Al Q J g a b c d (sizeOf e)
 l3_6:∀a b c d e,Al Q J g a b c d (isAgg e)
 l3_7:∀a b c d e f,Al Q J g a b c d (loadCells e f)
 l3_8:∀a b c d e f,Al Q J g a b c d (newVar e f)
 l3_9:∀a b c d e,Al Q J g a b c d (elemOf e)
 l3_10:∀a b c d e,Al Q J g a b c d (asInt e)
 l3_11:∀a b c d e f,Al Q J g a b c d (Tn e f)
 l3_12:∀a b c d e,Al Q J g true a b c (TE d e)
 l3_13:∀a b c d e f,Al Q J g a b c d (Builtin.printOne e f)
 l3_14:∀a b(c d:Array TypeId)(e:Array Value),Al Q J g a b true false (Extern.PrintPieces.piece c d e)
 l3_15:∀a b c d e f h i,Al Q J g a b c d (Op.Complex.arith e f h i)
 l3_16:∀a b c d e f h i,Al Q J g a b c d (Op.Complex.cmp e f h i)
 l3_17:∀a b c d e f h,Al Q J g a b c d (Op.Complex.conv e f h)
 l3_18:∀a b c d e f,Al Q J g a b c d (Op.unary e f)
 l3_19:∀a b c d e f h i,Al Q J g a b c d (Conv.complexToComplex e f h i)
 l3_20:∀a b c d e,Al Q J g a b true c (Conv.stringToBytes d e)
 l3_21:∀a b c d e f,Al Q J g a b c d (Conv.stringToRunes e f)
 l3_22:∀a b c d e,Al Q J g a b c d (Conv.seenAt e)
 l3_23:∀a b c d e f h i j,Al Q J g a b c d (TK e f h i j)
 l3_24:∀a b c d e f,Al Q J g true a b c (Builtin.cap_ d e f)
 l3_25:∀a b c d e f,Al Q J g true a b c (Ux d e f)
 l3_26:∀a b c d e f,Al Q J g a b c d (Builtin.max2 e f)
 l3_27:∀a b c d e f,Al Q J g a b c d (Uw e f)
 l3_28:∀a b c d e f h,Al Q J g a b c d (resolve e f h)
instance:L3 Q J g:=by
 constructor;all_goals
  intros
  first |unfold behindNumber|unfold noView|unfold mayBeOne|unfold typeStr|unfold zeroValue|unfold sizeOf|unfold isAgg|unfold loadCells|unfold newVar|unfold elemOf|unfold asInt|unfold Tn|unfold TE|unfold Builtin.printOne|unfold Extern.PrintPieces.piece|unfold Op.Complex.arith|unfold Op.Complex.cmp|unfold Op.Complex.conv|unfold Op.unary|unfold Conv.complexToComplex|unfold Conv.stringToBytes|unfold Conv.stringToRunes|unfold Conv.seenAt|unfold TK|unfold Builtin.cap_|unfold Ux|unfold Builtin.max2|unfold Uw|unfold resolve
  exact aA
attribute [instance] L3.l3_0 L3.l3_1 L3.l3_2 L3.l3_3 L3.l3_4 L3.l3_5 L3.l3_6 L3.l3_7 L3.l3_8 L3.l3_9 L3.l3_10 L3.l3_11 L3.l3_12 L3.l3_13 L3.l3_14 L3.l3_15 L3.l3_16 L3.l3_17 L3.l3_18 L3.l3_19 L3.l3_20 L3.l3_21 L3.l3_22 L3.l3_23 L3.l3_24 L3.l3_25 L3.l3_26 L3.l3_27 L3.l3_28
class L4(Q:AS)(J:Nat->Func->Func)(g:Bool):Prop where
 l4_0:∀a b c d e f h,Al Q J g a b c d (Tv e f h)
 l4_1:∀a b c d e f,Al Q J g a b true c (Builtin.unsafeSliceData_ d e f)
 l4_2:∀a b c d e f,Al Q J g a b true c (Builtin.unsafeStringData_ d e f)
 l4_3:∀a b c d e f,Al Q J g a b c d (sameAddr e f)
 l4_4:∀a b c d e f,Al Q J g a b c d (loadVar e f)
 l4_5:∀a b c d e f h,Al Q J g a b c d (storeVar e f h)
 l4_6:∀a b c d e f h,Al Q J g a b c d (part e f h)
 l4_7:∀α a b c d e,Al Q J g a b c d (T6 (α:=α) e)
 l4_8:∀a b c d e,Al Q J g a b c d (byteOf e)
 l4_9:∀a b c d e f,Al Q J g a b c d (Instr.box e f)
 l4_10:∀a b c d e f,Al Q J g a b c d (Instr.build e f)
 l4_11:∀a b c d e f h,Al Q J g a b c d (TI e f h)
 l4_12:∀a b c d e,Al Q J g a b true c (Instr.makeMap d e)
 l4_13:∀a b c d e f,Al Q J g true a true b (Instr.entryStore c d e f)
 l4_14:∀a b c d e f h,Al Q J g a b true c (Builtin.pieces d e f h)
 l4_15:∀a b c d e f,Al Q J g a b c d (Op.Complex.add e f)
 l4_16:∀a b c d e f,Al Q J g a b c d (Op.Complex.sub e f)
 l4_17:∀a b c d e f,Al Q J g a b c d (Op.Complex.mul e f)
 l4_18:∀a b c d e f,Al Q J g a b c d (Op.Complex.quo e f)
 l4_19:∀a b c d e,Al Q J g a b c d (Conv.bytesToString e)
 l4_20:∀a b c d e,Al Q J g a b c d (Conv.runesToString e)
 l4_21:∀a b c d e f,Al Q J g a b true c (Conv.unsafePointer d e f)
 l4_22:∀a b c d e f h,Al Q J g a b c d (Tx e f h)
 l4_23:∀a b c d e,Al Q J g true a true b (Builtin.clear_ c d e)
 l4_24:∀a b c d e f h,Al Q J g a b c d (Builtin.max_ e f h)
 l4_25:∀a b c d e f h,Al Q J g a b c d (Uv e f h)
instance:L4 Q J g:=by
 constructor;case l4_0=>
  intro _ _ _ _ f h e;unfold Tv;have⟨l⟩:=e;rcases l with _|⟨a,_|⟨b,_|⟨c,l⟩⟩⟩
  all_goals first
   |exact⟨trivial,λ_=>.inr (.inr trivial)⟩
   |(cases a<;>first
    |exact⟨trivial,λ_=>.inr (.inr trivial)⟩
    |(cases b<;>first
     |exact⟨trivial,λ_=>.inr (.inr trivial)⟩
     |(rename_i o;cases o<;>(
    exact aU))
     |(
    exact aU)))
 case l4_1=>
  intro _ _ _ f h e;unfold Builtin.unsafeSliceData_;have⟨l⟩:=e;rcases l with _|⟨a,_|⟨b,l⟩⟩
  all_goals first
   |exact⟨trivial,λ_=>.inr (.inr trivial)⟩
   |(cases a<;>first
    |exact⟨trivial,λ_=>.inr (.inr trivial)⟩
    |exact eR
    |(rename_i o _ _;cases o<;>first
     |exact⟨trivial,λ_=>.inr (.inr trivial)⟩
     |exact eR
     |(
    exact aU))
    |(
    exact aU))
 case l4_2=>
  intro _ _ _ f h e;unfold Builtin.unsafeStringData_;have⟨l⟩:=e;rcases l with _|⟨a,_|⟨b,l⟩⟩
  all_goals first
   |exact⟨trivial,λ_=>.inr (.inr trivial)⟩
   |(cases a<;>first
    |exact⟨trivial,λ_=>.inr (.inr trivial)⟩
    |exact eR
    |(rename_i o;cases o<;>first
     |exact⟨trivial,λ_=>.inr (.inr trivial)⟩
     |exact eR
     |(
    exact aU))
    |(
    exact aU))
 all_goals
  intros
  first |unfold sameAddr|unfold loadVar|unfold storeVar|unfold part|unfold T6|unfold byteOf|unfold Instr.box|unfold Instr.build|unfold TI|unfold Instr.makeMap|unfold Instr.entryStore|unfold Builtin.pieces|unfold Op.Complex.add|unfold Op.Complex.sub|unfold Op.Complex.mul|unfold Op.Complex.quo|unfold Conv.bytesToString|unfold Conv.runesToString|unfold Conv.unsafePointer|unfold Tx|unfold Builtin.clear_|unfold Builtin.max_|unfold Uv
  exact aA
attribute [instance] L4.l4_0 L4.l4_1 L4.l4_2 L4.l4_3 L4.l4_4 L4.l4_5 L4.l4_6 L4.l4_7 L4.l4_8 L4.l4_9 L4.l4_10 L4.l4_11 L4.l4_12 L4.l4_13 L4.l4_14 L4.l4_15 L4.l4_16 L4.l4_17 L4.l4_18 L4.l4_19 L4.l4_20 L4.l4_21 L4.l4_22 L4.l4_23 L4.l4_24 L4.l4_25
instance(e f c):Al Q J g true n true d (U3 e f c):=by
 unfold U3;have⟨l⟩:=c;rcases l with _|⟨a,_|⟨b,l⟩⟩
 all_goals first
  |exact⟨trivial,λ_=>.inr (.inr trivial)⟩
  |(cases a<;>first
   |exact⟨trivial,λ_=>.inr (.inr trivial)⟩
   |(rename_i o;cases o<;>first
    |exact(zq2:Al Q J g true n true d (T6 _))
    |(refine aG (λo=> ?_) (.inl ⟨rfl,_,rfl,trivial⟩);cases o<;>(repeat' (first
     |exact zq2)))))
instance Oa(l):Al Q J g true n true d (SQ l):=by
 refine Lo l λr a=> ?_
 have h:xj g true (T8 {r with state:= .busy}):=⟨a,nofun⟩;repeat' (first
  |exact zq2
  |split)
instance Pc(l):Al Q J g true n true d (SO l):=by
 refine Lo l λr a=> ?_
 have h:xj g true (T8 {r with state:= .exhausted}):=⟨a,nofun⟩;repeat' (first
  |exact zq2)
class L5(Q:AS)(J:Nat->Func->Func)(g:Bool):Prop where
 l5_0:∀a b c e d t x y,Al Q J g a b c e (Op.eqGuardIn d t x y)
 l5_1:∀a b c d e n t v,Al Q J g a b c d (Instr.checkKey e n t v)
 l5_2:∀a b c d p t x,Al Q J g a b c d (followBlind p t x)
 l5_3:∀a b c d e f h,Al Q J g a b c d (Builtin.ssaWrapNilChk_ e f h)
 l5_4:∀a b c d e f,Al Q J g a b true c (Builtin.unsafeSlice_ d e f)
 l5_5:∀a b c d e f,Al Q J g a b true c (Builtin.unsafeString_ d e f)
 l5_6:∀a b c d e f,Al Q J g a b c d (samePointer e f)
 l5_7:∀α a b c d e f h i,Al Q J g a b c d (boundsPanic (α:=α) e f h i)
 l5_8:∀a b c d e,Al Q J g a b c d (asAddr e)
 l5_9:∀a b c d e f h,Al Q J g a b c d (Instr.alloc e f h)
 l5_10:∀a b c d e f h,Al Q J g a b c d (partAt e f h)
 l5_11:∀a b c d e f,Al Q J g a b c d (Instr.loadAt e f)
 l5_12:∀a b c d e f h,Al Q J g a b c d (Instr.storeAt e f h)
 l5_13:∀a b c d e f,Al Q J g a b c d (Instr.arrayAt e f)
 l5_14:∀a b c d e,Al Q J g a b true c (Instr.makeChan d e)
 l5_15:∀a b c d e f,Al Q J g a true b c (Instr.makeSlice d e f)
 l5_16:∀a b c d e f h,Al Q J g a b c d (Instr.field e f h)
 l5_17:∀a b c d e f,Al Q J g a b c d (Place.get e f)
 l5_18:∀a b c d e f,Al Q J g a b true false (SS c d e f)
 l5_19:∀a b c d e f h i,Al Q J g a b c d (TG e f h i)
 l5_20:∀a b c d e,Al Q J g a b c d (Instr.panic e)
 l5_21:∀a b c d e f h i,Al Q J g a b c d (Op.intDiv e f h i)
 l5_22:∀a b c d e f h i j,Al Q J g a b c d (Op.shift e f h i j)
 l5_23:∀a b c d e f h i,Al Q J g a b c d (Op.Complex.product e f h i)
 l5_24:∀a b c d e f h i j,Al Q J g a b c d (Op.Complex.corrected e f h i j)
 l5_25:∀a b c d e f,Al Q J g a b c d (Op.twoPlaces e f)
 l5_26:∀a b c d e f h,Al Q J g a b c d (Op.addrMod e f h)
 l5_27:∀a b c d e f,Al Q J g a true b c (TY d e f)
 l5_28:∀a b c d e f h,Al Q J g a b c d (Uf e f h)
 l5_29:∀a b c d e f h,Al Q J g a b c d (movedNumber e f h)
 l5_30:∀a b c d e f h,Al Q J g a b c d (movedPointer e f h)
 l5_31:∀a b c d e f,Al Q J g a b true c (convert d e f)
instance:L5 Q J g:=by
 constructor;case l5_0=>
  intro _ _ _ _ d t x y;induction d generalizing t x y
  all_goals
   unfold Op.eqGuardIn;exact aA
 case l5_1=>
  intro _ _ _ _ e n t v;induction n generalizing t v
  all_goals
   unfold Instr.checkKey;exact aA
 case l5_2=>
  intro _ _ _ _ p t x;induction p generalizing t x
  all_goals
   unfold followBlind;exact aA
 case l5_3=>
  intro _ _ _ _ h i f;unfold Builtin.ssaWrapNilChk_;have⟨l⟩:=f;rcases l with _|⟨a,_|⟨b,_|⟨c,_|⟨d,l⟩⟩⟩⟩
  all_goals first
   |exact⟨trivial,λ_=>.inr (.inr trivial)⟩
   |(cases b<;>first
    |exact⟨trivial,λ_=>.inr (.inr trivial)⟩
    |(cases c<;>first
     |exact⟨trivial,λ_=>.inr (.inr trivial)⟩
     |(cases a<;>first
      |exact⟨trivial,λ_=>.inr (.inr trivial)⟩
      |(rename_i o;cases o<;>(
    exact aU)))))
 case l5_4=>
  intro _ _ _ h i f;unfold Builtin.unsafeSlice_;have⟨l⟩:=f;rcases l with _|⟨a,_|⟨b,_|⟨c,l⟩⟩⟩
  all_goals first
   |exact⟨trivial,λ_=>.inr (.inr trivial)⟩
   |(cases a<;>first
    |exact⟨trivial,λ_=>.inr (.inr trivial)⟩
    |(cases b<;>first
     |exact⟨trivial,λ_=>.inr (.inr trivial)⟩
     |(rename_i o;cases o<;>(
    exact aU))
     |(
    exact aU)))
 case l5_5=>
  intro _ _ _ h i f;unfold Builtin.unsafeString_;have⟨l⟩:=f;rcases l with _|⟨a,_|⟨b,_|⟨c,l⟩⟩⟩
  all_goals first
   |exact⟨trivial,λ_=>.inr (.inr trivial)⟩
   |(cases a<;>first
    |exact⟨trivial,λ_=>.inr (.inr trivial)⟩
    |(cases b<;>first
     |exact⟨trivial,λ_=>.inr (.inr trivial)⟩
     |(rename_i o;cases o<;>(
    exact aU))
     |(
    exact aU)))
 all_goals
  intros
  first |unfold samePointer|unfold boundsPanic|unfold asAddr|unfold Instr.alloc|unfold partAt|unfold Instr.loadAt|unfold Instr.storeAt|unfold Instr.arrayAt|unfold Instr.makeChan|unfold Instr.makeSlice|unfold Instr.field|unfold Place.get|unfold SS|unfold TG|unfold Instr.panic|unfold Op.intDiv|unfold Op.shift|unfold Op.Complex.product|unfold Op.Complex.corrected|unfold Op.twoPlaces|unfold Op.addrMod|unfold TY|unfold Uf|unfold movedNumber|unfold movedPointer|unfold convert
  exact aA
attribute [instance] L5.l5_0 L5.l5_1 L5.l5_2 L5.l5_3 L5.l5_4 L5.l5_5 L5.l5_6 L5.l5_7 L5.l5_8 L5.l5_9 L5.l5_10 L5.l5_11 L5.l5_12 L5.l5_13 L5.l5_14 L5.l5_15 L5.l5_16 L5.l5_17 L5.l5_18 L5.l5_19 L5.l5_20 L5.l5_21 L5.l5_22 L5.l5_23 L5.l5_24 L5.l5_25 L5.l5_26 L5.l5_27 L5.l5_28 L5.l5_29 L5.l5_30 L5.l5_31
class L6(Q:AS)(J:Nat->Func->Func)(g:Bool):Prop where
 l6_0:∀a b c e d t x y,Al Q J g a b c e (Op.equalIn d t x y)
 l6_1:∀a b c d n t v s,Al Q J g a b c d (nilAhead n t v s)
 l6_2:∀a b c d e f h,Al Q J g a b c d (TH e f h)
 l6_3:∀a b c d e f,Al Q J g a b c d (fieldPlace e f)
 l6_4:∀a b c d e f h,Al Q J g a b c d (Instr.indexAt e f h)
 l6_5:∀a b c d e f h,Al Q J g a b c d (Instr.index e f h)
 l6_6:∀a b c d e f h i,Al Q J g a b c d (receiverAt e f h i)
 l6_7:∀a b c d e f h i,Al Q J g a b c d (Op.Complex.quotient e f h i)
 l6_8:∀a b c d e f h,Al Q J g a b c d (Op.addrSub e f h)
 l6_9:∀a b c d e f h,Al Q J g a b c d (Op.addrCmp e f h)
 l6_10:∀a b c d e f h i j k,Al Q J g a b c d (eqGuard e f h i j k)
instance:L6 Q J g:=by
 constructor;case l6_0=>
  intro _ _ _ _ d t x y;induction d generalizing t x y
  all_goals
   unfold Op.equalIn;exact aA
 case l6_1=>
  intro _ _ _ _ n t v s;induction n generalizing t v
  all_goals
   unfold nilAhead;exact aA
 all_goals
  intros
  first |unfold TH|unfold fieldPlace|unfold Instr.indexAt|unfold Instr.index|unfold receiverAt|unfold Op.Complex.quotient|unfold Op.addrSub|unfold Op.addrCmp|unfold eqGuard
  exact aA
attribute [instance] L6.l6_0 L6.l6_1 L6.l6_2 L6.l6_3 L6.l6_4 L6.l6_5 L6.l6_6 L6.l6_7 L6.l6_8 L6.l6_9 L6.l6_10
class L7(Q:AS)(J:Nat->Func->Func)(g:Bool):Prop where
 l7_0:∀a b c d p t x,Al Q J g a b c d (follow p t x)
 l7_1:∀a b c d e f h i j k,Al Q J g a b c d (Tz e f h i j k)
 l7_2:∀a b c d e f h,Al Q J g a b c d (Instr.fieldAt e f h)
 l7_3:∀a b c d e f h,Al Q J g a b c d (Op.equal e f h)
 l7_4:∀a b c d e f h i j k,Al Q J g a b c d (Op.complexOp e f h i j k)
instance:L7 Q J g:=by
 constructor;case l7_0=>
  intro _ _ _ _ p t x;induction p generalizing t x
  all_goals
   unfold follow;exact aA
 all_goals
  intros
  first |unfold Tz|unfold Instr.fieldAt|unfold Op.equal|unfold Op.complexOp
  exact aA
attribute [instance] L7.l7_0 L7.l7_1 L7.l7_2 L7.l7_3 L7.l7_4
class L8(Q:AS)(J:Nat->Func->Func)(g:Bool):Prop where
 l8_0:∀a b c d t k es i,Al Q J g a b c d (Instr.findAsking t k es i)
 l8_1:∀a b c d n t v s,Al Q J g a b c d (method n t v s)
 l8_2:∀a b c d e f h i j,Al Q J g a b c d (Instr.slice e f h i j)
 l8_3:∀a b c d e f h i,Al Q J g a b c d (receiverVia e f h i)
 l8_4:∀a b c d e f h i,Al Q J g a b c d (binOp e f h i)
instance:L8 Q J g:=by
 constructor;case l8_0=>
  intro _ _ _ _ t k a i;induction a generalizing i
  all_goals
   unfold Instr.findAsking;exact aA
 case l8_1=>
  intro _ _ _ _ n t v s;induction n generalizing t v
  all_goals
   unfold method;exact aA
 all_goals
  intros
  first |unfold Instr.slice|unfold receiverVia|unfold binOp
  exact aA
attribute [instance] L8.l8_0 L8.l8_1 L8.l8_2 L8.l8_3 L8.l8_4
class L9(Q:AS)(J:Nat->Func->Func)(g:Bool):Prop where
 l9_0:∀a b c d e f h i j,Al Q J g a b c d (Instr.sliceAt e f h i j)
 l9_1:∀a b c d e f h,Al Q J g a b c d (Instr.findKey e f h)
instance:L9 Q J g:=by
 constructor;all_goals
  intros
  exact aA
attribute [instance] L9.l9_0 L9.l9_1
class IP(Q:AS)(J:Nat->Func->Func)(g:Bool):Prop where
 l10_0:∀a b c d e f h,Al Q J g true a b c (Instr.lookup d e f h)
 l10_1:∀a b c d e f,Al Q J g true a true b (TU c d e f)
 l10_2:∀a b c d e,Al Q J g true a true b (Instr.mapEntry c d e)
 l10_3:∀a b c d e,Al Q J g true a true b (Builtin.delete_ c d e)
instance:IP Q J g:=by
 constructor;all_goals
  intros
  first |unfold Instr.lookup|unfold TU|unfold Instr.mapEntry|unfold Builtin.delete_
  exact aA
attribute [instance] IP.l10_0 IP.l10_1 IP.l10_2 IP.l10_3
class Pf(Q:AS)(J:Nat->Func->Func)(g:Bool):Prop where
 l11_0:∀a b c d e,Al Q J g true true true false (builtin a b c d e)
instance:Pf Q J g:=by
 constructor;all_goals
  intros
  first |unfold builtin
  exact aA
attribute [instance] Pf.l11_0
theorem cP(P){mk}(f t c a b r)(i:cT a=true)(e:cT b=true):bU P true mk (SF f t c a b r):=st_al (h:=qb f t c a b r (λ_=>i) λ_=>e)
theorem dR(P){mk}(l):bU P true mk (SQ l):=zq2
theorem jx(P){a}(l j)(b:∀c,j=some c->cT c=true):bU P true a (Sz l j):=st_al (h:=rz l j λ_=>b)
theorem nW(P){a}(l):bU P true a (SO l):=zq2
theorem kl(P){a}(l d)(b:oK d):bU P true a (SH l d):=st_al (h:=lK l d λ_=>b)
theorem ql(P){b}(a):bU P true b (SD a):=zq2
instance lj(P){dy mk}(c b a):bU P dy mk (Extern.PrintPieces.piece c b a):=by
 repeat' (first
  |exact zq2)
end
end
section
variable{Q:AS}
instance(priority:=low) sm_al{b a}{s:Sem b}[h: @Al fo _ Q a false true true true false s]:Sm Q a s:=⟨(@mr fo _ _ _ _ _ _ _ _ h.al).1⟩
instance(priority:=low) hu_al{a}{s:Sem a}[h: @Al fo _ Q (λ_ f=>f) false true true true true s]:Hu Q s:=⟨(@mr fo _ _ _ _ _ _ _ _ h.al).2.1 rfl⟩
instance(priority:=low) nf_al{a}{s:Sem a}[h: @Al fo _ Q (λ_ f=>f) false true true false true s]:Nf Q s:=⟨(@mr fo _ _ _ _ _ _ _ _ h.al).2.2 rfl⟩
instance{d}(f t c a b r):Sm Q d (SF f t c a b r):=sm_al (h:= @qb fo _ _ _ _ _ f t c a b r nofun nofun)
instance{a}(l j):Sm Q a (Sz l j):=sm_al (h:= @rz fo _ _ _ _ _ l j nofun)
instance{a}(l d):Sm Q a (SH l d):=sm_al (h:= @lK fo _ _ _ _ _ l d nofun)
instance(f t c a b r):Hu Q (SF f t c a b r):=hu_al (h:= @qb fo _ _ _ _ _ f t c a b r nofun nofun)
instance(l j):Hu Q (Sz l j):=hu_al (h:= @rz fo _ _ _ _ _ l j nofun)
instance(l d):Hu Q (SH l d):=hu_al (h:= @lK fo _ _ _ _ _ l d nofun)
theorem rZ(Q a l):Sm Q a (SQ l):=zq2
theorem Jg(Q d c b a):Sm Q d (Extern.PrintPieces.piece c b a):=zq2
def Bn{a P n}{f:Bool->Sem a}(c:∀b,ia P n (f b)):ia P n (Extern.PrintPieces.held>>=f):=by
 intro v;cases v<;>first |exact c _|exact .inr trivial
instance K9(P:AS)(f g:Array TypeId)(e:Array Value):Hu P (Extern.PrintPieces.piece f g e):=by
 unfold Extern.PrintPieces.piece;split;split;dsimp only;refine js ⟨.inl rfl⟩ ?_;have d:∀(a b:Bool)(p:ByteArray)(r:Next),Hu P (writeFd 2 p>>=λ_=>if a=true then pure r else if b=true then mark SP>>=λ_=>program>>=λq=>store (printLock q) (.bool false) SV>>=λ_=>mark SW>>=λ_=>pure (.value (.tuple #[]))else pure (.value (.tuple #[]))):=λa b p r=>by
  refine d9 zq2 λ_=>js zq2 (js ⟨?_⟩ zq2)
  show 0<1/\0=0;simp
 have c:∀(b:Bool)(p:ByteArray),Hu P (writeFd 2 p>>=λ_=>if b=true then mark SP>>=λ_=>program>>=λq=>store (printLock q) (.bool false) SV>>=λ_=>mark SW>>=λ_=>pure (Next.value (.tuple #[]))else pure (.value (.tuple #[]))):=λb p=>by
  refine d9 zq2 λ_=>js ⟨?_⟩ zq2
  show 0<1/\0=0;simp
 refine js ⟨?_⟩ (d ..);refine Bn (n:=1) λb=> ?_
 split <;>first |exact .inr trivial|split <;>first |exact⟨Nat.one_pos,(show Hu P (writeFd 2 _>>=λ_=>pure (Next.row ..))from d9 zq2 λ_=>zq2).hu⟩|exact⟨Nat.one_pos,(c ..).hu⟩
 repeat' (first
 |exact zq2)
 repeat' (first
  |exact zq2)
instance(P c b a d):Hu P (SS c b a d):=by
 repeat' (first
  |exact zq2
  |(refine d9 ?_ λ_=> ?_))
instance(P c b e d a):Hu P (builtin c b e d a):=by
 unfold builtin;repeat' (first
  |exact zq2
  |split)
end
end
section
variable[aD]
def Gp{i P d g}{s:Sem i}(h:cw P d false s):cw P d g s:=by
 induction s with
 |pure a=>trivial
 |halt x=>exact h
 |load m a k b=>exactλv=>b v (h v)
 |store m a v k b=>exact b h
 |new o k b=>exact⟨h.1,λv=>b v (h.2 v)⟩
 |shape r k b=>exactλv=>b v (h v)
 |freeze a n k b=>exact b h
 |frozen a k b=>exactλv=>b v (h v)
 |getObj r k b=>exact⟨λv f=>b v (h.1 v f),h.2⟩
 |setObj r o k b=>exact⟨h.1,b h.2⟩
 |choose q k b=>exactλv=>b v (h v)
 |sys c k b=>exact⟨h.1,λv=>b v (h.2 v)⟩
 |program k b=>exact b P h
 |mark m k b=>exact⟨λe=>absurd (h.1 e) (by decide),b h.2⟩
theorem KZ{b P a c}{s:Sem b}(h:bU P a false s):bU P a c s:=⟨Gp h.st⟩
def Sep(P:AS){a:Type}(s:Sem a):Prop:=cw P true false s\/cw P false true s
structure dY(P:AS):Prop where
 wait:∀g,aD.lim<=g->P.stepOf g=none
 data:P.follows .staticDataAhead=true
 num:∀(f:Nat)(fn:Func),P.funcs[f]?=some fn->(fn.name== "runtime.NumGoroutine")=false
 next:∀(f:Nat)(fn:Func),P.funcs[f]?=some fn->fn.body.isNone=true->TW fn=none
 ext:∀(f:Nat)(fn:Func),P.funcs[f]?=some fn->fn.body.isNone=true->∀e,T9 fn=some e->∀args,bU P true false (e args)
structure bz(P:AS):Prop extends dY P where
 nogo:∀(f:Nat)(fn:Func)(c:Code),P.funcs[f]?=some fn->fn.body=some c->cT c=true
instance{P:AS}:Coe (bz P) (dY P):=⟨bz.todY⟩
def oy{P}(T:dY P){g}(b:aD.lim<=g)(a cs c w):early P a cs c g w=Tb (.unsupported (Ti g) (a.pos P)) w:=by
 simp[early,T.data,T.wait g b]
def printRow:String:= "runtime.print$piece"
def uC:Next->Prop
 | .value _=>True
 | .skip=>True
 | .enter _ _=>True
 | .round _ _ _ a b=>cT a=true/\cT b=true
 | .recover=>True
 | .comm _ _ _=>aD.cm
 | .defer d=>oK d
 | .row r _=>r=printRow
 |_=>False
def Leaf{c:Type}(P:AS)(Q:c->Prop):Sem c->Prop
 | .pure a=>Q a
 |T0 _=>True
 | .load _ _ k=>∀v,Leaf P Q (k v)
 |Tr _ _ _ k=>Leaf P Q k
 | .new _ k=>∀v,Leaf P Q (k v)
 |Ts _ k=>∀v,Leaf P Q (k v)
 |Tg _ _ k=>Leaf P Q k
 |Tf _ k=>∀v,Leaf P Q (k v)
 |Te _ k=>∀v,pF v->Leaf P Q (k v)
 |Td _ _ k=>Leaf P Q k
 |Th _ k=>∀v,Leaf P Q (k v)
 | .sys _ k=>∀v,Leaf P Q (k v)
 |T5 k=>Leaf P Q (k P)
 |Tj _ k=>Leaf P Q k
def eW{i d P}{Q:i->Prop}{R:d->Prop}{s f}(hs:Leaf P Q s)(g:∀a,Q a->Leaf P R (f a)):Leaf P R (s>>=f):=by
 induction s with
 |pure a=>exact g a hs
 |halt h=>trivial
 |load m a k b=>exactλv=>b v (hs v)
 |store m a v k b=>exact b hs
 |new o k b=>exactλv=>b v (hs v)
 |shape r k b=>exactλv=>b v (hs v)
 |freeze a n k b=>exact b hs
 |frozen a k b=>exactλv=>b v (hs v)
 |getObj r k b=>exactλv e=>b v (hs v e)
 |setObj r o k b=>exact b hs
 |choose q k b=>exactλv=>b v (hs v)
 |sys c k b=>exactλv=>b v (hs v)
 |program k b=>exact b P hs
 |mark m k b=>exact b hs
def JZ{a P}{s:Sem a}:Leaf P (λ_=>True) s:=by
 induction s<;>first |(intro v;grind)|apply_assumption
def bX{d b P}{R:b->Prop}{s:Sem d}{f}(c:∀a,Leaf P R (f a)):Leaf P R (s>>=f):=eW JZ λa _=>c a
section
variable{P:AS}{R:Next->Prop}
def mV{a Q}(e):Leaf P Q (T6 e:Sem a):=by
 refine bX λp=> ?_
 cases e<;>first |trivial|(refine bX λ_=> ?_;first |(refine bX λ_=> ?_;trivial))
def mO(T:bz P)(f args):Leaf P uC (callFunc f args):=by
 cases b:P.funcs[f]? with
 |none=>show Leaf P uC (match P.funcs[f]? with |none=>_|some a=>_);rw[b];trivial
 |some a=>
  show Leaf P uC (match P.funcs[f]? with |none=>_|some a=>_);simp only[b,T.num f a b];cases c:a.body.isNone with
  |false=>trivial
  |true=>
   refine bX λ_=> ?_
   rw[T.next f a b c];cases d:T9 a with
   |some e=>exact bX λ_=>trivial
   |none=>
    dsimp only;split <;>trivial
def pt(T:bz P)(recv name args):Leaf P uC (callMethod recv name args):=by
 cases recv<;>first |(exact bX λ_=>bX λ_=>mO T ..)|trivial
def wj(a b args):Leaf P uC (Extern.PrintPieces.piece a b args):=by
 unfold Extern.PrintPieces.piece;repeat' (first
  |trivial
  |(refine bX λ_=> ?_)
  |split)
def BR(b a t cs args):Leaf P uC (builtin b a t cs args):=by
 cases b<;>first
  |exact bX λ_=>trivial
  |trivial
  |(refine bX λ_=> ?_;split <;>first |trivial|exact wj ..)
def sR(l):Leaf P Lv (Tl l):=by
 refineλo a=> ?_
 cases o<;>first |exact a.loop|trivial
def Eg(l args):Leaf P uC (TE l args):=by
 refine eW (sR l) λr a=> ?_
 split;trivial;exact⟨a.1,a.2.1⟩
def pY(T:bz P){t}(a:Pe t)(args):Leaf P uC (invoke t args):=by
 unfold invoke;cases t with
 |nil=>exact mV _
 |builtin b d t e=>exact BR ..
 |collected r=>trivial
 |coroexit c=>exact a.elim
 |fn f c=>
  cases f with
  |func f=>exact mO T ..
  |method n=>
   dsimp only;split <;>first |exact pt T .. |trivial
  |methodOf t n=>
   dsimp only;split <;>first |(refine bX λ_=> ?_;repeat' (first |exact pt T ..))|trivial
  |via t p f q=>
   dsimp only;split <;>first |exact bX λ_=>mO T .. |trivial
  |yield l=>exact Eg _ _
def iY(a c t):Leaf P oK (resolve a c t):=by
 unfold resolve;cases c.callee with
 |builtin b=>trivial
 |invoke r n=>trivial
 |value f=>
  dsimp only;cases a f<;>trivial
def De(T:bz P)(h o)(e:Lf o.op=true):Leaf P uC (Tu h o):=by
 unfold Tu;cases f:o.op;case call c=>exact eW (iY ..) λd g=>pY T g _
 case go c=>rw[f]at e;exact absurd ((aD.nogo c).symm.trans e) (by decide)
 case send a b=>rw[f]at e;exact aD.send _ _ e
 case recv a b c=>rw[f]at e;refine bX λd=> ?_;split <;>first |exact bX λ_=>aD.recv _ _ _ e|trivial
 case select a b=>rw[f]at e;exact bX λ_=>aD.select _ _ e
 case defer c=>exact eW (iY ..) λd g=>g
 case nilCheck x=>
  repeat' (first
   |trivial
   |(refine bX λ_=> ?_)
   |split)
 all_goals first
  |exact bX λ_=>trivial
  |trivial
end
end
section
def ah(w:Sv)(a:Nat->Question->Nat)(d:Nat):Sv:= {w with tape:=a,drawn:=d}
@[simp] theorem dq(w a d):(ah w a d).heap=w.heap:=rfl
@[simp] theorem Rx(w a d):(ah w a d).os=w.os:=rfl
@[simp] theorem OL(w a d):(ah w a d).output=w.output:=rfl
@[simp] theorem AL(w a d):(ah w a d).tape=a:=rfl
@[simp] theorem yv(w a d):(ah w a d).drawn=d:=rfl
@[simp] theorem xO(w c a d b):ah (ah w c d) a b=ah w a b:=rfl
@[simp] theorem AM(w):ah w w.tape w.drawn=w:=rfl
@[simp] theorem jT(w b d a):(ah w b d).cell? a=w.cell? a:=rfl
@[simp] theorem vY(w b d a):(ah w b d).frozen? a=w.frozen? a:=rfl
@[simp] theorem P5(w a d r):(ah w a d).shape? r=w.shape? r:=rfl
def Agree(k:Nat)(w:Sv)(a:Nat->Question->Nat)(d:Nat):Prop:=∀j,j<k->∀q,a (d+j) q=w.tape (w.drawn+j) q
def Agree.le{k k' w a d}(h:Agree k w a d)(c:k'<=k):Agree k' w a d:=λj b q=>h j (by omega) q
def Agree.tail{k k' K w a b d}(h:Agree K w b d)(g:k+k'<=K)(e:a.tape=w.tape)(c:a.drawn=w.drawn+k):Agree k' a b (d+k):=λj f q=>by
 have:=h (k+j) (by omega) q;rw[e,c,Su,Su];omega
def dh{a:Type}:Result a->Sv
 |U6 _ w=>w
 |SK _ w=>w
def cK{b:Type}(r:Result b)(c:Nat->Question->Nat)(d:Nat):Result b:=
 match r with
 |U6 a w=>U6 a (ah w c d)
 |SK h w=>SK h (ah w c d)
structure Loc{α:Type}(f:Sv->Result α×Array Event)(w:Sv)(k m:Nat):Prop where
 tape:(dh (f w).1).tape=w.tape
 drawn:(dh (f w).1).drawn=w.drawn+m
 shift:∀Y d,Agree k w Y d->f (ah w Y d)=(cK (f w).1 Y (d+m),(f w).2)
def y6{c}(w:Sv)(b a)(k:Nat->Ask c)(d:(Question.extern b a).forced=true):w.ask (.ask b a k)=w.ask (k 0):=by
 rw[World.ask];grind
def BX{d}(w b a)(k:Nat->Ask d)(c:¬ (Question.extern b a).forced=true):
 w.ask (.ask b a k)=(ah w w.tape (w.drawn+1)).ask (k ((Question.extern b a).cut (w.tape w.drawn (Question.extern b a)))):=if_neg c
def nJ{j}(x:Ask j):∀w,∃k,(w.ask x).2.tape=w.tape/\(w.ask x).2.drawn=w.drawn+k/\(w.ask x).2.heap=w.heap/\(w.ask x).2.os=w.os/\(w.ask x).2.output=w.output/\
 ∀f d,Agree k w f d->(ah w f d).ask x=((w.ask x).1,ah (w.ask x).2 f (d+k)):=by
 induction x with
 |done a=>exactλw=>⟨0,rfl,rfl,rfl,rfl,rfl,λf d _=>rfl⟩
 |ask c b k r=>
  intro w;by_cases m:(Question.extern c b).forced=true;simp_all[y6]
  have⟨n,l,s,q,h,p,i⟩:=r ((Question.extern c b).cut (w.tape w.drawn (Question.extern c b))) (ah w w.tape (w.drawn+1));refine⟨1+n,?_⟩;simp[BX _ c b k m];refine⟨l,s.trans (by simp[Su]),q,h,p,λf d g=> ?_⟩;have e:=g 0 (by omega) (Question.extern c b);have:=i f (d+1) (Agree.tail (w:=w) (k:=1) g (SM _) rfl rfl);simp_all[Su]
section
variable{α:Type}{p:AS}
def NA{f g:Sv->Result α×Array Event}{w a k m}(h:Loc g a k m)(e0:f w=g a)(n:∀b d,f (ah w b d)=g (ah a b d))(c:a.tape=w.tape)(e:a.drawn=w.drawn):Loc f w k m:=
 ⟨by rw[e0];exact h.tape.trans c,by rw[e0,h.drawn,e],λb d i=>by rw[n,e0];exact h.shift b d λj l q=>by rw[c,e];exact i j l q⟩
def Bx(p w a b c d):(ah w c d).farLoad p a b=w.farLoad p a b:=rfl
def El(p w x u a v b f d):(ah w f d).viewStore p x u a v b=(w.viewStore p x u a v b).map λy=>(ah y.1 f d,y.2):=by
 simp only[T7,show(ah w f d).seen p x u a b=w.seen p x u a b from rfl];by_cases g:tight p p.depth u=true;simp only[g,Tm,SE,if_false];cases i:w.seen p x u a b with
 |error e=>rfl
 |ok y=>
  cases h:v.bytes? with
  |none=>rfl
  |some c=>
   simp only[bind,Except.bind];split <;>first |rfl|split <;>rfl
 simp[g];rfl
def sS(p w a v b c d):(ah w c d).farStore p a v b=match w.farStore p a v b with | .ok (e,l)=>.ok (ah e c d,l)| .error h=>.error h:=by
 simp[SU];split;rw[El];rename_i x u _;cases w.viewStore p x u a v b<;>rfl;rfl
def xZ(p)(w:Sv)(a v b){c l}(h:w.farStore p a v b= .ok (c,l)):c.tape=w.tape/\c.drawn=w.drawn:=by
 have d:=sS p w a v b w.tape w.drawn;simp[h]at d;rw[d];simp
end
end
section
variable[aD]
section
variable{P:AS}
theorem pM{c}(T:dY P)(f args):bU P true c (callFunc f args):=by
 cases b:P.funcs[f]? with
 |none=>exact⟨by show cw P true c (match P.funcs[f]? with |none=>_|some a=>_);rw[b];trivial⟩
 |some a=>
  suffices h:bU P true c (if(a.name== "runtime.NumGoroutine")=true then pure Next.numGoroutine else
   if a.body.isNone=true then(do
    mark (.extern f)
    if let some e:=TW a then return<- e args
    match T9 a with
    |some e=>pure (.value (<- e args))
    |none=>
     if a.name.endsWith ".init" && !a.name.startsWith "(" && !a.name.startsWith "gosem." then pure (.value (.tuple #[]))
     else unsupported (.extern a.name))
   else pure (.enter f args)) by
   exact⟨by show cw P true c (match P.funcs[f]? with |none=>_|some a=>_);rw[b];exact h.st⟩
  rw[T.num f a b];cases d:a.body.isNone with
  |false=>simp[SE];exact zq2
  |true=>
   refine @aX _ _ _ _ _ _ _ _ zq2 λ_=> ?_
   rw[T.next f a b d];cases g:T9 a with
   |some e=>exact @aX _ _ _ _ _ _ _ _ (KZ (T.ext f a b d e g args)) λ_=>zq2
   |none=>
    dsimp only;split <;>exact zq2
theorem rK{a}(T:dY P)(recv name args):bU P true a (callMethod recv name args):=by
 unfold callMethod;cases recv<;>first |exact zq2|(exact @aX _ _ _ _ _ _ _ _ zq2 λ_=> @aX _ _ _ _ _ _ _ _ zq2 λ_=>pM T ..)
theorem vJ{g}(T:dY P)(t args)(e:∀b a d cs,t≠.builtin b a d cs):bU P true g (invoke t args):=by
 unfold invoke;cases t with
 |nil=>exact zq2
 |builtin b a t cs=>exact absurd rfl (e _ _ _ _)
 |collected r=>exact zq2
 |coroexit c=>exact zq2
 |fn f c=>
  cases f with
  |func f=>exact pM T ..
  |method n=>
   dsimp only;split <;>first |exact rK T .. |exact zq2
  |methodOf t n=>
   dsimp only;split <;>first |(refine @aX _ _ _ _ _ _ _ _ zq2 λ_=> ?_;repeat' (first |exact rK T ..))|exact zq2
  |via t p f q=>
   dsimp only;split <;>first |exact @aX _ _ _ _ _ _ _ _ zq2 λ_=>pM T .. |exact zq2
  |yield l=>exact zq2
theorem eH(T:dY P)(t args):St P (invoke t args):=by
 cases t with
 |builtin b a t c=>unfold invoke;exact zq2
 |_=>exact vJ T _ _ λ_ _ _ _ h=>by cases h
def un(b a t cs args):Sep P (builtin b a t cs args):=by
 unfold builtin;cases b;case append=>exact .inr (zq2:bU P false true _).st
 all_goals first
  |exact .inl (zq2:bU P true false _).st
def nh(T:dY P)(t args):Sep P (invoke t args):=by
 cases t with
 |builtin b a t c=>exact un ..
 |_=>exact .inl (vJ T _ _ λ_ _ _ _ h=>by cases h).st
def um(T:dY P)(e c t):Sep P (do let d <- resolve e c t;invoke d.target d.args):=by
 unfold resolve;cases c.callee with
 |builtin b=>exact un ..
 |invoke r n=>exact show Sep P (invoke (.fn (.method n) #[]) (#[e r]++c.args.map e))from nh T ..
 |value f=>
  dsimp only;cases e f;case func g a b=>exact nh T ..
  all_goals exact .inl trivial
instance Cr{d e}(a c t):bU P d e (resolve a c t):=by
 cases c.callee with
 |builtin b=>exact zq2
 |invoke r n=>exact zq2
 |value f=>exact zq2
theorem gY(T:dY P)(a o):St P (Tu a o):=by
 unfold Tu;cases o.op;case call c=>exact @aX _ _ _ _ _ _ _ _ zq2 λd=>eH T ..
 case nilCheck x=>
  dsimp only;repeat' (first
   |exact zq2
   |split)
 all_goals first
  |(repeat' (first
   |exact zq2
   |(refine @aX _ _ _ _ _ _ _ _ ?_ λ_=> ?_)
   |split))
def ER(T:dY P)(a o):Sep P (Tu a o):=by
 unfold Tu;cases o.op;case call c=>exact um T ..
 case makeSlice=>exact .inr (zq2:bU P false true _).st
 all_goals
  refine(λh:bU P true false _=>Or.inl h.st) ?_;first
   |(
    dsimp only;repeat' (first
     |exact zq2
     |(refine @aX _ _ _ _ _ _ _ _ ?_ λ_=> ?_)
     |split))
end
def IM(r:Nat)(o:Obj):Prop:=pE o\/((∃c t,o= .pending c t)/\aD.lim<=r)\/∃c,o= .coro c
def IM.i{r o}(h:IM r o):pF o:=h.imp id λh=>h.imp (·.1) id
def an(w:Sv):Prop:=∀(r:Nat)(o:Obj),w.heap[r]?=some o->IM r o
def jK{w o}(h:an w)(b:pE o):an {w with heap:=w.heap.push o}:=by
 intro r x a;rw[Array.getElem?_push]at a;split at a;cases a;exact .inl b;exact h r x a
def eE{w r o}(h:an w)(c:pE o):an {w with heap:=w.heap.setIfInBounds r o}:=by
 intro b x a;rw[Array.getElem?_setIfInBounds]at a;split at a;split at a;cases a;exact .inl c;grind
 exact h b x a
def rT{w r f}(h:an w)(c:∀r o,IM r o->IM r (f o)):an {w with heap:=w.heap.modify r f}:=by
 intro d x a;rw[Array.getElem?_modify]at a;split at a;obtain⟨y,b,rfl⟩:=Option.map_eq_some_iff.1 a;exact c _ _ (h _ y b);exact h d x a
def eO{w}(h:an w)(a v):an (w.setCell a v):=
 rT h λr o b=>by cases o<;>first |exact b|exact .inl trivial
def iz{w}(h:an w)(a n):an (w.freeze a n):=by
 unfold T4;split;exact h;exact rT h λr o b=>by cases o<;>first |exact b|exact .inl trivial
def uY{P w}(h:an w){x u a v b c l}(e:w.viewStore P x u a v b= .ok (c,l)):an c:=by
 simp[T7,bind,Except.bind]at e;repeat' split at e
 all_goals first
  |(cases e;done)
  |(obtain⟨rfl,_⟩:=e;exact eE h trivial)
def gp{P w}(h:an w){a v b c l}(e:w.farStore P a v b= .ok (c,l)):an c:=by
 unfold SU at e;split at e;split at e<;>first |(rename_i d;simp[Except.ok.injEq]at e;subst e;exact uY h d)|cases e
 cases e
def Fj{c w}(x:Ask c)(h:an w):an (w.ask x).2:=by
 have⟨k,d,e,b,_⟩:=nJ x w;intro r o a;rw[b]at a;exact h r o a
def kU{w}(h:an w)(c):an (w.sys c).2:=by
 unfold World.sys;have:=Fj (SX c w.os) h;generalize w.ask (SX c w.os)=x at this ⊢;have⟨⟨r,b⟩,a⟩:=x;cases r<;>first |exact h|exact this
def cf{d P}{s:Sem d}(hs:l6 P s):∀w es,an w->an (dh (s.runT P w es).1):=by
 induction s with
 |pure a=>exactλw es h=>h
 |halt x=>exactλw es h=>h
 |load m a k b=>
  intro w es h;simp only[AI];split;exact b _ (hs _) _ _ h;split;exact b _ (hs _) _ _ h;exact h
 |store m a v k b=>
  intro w es h;cases v;all_goals simp only[AI]
  case agg=>exact h
  case tuple=>exact h
  all_goals
   split;split <;>first |exact h|exact b hs _ _ (eO h _ _)
   split;rename_i e;exact b hs _ _ (gp h e);exact h
 |new o k b=>exactλw es h=>b _ (hs.2 _) _ _ (jK h hs.1)
 |shape r k b=>exactλw es h=>b _ (hs _) _ _ h
 |freeze a n k b=>exactλw es h=>b hs _ _ (iz h _ _)
 |frozen a k b=>exactλw es h=>b _ (hs _) _ _ h
 |getObj r k b=>
  intro w es h;simp only[AI];split <;>first |exact h|exact b _ (hs.1 _ (h _ _ (by assumption)).i) _ _ h
 |setObj r o k b=>
  intro w es h;simp only[AI];split <;>first |exact h|exact b hs.2 _ _ (eE h hs.1)
 |choose q k b=>
  intro w es h;simp only[AI];split <;>exact b _ (hs _) _ _ h
 |sys c k b=>exactλw es h=>b _ (hs.2 _) _ _ (kU h c)
 |program k b=>exactλw es h=>b _ hs _ _ h
 |mark m k b=>exactλw es h=>b hs.2 _ _ h
def rh{t P}{Q:t->Prop}{s}(f:l6 P s)(hs:Leaf P Q s):∀w g,an w->∀a j b,s.runT P w g=(U6 a j,b)->Q a:=by
 induction s with
 |pure a=>intro w g d l j b h;cases h;exact hs
 |halt h=>simp
 |load m a k e=>
  intro w g d l j b h;simp only[AI]at h;split at h;exact e _ (f _) (hs _) _ _ d _ _ _ h;split at h<;>first |exact e _ (f _) (hs _) _ _ d _ _ _ h|cases h
 |store m a v k e=>
  intro w g d l j b h;cases v;all_goals simp only[AI]at h
  case agg=>cases h
  case tuple=>cases h
  all_goals
   split at h;split at h<;>first |cases h|exact e f hs _ _ (eO d _ _) _ _ _ h
   split at h<;>first |(rename_i u;exact e f hs _ _ (gp d u) _ _ _ h)|cases h
 |new o k e=>intro w g d l j b h;exact e _ (f.2 _) (hs _) _ _ (jK d f.1) _ _ _ h
 |shape r k e=>intro w g d l j b h;exact e _ (f _) (hs _) _ _ d _ _ _ h
 |freeze a n k e=>intro w g d l j b h;exact e f hs _ _ (iz d _ _) _ _ _ h
 |frozen a k e=>intro w g d l j b h;exact e _ (f _) (hs _) _ _ d _ _ _ h
 |getObj r k e=>
  intro w g d l j b h;simp only[AI]at h;split at h<;>first |cases h|(have p:=(d _ _ (by assumption)).i;exact e _ (f.1 _ p) (hs _ p) _ _ d _ _ _ h)
 |setObj r o k e=>
  intro w g d l j b h;simp only[AI]at h;split at h<;>first |cases h|exact e f.2 hs _ _ (eE d f.1) _ _ _ h
 |choose q k e=>
  intro w g d l j b h;simp only[AI]at h;split at h;exact e _ (f _) (hs _) _ _ d _ _ _ h;exact e _ (f _) (hs _) {w with drawn:=w.drawn+1} _ d _ _ _ h
 |sys c k e=>intro w g d l j b h;exact e _ (f.2 _) (hs _) _ _ (kU d c) _ _ _ h
 |program k e=>intro w g d l j b h;exact e _ f hs _ _ d _ _ _ h
 |mark m k e=>intro w g d l j b h;exact e f.2 hs _ _ d _ _ _ h
def pQ{A P}{s:Sem A}(j:l6 P s):∀w p,an w->∀x l f,s.runT P w p=(SK x l,f)->lO x:=by
 have z:∀(w:Sv)(a:Addr)(s:String),an w->lO (w.noCell a s):=λw a s d=>by
  unfold World.noCell;split <;>first |(rename_i h;exact(d _ _ h).elim (λh=>h.elim) λh=>h.elim (·.2) λ⟨_,e⟩=>by cases e)|trivial
 have y:∀(w:Sv)(a:Addr)(b:Bool)(x:Halt),an w->w.farLoad P a b= .error x->lO x:=λw a b x d h=>by
  unfold World.farLoad at h;split at h;split at h;cases h;cases h;trivial;grind
 have t:∀(w:Sv)(a:Addr)(v:Value)(b:Bool)(x:Halt),an w->w.farStore P a v b= .error x->lO x:=λw a v b x d h=>by
  unfold SU at h;split at h;split at h;cases h;cases h;trivial;grind
 induction s with
 |pure a=>simp
 |halt B=>intro w p d x l f h;cases h;exact j
 |load m a k g=>
  intro w p d x l f h;simp only[AI]at h;split at h;exact g _ (j _) _ _ d _ _ _ h;split at h;exact g _ (j _) _ _ d _ _ _ h;grind
 |store m a v k g=>
  intro w p d x l f h;cases v;all_goals simp only[AI]at h
  case agg=>cases h;trivial
  case tuple=>cases h;trivial
  all_goals
   split at h;split at h<;>first |(cases h;trivial)|exact g j _ _ (eO d _ _) _ _ _ h
   split at h<;>first |(rename_i u;exact g j _ _ (gp d u) _ _ _ h)|(rename_i u;cases h;exact t _ _ _ _ _ d u)
 |new o k g=>intro w p d x l f h;exact g _ (j.2 _) _ _ (jK d j.1) _ _ _ h
 |shape r k g=>intro w p d x l f h;exact g _ (j _) _ _ d _ _ _ h
 |freeze a n k g=>intro w p d x l f h;exact g j _ _ (iz d _ _) _ _ _ h
 |frozen a k g=>intro w p d x l f h;exact g _ (j _) _ _ d _ _ _ h
 |getObj r k g=>
  intro w p d x l f h;simp only[AI]at h;split at h<;>first |(cases h;trivial)|exact g _ (j.1 _ (d _ _ (by assumption)).i) _ _ d _ _ _ h
 |setObj r o k g=>
  intro w p d x l f h;simp only[AI]at h;split at h<;>first |(cases h;trivial)|exact g j.2 _ _ (eE d j.1) _ _ _ h
 |choose q k g=>
  intro w p d x l f h;simp only[AI]at h;split at h;exact g _ (j _) _ _ d _ _ _ h;exact g _ (j _) {w with drawn:=w.drawn+1} _ d _ _ _ h
 |sys c k g=>intro w p d x l f h;exact g _ (j.2 _) _ _ (kU d c) _ _ _ h
 |program k g=>intro w p d x l f h;exact g _ j _ _ d _ _ _ h
 |mark m k g=>intro w p d x l f h;exact g j.2 _ _ d _ _ _ h
def J8(c w):(∃m,(w.sys c).2.tape=w.tape/\(w.sys c).2.drawn=w.drawn+m/\∀b d,Agree m w b d->(ah w b d).sys c=((w.sys c).1,ah (w.sys c).2 b (d+m)))\/(w.sys c).1= .wouldBlock:=by
 have⟨k,e,f,h,i,l,g⟩:=nJ (SX c w.os) w;unfold World.sys;cases n:w.ask (SX c w.os)with
 |mk a q=>
  have⟨r,p⟩:=a;rw[n]at e f h i l g;cases r;case wouldBlock=>exact .inr rfl
  all_goals
   refine .inl ⟨k,e,f,λb d j=> ?_⟩;simp[g b d j];rfl
section
variable{α:Type}{p:AS}
def FY(f:Sv->Result α×Array Event)(w:Sv):Prop:=(∃m,Loc f w m m)\/∃h a,(f w).1=SK h a/\Dead h
def fR{f g:Sv->Result α×Array Event}{w a}(h:FY g a)(e0:f w=g a)(k:∀b d,f (ah w b d)=g (ah a b d))(c:a.tape=w.tape)(j:a.drawn=w.drawn):FY f w:=by
 rcases h with⟨m,h⟩|⟨x,e,h,i⟩
 exact .inl ⟨m,NA h e0 k c j⟩;exact .inr ⟨x,e,by rw[e0];omega,i⟩
def gG{f:Sv->Result α×Array Event}{w}(h:Loc f w 0 0):FY f w:=.inl ⟨0,h⟩
def Jo(p)(s:Sem α):∀w f,l6 p s->an w->FY (λw=>s.runT p w f) w:=by
 induction s with
 |pure a=>exactλw f _ _=>gG ⟨rfl,rfl,λt d _=>rfl⟩
 |load m a k B=>
  intro w f j A;cases C:w.cell? a with
  |some v=>exact fR (B v w (f.push ⟨.cell a,false,m==SV⟩) (j v) A) (by simp only[AI,C]) λt d=>by simp only[AI,jT,C] rfl rfl
  |none=>
   cases E:w.farLoad p a (m==SV)with
   |ok r=>
    obtain⟨v,l⟩:=r;exact fR (B v w (f++l.toArray.map (⟨.cell ·,false,m== .atomic⟩)) (j v) A) (by simp only[AI,C,E]) λt d=>by simp only[AI,jT,C,Bx,E] rfl rfl
   |error e=>exact gG ⟨by simp only[AI,C,E];rfl,by simp only[AI,C,E];rfl,λt d _=>by simp only[AI,jT,C,Bx,E];rfl⟩
 |store m a v k B=>
  intro w f j A;by_cases K:v.oneCell'=true;have g:∀u:Sv,(Tr m a v k).runT p u f=(match u.cell? a with
   |some _=>if u.frozen? a then(SK (SC (.unsafePointer "a write to bytes that a string shares")) u,f)else k.runT p (u.setCell a v) (f.push ⟨.cell a,true,m==SV⟩)
   |none=>match u.farStore p a v (m==SV)with| .ok (u,F)=>k.runT p u (f++F.toArray.map (⟨.cell ·,true,m== .atomic⟩))| .error h=>(SK h u,f)):=λu=>by
   cases v<;>first |rfl|(exact absurd K (by decide))|(simp[Value.oneCell']at K)
  cases C:w.cell? a with
  |some o=>
   by_cases I:w.frozen? a=true<;>first |exact gG ⟨by simp only[g,C,I,if_true];rfl,by simp only[g,C,I,if_true];rfl,λt d _=>by simp only[g,jT,vY,C,I,if_true];rfl⟩|exact fR (B (w.setCell a v) (f.push ⟨.cell a,true,m==SV⟩) j (eO A _ _)) (by grind) λt d=>by simp only[g,jT,vY,C,I];rfl rfl rfl
  |none=>
   cases E:w.farStore p a v (m==SV)with
   |ok r=>
    have⟨T,l⟩:=r;have⟨S,Q⟩:=xZ p w a v _ E;exact fR (B T (f++l.toArray.map (⟨.cell ·,true,m== .atomic⟩)) j (gp A E)) (by simp only[g,C,E]) λt d=>by simp only[g,jT,C,sS,E] S Q
   |error e=>exact gG ⟨by simp only[g,C,E];rfl,by simp only[g,C,E];rfl,λt d _=>by simp only[g,jT,C,sS,E];rfl⟩
  have g:∀u:Sv,(Tr m a v k).runT p u f=(SK (.stuck "store: not the value of one cell") u,f):=λu=>by
   cases v<;>first |rfl|(exact absurd rfl K)
  exact gG ⟨by rw[g];rfl,by rw[g];rfl,λt d _=>by rw[g,g];rfl⟩
 |new o k B=>exactλw f j A=>fR (B w.heap.size {w with heap:=w.heap.push o} f (j.2 _) (jK A j.1)) rfl (λt d=>rfl) rfl rfl
 |shape r k B=>exactλw f j A=>fR (B (w.shape? r) w f (j _) A) rfl (λt d=>rfl) rfl rfl
 |freeze a n k B=>
  intro w f j A;refine fR (B (w.freeze a n) f j (iz A _ _)) rfl (λt d=> ?_) ?_ ?_;simp only[AI,T4];split <;>rfl;grind [T4]
  grind [T4]
 |frozen a k B=>exactλw f j A=>fR (B (w.frozen? a) w f (j _) A) rfl (λt d=>rfl) rfl rfl
 |getObj r k B=>
  intro w f j A;cases D:w.heap[r]? with
  |none=>exact gG ⟨by simp only[AI,D];rfl,by simp only[AI,D];rfl,λt d _=>by simp only[AI,dq,D];rfl⟩
  |some o=>
   by_cases C:∃c e z,o= .cells c e z;obtain⟨c,e,z,rfl⟩:=C;exact gG ⟨by simp only[AI,D];rfl,by simp only[AI,D];rfl,λt d _=>by simp only[AI,dq,D];rfl⟩;have g:∀u:Sv,u.heap[r]?=some o->(Te r k).runT p u f=(k o).runT p u (f.push ⟨.obj r,false,o.isChan⟩):=λu W=>by
    grind [AI]
   exact fR (B o w (f.push ⟨.obj r,false,o.isChan⟩) (j.1 o (A _ _ D).i) A) (g w D) (λt d=>g _ D) rfl rfl
 |setObj r o k B=>
  intro w f j A;cases D:w.heap[r]? with
  |none=>exact gG ⟨by simp only[AI,D];rfl,by simp only[AI,D];rfl,λt d _=>by simp only[AI,dq,D];rfl⟩
  |some P=>
   by_cases C:∃c e z,P= .cells c e z;obtain⟨c,e,z,rfl⟩:=C;exact gG ⟨by simp only[AI,D];rfl,by simp only[AI,D];rfl,λt d _=>by simp only[AI,dq,D];rfl⟩;have g:∀u:Sv,u.heap[r]?=some P->(Td r o k).runT p u f=k.runT p {u with heap:=u.heap.setIfInBounds r o} (f.push ⟨.obj r,true,o.isChan⟩):=λu W=>by
    simp_all[AI]
   exact fR (B {w with heap:=w.heap.setIfInBounds r o} (f.push ⟨.obj r,true,o.isChan⟩) j.2 (eE A j.1)) (g w D) (λt d=>g _ D) rfl rfl
 |choose q k B=>
  intro w f j A;by_cases E:q.forced=true;exact fR (B 0 w f (j _) A) (by simp only[AI,E,if_true]) λt d=>by simp only[AI,E,if_true] rfl rfl
  have g:∀v:Sv,(Sem.choose q k).runT p v f=(k (q.cut (v.tape v.drawn q))).runT p (ah v v.tape (v.drawn+1)) f:=λv=>by
   exact if_neg E
  rcases B (q.cut (w.tape w.drawn q)) (ah w w.tape (w.drawn+1)) f (j _) A with⟨y,h⟩|⟨x,L,h,G⟩
  refine .inl ⟨1+y,?_,?_,λt d H=> ?_⟩<;>first |(rw[g];exact h.tape)|(rw[g,h.drawn];simp[Su])|(have e:=H 0 (by omega) q;have:=h.shift t (d+1) (Agree.tail (w:=w) (k:=1) H (SM _) rfl rfl);simp_all[AL,yv,xO,Su])
  exact .inr ⟨x,L,(congrArg Prod.fst (g w)).trans h,G⟩
 |sys c k B=>
  intro w f j A;have g:∀u:Sv,(Sem.sys c k).runT p u f=(k (u.sys c).1).runT p (u.sys c).2 (f.push ⟨.output,true,false⟩):=λu=>rfl
  rcases J8 c w with⟨b,M,N,R⟩|Z
  rcases B (w.sys c).1 (w.sys c).2 (f.push ⟨.output,true,false⟩) (j.2 _) (kU A c)with⟨y,h⟩|⟨x,L,h,G⟩
  refine .inl ⟨b+y,h.tape.trans M,?_,λt d H=> ?_⟩<;>first |rw[g,h.drawn,N,Su]|(rw[g,g,R t d (H.le (by omega))];rw[<- Su];exact h.shift t (d+b) (Agree.tail (w:=w) (k:=b) H (by omega) M N))
  exact .inr ⟨x,L,(congrArg Prod.fst (g w)).trans h,G⟩;have⟨x,G,X⟩:=j.1;exact .inr ⟨x,(w.sys c).2,(congrArg Prod.fst (g w)).trans (by rw[Z,G];rfl),X⟩
 |program k B=>exactλw f j A=>fR (B p w f j A) rfl (λt d=>rfl) rfl rfl
 |mark m k B=>exactλw f j A=>fR (B w (f.push ⟨.mark m,false,true⟩) j.2 A) rfl (λt d=>rfl) rfl rfl
 |halt h=>exactλw f _ _=>gG ⟨rfl,rfl,λt d _=>rfl⟩
end
structure jy(f:Sv->GStep)(w:Sv)(g':Goroutine)(w':Sv)(es:Array Event)(k m:Nat):Prop where
 le:k<=m
 tape:w'.tape=w.tape
 drawn:w'.drawn=w.drawn+m
 shift:∀Y d,Agree k w Y d->f (ah w Y d)=SG g' (ah w' Y (d+m)) es
def kt{c}[Decidable c]{A B X:GStep}(h:(if c then A else B)=X):c/\A=X\/¬ c/\B=X:=by
 by_cases a:c;grind
 grind
def aZ{c a s g w}(h:SN c s=SG g w a):∃b,s=SG g w b/\a=c++b:=by
 cases s<;>first |cases h
 simp
def HU(P:AS)(w a d):∀n f,P.found (ah w a d) n f=P.found w n f:=by
 intro n;induction n with
 |zero=>intro f;rfl
 |succ n b=>intro f;simp[Program.found,b];rfl
def Dm(P:AS)(w b d):∀n l s,P.brought (ah w b d) n l s=P.brought w n l s:=by
 intro n;induction n with
 |zero=>intro l s;rfl
 |succ n c=>
  intro l s;cases l with
  |nil=>rfl
  |cons f a=>simp_all[Program.brought]
def bT{f w a c e}(i:a.tape=w.tape)(g:a.drawn=w.drawn)(h:∀b d,f (ah w b d)=SG c (ah a b d) e):∃k m,jy f w c a e k m:=
 ⟨0,0,SM _,i,g,λb d _=>h b d⟩
def dx{b P}{s:Sem b}[hs:St P s]{w}(d:an w)(a):(∃k m,k<=m/\Loc (λw=>s.runT P w a) w k m)\/∃h c,(s.runT P w a).1=SK h c/\Dead h:=by
 rcases Jo P s w a hs.st d with⟨m,h⟩|h<;>grind
def Ij{P l a b g w p r q}(h:early P l a b g w=SG r p q):
 ∃k m,jy (λw=>early P l a b g w) w r p q k m:=by
 unfold early at h;dsimp only at h;have x:=HU P;have u:=Dm P;have t:∀c d,(ah w c d).shape?=w.shape?:=λ_ _=>rfl
 have i:∀v:Sv,(choose (Ta g)).run P v=U6 ((Ta g).cut (v.tape v.drawn (Ta g))) (ah v v.tape (v.drawn+1)):=λv=>by
  rfl
 rw[i]at h;have s:∀c d,Agree 1 w c d->c d (Ta g)=w.tape w.drawn (Ta g):=λc d f=>f 0 (by omega) _
 rcases Nat.eq_zero_or_pos ((Ta g).cut (w.tape w.drawn (Ta g)))with e|e
 .rw[e]at h;repeat' split at h
  all_goals first
   |(cases h;done)
   |(
    cases h;refine bT rfl rfl λc d=> ?_
    unfold early;simp[*]<;>rfl)
   |(done)
   |(
    have j:(U6 0 (ah w w.tape (w.drawn+1)):Result Nat)=_:= ‹(U6 0 (ah w w.tape (w.drawn+1)):Result Nat)=_›;simp only[Result.ok.injEq,true_and]at j;subst j;have y:w.heap[g]?=_:= ‹(ah w w.tape (w.drawn+1)).heap[g]?=_›;cases h;refine⟨1,1,SM _,rfl,rfl,λc d f=> ?_⟩;unfold early;simp[*]<;>rfl)
   |(grind)
 .have⟨n,e⟩:∃n,(Ta g).cut (w.tape w.drawn (Ta g))=n+1:=⟨_,(Nat.succ_pred_eq_of_pos e).symm⟩;rw[e]at h;repeat' split at h
  all_goals first
   |(done)
   |(
    cases h;refine bT rfl rfl λc d=> ?_
    unfold early;simp[*]<;>rfl)
   |(grind)
   |(
    cases ‹(U6 (n+1) (ah w w.tape (w.drawn+1)):Result Nat)=_›;cases h;refine⟨1,1,SM _,rfl,rfl,λc d f=> ?_⟩;unfold early;simp[*])
   |trace_state
def tD{b P}{s:Sem b}{w k m}(h:Loc (λw=>s.runT P w #[]) w k m){r}(c:s.run P w=r):(dh r).tape=w.tape/\(dh r).drawn=w.drawn+m/\∀a d,Agree k w a d->s.run P (ah w a d)=cK r a (d+m):=by
 subst c;have e:=λu=>SR P s u #[]
 refine⟨by rw[<- e];exact h.tape,by rw[<- e];exact h.drawn,λa d f=> ?_⟩;rw[<- e,<- e,h.shift a d f]
instance xy{a b}(P s):bU P a b (withAddress s):=by
 unfold withAddress;exact zq2
instance xz{d a P}:∀c b,bU P d a (reportChain c b):=by
 intro c;induction c with
 |nil=>intro b;unfold reportChain;exact zq2
 |cons e c f=>
  intro b;repeat' (first
   |exact zq2
   |(refine @aX _ _ _ _ _ _ _ _ ?_ λ_=> ?_)
   |(refine @vI _ _ _ _ _ _ _ _ _ ?_ ?_)
   |split)
def sX{P q b z i w l n p}(I:an w)(h:endFatal P q b z i w=SG n l p):
 ∃k m,jy (λw=>endFatal P q b z i w) w n l p k m:=by
 have H:∀(c:Sem (List (ByteArray×String)×List ByteArray))(F:Sv->GStep),St P c->(∀w,F w=(match c.run P w with
  |U6 (g,j) w=>dieOf q (panicPieces g++j) i true w
  |SK (SC u) w=>Tb (.unsupported u "") w
  |SK _ w=>Tb (.stuck "the report of a panic" "") w))->F w=SG n l p->∃k m,jy F w n l p k m:=by
  intro s F R y h;rw[y]at h;rcases dx (P:=P) (s:=s) I #[]with⟨k,m,M,K⟩|⟨S,Q,N,D⟩
  generalize B:s.run P w=r at h;have⟨A,C,G⟩:=tD K B;cases r with
  |ok a v=>
   cases h;exact⟨k,m,M,A,C,λE d L=>by rw[y,G E d L];rfl⟩
  |halt x v=>cases x<;>cases h
  grind [SR]
 have e:∀t:List (Value×String),St P (t.mapM λ(v,f)=>match panicText P true v with
  | .text s=>pure (s,f)
  | .address s=>do pure (<- withAddress s,f)
  |_=>unsupported (TF "a fatal error during a panic whose value the report cannot show")):=by
  intro t;refine @pL _ _ _ _ _ _ _ (λx=> ?_) _;dsimp only;split <;>exact zq2
 refine H _ _ ?_ (λw=>rfl) h;split <;>first |exact zq2|exact @aX _ _ _ _ _ _ _ _ zq2 λ_=> @aX _ _ _ _ _ _ _ _ (e _) λ_=>zq2|exact @aX _ _ _ _ _ _ _ _ (e _) λ_=>zq2
def FR{P g a k s w m j c i x}(h:stepG.apply P true g a k s w=SG c m i)(d:(s.runT P w #[]).1=SK x j)(e:Dead x)(f:c.status=SI):False:=by
 unfold stepG.apply at h;generalize s.runT P w #[]=y at h d;have⟨r,n⟩:=y;subst d;cases x;case unsupported u=>
  cases u<;>first
   |exact e.elim
   |(have⟨l,b,_⟩:=aZ h;cases b)
 all_goals first
  |exact e.elim
  |(
   have⟨l,b,_⟩:=aZ h;first
    |(grind))
def pw{P fr callers dy s}[hs:St P s]{w w' g' es}(hw:an w)(h:stepG.apply P true fr callers dy s w=SG g' w' es)(hst:g'.status=SI):
 ∃k m,jy (λw=>stepG.apply P true fr callers dy s w) w g' w' es k m:=by
 obtain⟨k,m,hk,hL⟩:=(dx (P:=P) (s:=s) hw #[]).resolve_right λ⟨x,wx,hx,hdd⟩=>FR h hx hdd hst
 have h1:=hL.tape;have h2:=hL.drawn;have h3:=hL.shift;clear hL;have hH:=cf hs.st w #[] hw;unfold stepG.apply at h;simp only[if_true]at h;generalize hr:s.runT P w #[]=x at h h1 h2 h3 hH;obtain⟨r,e0⟩:=x;cases r with
 |ok n v=>
  cases n;all_goals dsimp only at h h1 h2 h3
  case value u=>
   obtain⟨e2,h4,rfl⟩:=aZ h;cases h4;exact⟨k,m,hk,h1,h2,λY d ha=>by simp only[stepG.apply,if_true,h3 Y d ha,cK];rfl⟩
  case skip=>
   obtain⟨e2,h4,rfl⟩:=aZ h;cases h4;exact⟨k,m,hk,h1,h2,λY d ha=>by simp only[stepG.apply,if_true,h3 Y d ha,cK];rfl⟩
  case enter f args=>
   obtain⟨e2,h4,rfl⟩:=aZ h;cases h4;exact⟨k,m,hk,h1,h2,λY d ha=>by simp only[stepG.apply,if_true,h3 Y d ha,cK];rfl⟩
  case round l f tmps assign body=>
   obtain⟨e2,h4,rfl⟩:=aZ h;cases h4;exact⟨k,m,hk,h1,h2,λY d ha=>by simp only[stepG.apply,if_true,h3 Y d ha,cK];rfl⟩
  case defer x=>
   obtain⟨e2,h4,rfl⟩:=aZ h;cases h4;exact⟨k,m,hk,h1,h2,λY d ha=>by simp only[stepG.apply,if_true,h3 Y d ha,cK];rfl⟩
  case recover=>
   obtain⟨e2,h4,rfl⟩:=aZ h;refine⟨k,m,?_⟩;cases hro:fr.roundOf with
   |none=>
    simp only[hro]at h4;cases hx:tryRecover fr callers with
    |none=>
     simp only[hx]at h4;cases h4;exact⟨hk,h1,h2,λY d ha=>by simp only[stepG.apply,if_true,h3 Y d ha,cK,hro,hx];rfl⟩
    |some y=>
     simp only[hx]at h4;cases h4;exact⟨hk,h1,h2,λY d ha=>by simp only[stepG.apply,if_true,h3 Y d ha,cK,hro,hx];rfl⟩
   |some l=>
    simp only[hro]at h4;cases hx:if P.follows .rangeFuncRecover then tryRecover fr callers else tryRecoverLoop l callers with
    |none=>
     simp only[hx]at h4;cases h4;exact⟨hk,h1,h2,λY d ha=>by simp only[stepG.apply,if_true,h3 Y d ha,cK,hro,hx];rfl⟩
    |some y=>
     simp only[hx]at h4;cases h4;exact⟨hk,h1,h2,λY d ha=>by simp only[stepG.apply,if_true,h3 Y d ha,cK,hro,hx];rfl⟩
  case spawn x=>
   obtain⟨e2,h4,rfl⟩:=aZ h;rcases kt h4 with⟨hc,h5⟩|⟨hc,h5⟩
   cases h5;refine⟨k,m,hk,h1,h2,λY d ha=> ?_⟩;simp only[stepG.apply,if_true,h3 Y d ha,cK];refine(congrArg (SN _) (if_pos hc)).trans ?_;rfl;grind
  case callThen x resume saved wrapper=>
   obtain⟨e2,h4,rfl⟩:=aZ h;cases hfd:fr.todo with
   |nil=>
    simp only[hfd]at h4;cases h4;exact⟨k,m,hk,h1,h2,λY d ha=>by simp only[stepG.apply,if_true,h3 Y d ha,cK,hfd];rfl⟩
   |cons it k'=>
    cases it<;>simp only[hfd]at h4<;>cases h4<;>exact⟨k,m,hk,h1,h2,λY d ha=>by simp only[stepG.apply,if_true,h3 Y d ha,cK,hfd];rfl⟩
  case row x args=>
   obtain⟨e2,h4,rfl⟩:=aZ h;cases hfd:fr.todo with
   |nil=>
    simp only[hfd]at h4;cases h4;exact⟨k,m,hk,h1,h2,λY d ha=>by simp only[stepG.apply,if_true,h3 Y d ha,cK,hfd];rfl⟩
   |cons it k'=>
    cases it<;>simp only[hfd]at h4<;>cases h4<;>exact⟨k,m,hk,h1,h2,λY d ha=>by simp only[stepG.apply,if_true,h3 Y d ha,cK,hfd];rfl⟩
  case stack resume saved=>
   obtain⟨e2,h4,rfl⟩:=aZ h;cases hfd:fr.todo with
   |nil=>
    simp only[hfd]at h4;cases h4;exact⟨k,m,hk,h1,h2,λY d ha=>by simp only[stepG.apply,if_true,h3 Y d ha,cK,hfd];rfl⟩
   |cons it k'=>
    cases it<;>simp only[hfd]at h4<;>cases h4<;>exact⟨k,m,hk,h1,h2,λY d ha=>by simp only[stepG.apply,if_true,h3 Y d ha,cK,hfd];rfl⟩
  case sleep till=>
   obtain⟨e2,h4,rfl⟩:=aZ h<;>grind
  all_goals
   obtain⟨e2,h4,rfl⟩:=aZ h;cases h4
 |halt x v=>
  cases x;all_goals dsimp only at h h1 h2 h3
  case panic u=>
   obtain⟨e2,h4,rfl⟩:=aZ h;cases h4;exact⟨k,m,hk,h1,h2,λY d ha=>by simp only[stepG.apply,if_true,h3 Y d ha,cK];rfl⟩
  case goexit=>
   obtain⟨e2,h4,rfl⟩:=aZ h;cases h4;exact⟨k,m,hk,h1,h2,λY d ha=>by simp only[stepG.apply,if_true,h3 Y d ha,cK];rfl⟩
  case blocked=>
   obtain⟨e2,h4,rfl⟩:=aZ h<;>grind
  case waiting=>
   obtain⟨e2,h4,rfl⟩:=aZ h<;>grind
  case exit c=>
   obtain⟨e2,h4,rfl⟩:=aZ h<;>grind
  case stuck c=>
   obtain⟨e2,h4,rfl⟩:=aZ h<;>grind
  case throw c=>
   obtain⟨e2,h4,rfl⟩:=aZ h;cases h4;exact⟨k,m,hk,h1,h2,λY d ha=>by simp only[stepG.apply,if_true,h3 Y d ha,cK];rfl⟩
  case fatal c=>
   obtain⟨e2,h4,rfl⟩:=aZ h;have⟨k',m',hL⟩:=sX (w:=v) hH h4;have hle:=hL.le;have h2':v.drawn=w.drawn+m:=h2;refine⟨m+k',m+m',by omega,hL.tape.trans h1,hL.drawn.trans (by rw[h2',Su]),λY d ha=> ?_⟩;simp only[stepG.apply,if_true,h3 Y d (ha.le (by omega)),cK];refine(congrArg (SN _) (hL.shift Y (d+m) (Agree.tail (w:=w) (k:=m) ha (by omega) h1 h2))).trans ?_;rw[Su];rfl
  case unsupported u=>
   obtain⟨e2,h4,rfl⟩:=aZ h;cases u;case initOrder x=>
    dsimp only at h4;have⟨k',m',hL⟩:=Ij h4;have hle:=hL.le;refine⟨m+k',m+m',by omega,hL.tape.trans h1,by rw[hL.drawn];dsimp only[dh]at h2;rw[h2,Su],λY d ha=> ?_⟩;simp only[stepG.apply,if_true,h3 Y d (ha.le (by omega)),cK,hL.shift Y (d+m) (Agree.tail (w:=w) (k:=m) ha (by omega) h1 h2)];rw[Su];rfl
   all_goals cases h4
instance Ey(P fn tmps):St P (results fn tmps):=by
 refine @aX _ _ _ _ _ _ _ _ (@Dt _ _ _ _ _ _ _ (λr=> ?_) _) λ_=>zq2
 cases r<;>exact zq2
def q8{P b e a f v w g i j}(h:doReturn P b e a f v w=SG i g j):
 g=w/\∀u,doReturn P b e a f v u=SG i u j:=by
 unfold doReturn at h;cases a with
 |cons c n=>
  grind [doReturn]
 |nil=>
  have m:∀(F:Sv->GStep),(∀u,F u=(if(!b)=true then(SG {frame:=e,callers:=[],status:= .finished,dying:=none} u:GStep)
   else match P.inits.idxOf? e.fn with|some k=>SG {frame:=Frame.enter P (P.initFrom (k+1)) #[] .normal,callers:=[],status:=SI,dying:=none} u|none=>Tb (.done v) u))->F w=SG i g j->g=w/\∀u,F u=SG i u j:=by
   grind
  cases l:e.kind<;>simp only[l]at h;case report=>
   cases f with
   |none=>cases h
   |some d=>cases v<;>first
    |(cases h;done)
    |(simp_all[doReturn])
  all_goals exact m (λu=>doReturn P b e [] f v u) λu=>by simp[doReturn,l];rfl (by simp only[doReturn,l];exact h)
def vo{P C a K d w L F H}(T:bz P)(I:an w)(h:Sy P C a K d w=SG F L H)(X:F.status=SI):
 ∃k m,jy (λw=>Sy P C a K d w) w F L H k m:=by
 unfold Sy at h;rcases kt h with⟨t,h⟩|⟨t,h⟩
 .cases h
 have S:=eH T.todY d.target d.args;rcases dx (P:=P) (s:=invoke d.target d.args) I #[]with⟨k,m,A,p⟩|⟨R,wx,q,E⟩
 rotate_left
 .exfalso;generalize (invoke d.target d.args).runT P w #[]=y at h q;have⟨r,Q⟩:=y;dsimp only at q;subst q;cases R;all_goals first
   |exact E.elim
   |(
    have⟨B,b,_⟩:=aZ h;first
     |(cases b;done)
     |(grind))
 have j:=p.tape;have i:=p.drawn;have l:=p.shift;clear p;have G:=cf S.st w #[] I;generalize hr:(invoke d.target d.args).runT P w #[]=x at h j i l G;have⟨r,Q⟩:=x;cases r with
 |ok n v=>
  cases n;all_goals dsimp only at h j i l
  case recover=>
   obtain⟨B,b,rfl⟩:=aZ h;refine⟨k,m,?_⟩;cases z:C.mode with
   |returning=>
    simp only[z]at b;cases q:tryRecover C a with
    |none=>
     simp only[q]at b;cases b;exact⟨A,j,i,λe f g=>by unfold Sy;rw[if_neg t];simp only[l e f g,cK,z,q];rfl⟩
    |some y=>
     simp only[q]at b;cases b;exact⟨A,j,i,λe f g=>by unfold Sy;rw[if_neg t];simp only[l e f g,cK,z,q];rfl⟩
   |run=>
    simp only[z]at b;cases b;exact⟨A,j,i,λe f g=>by unfold Sy;rw[if_neg t];simp only[l e f g,cK,z];rfl⟩
   |panicking c=>
    simp only[z]at b;cases b;exact⟨A,j,i,λe f g=>by unfold Sy;rw[if_neg t];simp only[l e f g,cK,z];rfl⟩
  case alone on u=>
   obtain⟨B,b,rfl⟩:=aZ h;cases on<;>cases b
  case coroswitch c Z=>
   obtain⟨B,b,rfl⟩:=aZ h;cases Z<;>cases b
  all_goals
   obtain⟨B,b,rfl⟩:=aZ h;first
    |(cases b;done)
    |(
     cases b;exact⟨k,m,A,j,i,λe f g=>by unfold Sy;rw[if_neg t];simp only[l e f g,cK];rfl⟩)
 |halt x v=>
  cases x;all_goals dsimp only at h j i l
  case fatal c=>
   obtain⟨B,b,rfl⟩:=aZ h;have⟨W,N,p⟩:=sX (w:=v) G b;have M:=p.le;have D:v.drawn=w.drawn+m:=i;refine⟨m+W,m+N,by omega,p.tape.trans j,p.drawn.trans (by rw[D,Su]),λe f g=> ?_⟩;unfold Sy;rw[if_neg t];simp only[l e f (g.le (by omega)),cK];refine(congrArg (SN _) (p.shift e (f+m) (Agree.tail (w:=w) (k:=m) g (by omega) j i))).trans ?_;rw[Su];rfl
  all_goals
   obtain⟨B,b,rfl⟩:=aZ h;first
    |(cases b;done)
    |(
     cases b;exact⟨k,m,A,j,i,λe f g=>by unfold Sy;rw[if_neg t];simp only[l e f g,cK];rfl⟩)
def vB{P D p f X w Q K N}(T:bz P)(R:an w)(h:unwind P D p f X w=SG K Q N)(hst:K.status=SI):
 ∃k m,jy (λw=>unwind P D p f X w) w K Q N k m:=by
 unfold unwind at h;cases B:p.defers with
 |cons d ds=>
  have⟨tg,ar⟩:=d;cases tg with
  |collected i=>
   simp only[B]at h;rcases dx (P:=P) (s:=SD i) R #[]with⟨k,m,I,n⟩|⟨W,wx,E,F⟩
   rotate_left
   exfalso;generalize (SD i).runT P w #[]=y at h E;have⟨r,e0⟩:=y;dsimp only at E;subst E;have⟨e2,j,_⟩:=aZ h<;>grind;have z:=n.tape;have C:=n.drawn;have A:=n.shift;clear n;generalize Z:(SD i).runT P w #[]=x at h z C A;have⟨r,e0⟩:=x;obtain⟨e2,j,rfl⟩:=aZ h;cases r with
   |ok a v=>
    dsimp only at j z C A;cases j;exact⟨k,m,I,z,C,λq t G=>by unfold unwind;simp only[B,A q t G,cK];rfl⟩
   |halt x v=>
    grind
  |_=>
   simp only[B]at h;have⟨k,m,l,a,b,c⟩:=vo T R h hst;exact⟨k,m,l,a,b,λq t G=>by unfold unwind;simp only[B];exact c q t G⟩
 |nil=>
  simp only[B]at h;cases H:p.mode with
  |run=>grind
  |panicking g=>
   simp only[H]at h;rcases kt h with⟨hc,h⟩|⟨hc,h⟩
   cases h;cases f with
   |cons c cs=>
    dsimp only at h;cases h;exact bT rfl rfl λq t=>by simp_all[if_neg,unwind]
   |nil=>
    cases X with
    |none=>
     dsimp only at h;rcases kt h with⟨L,h⟩|⟨L,h⟩
     grind
     rcases dx (P:=P) (s:=reportChain g false) R #[]with⟨k,m,I,n⟩|⟨W,wx,E,F⟩
     generalize Z:(reportChain g false).run P w=r at h;have⟨z,C,A⟩:=tD n Z;cases r with
     |ok a v=>
      cases h;exact⟨k,m,I,z,C,λq t G=>by unfold unwind;simp only[B,H];rw[if_neg hc,if_neg L,A q t G];rfl⟩
     |halt x v=>cases x<;>cases h
     grind [SR]
    |some dd=>
     dsimp only at h;have he:∀v:Value,endPrinting P p v w=SG K Q N->Q=w/\∀u,endPrinting P p v u=SG K u N:=by
      intro v h;unfold endPrinting at h;dsimp only at h;split at h<;>first |(rename_i hs;cases h;exact⟨rfl,λu=>by unfold endPrinting;dsimp only;rw[hs];rfl⟩)|cases h
     cases g with
     |nil=>cases h
     |cons e older=>
      have⟨v,rc,gx⟩:=e;cases gx with
      |true=>cases h
      |false=>
       have⟨rfl,M⟩:=he v h;exact bT rfl rfl λq t=>by unfold unwind;simp only[B,H];rw[if_neg hc];exact M _
  |returning=>
   simp only[H]at h;cases S:P.funcs[p.fn]? with
   |none=>
    simp only[S]at h;have⟨rfl,M⟩:=q8 h;exact bT rfl rfl λq t=>by unfold unwind;simp only[B,H,S];exact M _
   |some fn=>
    simp only[S]at h;rcases dx (P:=P) (s:=results fn p.tmps) R #[]with⟨k,m,I,n⟩|⟨W,wx,E,F⟩
    rotate_left
    exfalso;generalize (results fn p.tmps).runT P w #[]=y at h E;have⟨r,e0⟩:=y;dsimp only at E;subst E;have⟨e2,j,_⟩:=aZ h;cases W<;>first
     |exact F.elim
     |(dsimp only at j;cases j;done)
     |(cases j;done)
    have z:=n.tape;have C:=n.drawn;have A:=n.shift;clear n;generalize Z:(results fn p.tmps).runT P w #[]=x at h z C A;have⟨r,e0⟩:=x;obtain⟨e2,j,rfl⟩:=aZ h;cases r with
    |ok a v=>
     dsimp only at j z C A;have⟨rfl,M⟩:=q8 j;exact⟨k,m,I,z,C,λq t G=>by unfold unwind;simp only[B,H,S,A q t G,cK,M];rfl⟩
    |halt x v=>
     exfalso;cases x<;>dsimp only at j<;>cases j
def A9{p j P Q s}{f:p->Sem j}(hs:l6 P s)(g:Leaf P Q s)(l:∀a,Q a->l6 P (f a)):l6 P (s>>=f):=by
 induction s with
 |pure a=>exact l a g
 |halt h=>trivial
 |load m a k b=>exactλv=>b v (hs v) (g v)
 |store m a v k b=>exact b hs g
 |new o k b=>exact⟨hs.1,λv=>b v (hs.2 v) (g v)⟩
 |shape r k b=>exactλv=>b v (hs v) (g v)
 |freeze a n k b=>exact b hs g
 |frozen a k b=>exactλv=>b v (hs v) (g v)
 |getObj r k b=>exact⟨λv i=>b v (hs.1 v i) (g v i),ve hs.2⟩
 |setObj r o k b=>exact⟨hs.1,b hs.2 g⟩
 |choose q k b=>exactλv=>b v (hs v) (g v)
 |sys c k b=>exact⟨let⟨h,e,d⟩:=hs.1;⟨h,(congrArg (λx=>SJ x f) e).trans rfl,d⟩,λv=>b v (hs.2 v) (g v)⟩
 |program k b=>exact b P hs g
 |mark m k b=>exact⟨hs.1,b hs.2 g⟩
theorem ga{P}(a c t l):St P (do SH l (<- resolve a c t);pure Next.skip):=
 ⟨A9 (Cr a c t).st (iY a c t) λd b=>(@aX _ _ _ _ _ _ _ _ (kl P l d b) λ_=>zq2).st⟩
def jM:Item->Prop
 | .call _ _ _ _=>False
 | .extern r _=>r=printRow
 | .code c=>cT c=true
 | .inLoop b=>cT b=true
 | .inScope b=>cT b=true
 | .inRegion a d=>∀i∈d,∀o,a[i]?=some o->Lf o.op=true
 |_=>True
def ws{id a draw}(h:cT (.region id a draw)=true)(b):jM (.inRegion a b):=λi _ o c=>by
 grind [cT]
def dg(a:Frame):Prop:=(∀b∈a.todo,jM b)/\∀d∈a.defers,oK d
def nk:Extern.next printRow=some (Extern.PrintPieces.piece #[] #[]):=by rfl
def JN{P f e i w p j n}(T:bz P)(y:an w)(r:j.status=SI)(h:stepG.oper P true f e i w=SG j p n):
 ∃k m,jy (λw=>stepG.oper P true f e i w) w j p n k m:=by
 unfold stepG.oper at h;cases q:f.oper? with
 |none=>rw[q]at h;cases h
 |some o=>
  simp[q]at h;suffices H:∀s:Sem Next,St P s->stepG.apply P true f e i s w=SG j p n->(∀u,stepG.oper P true f e i u=stepG.apply P true f e i s u)->∃k m,jy (λw=>stepG.oper P true f e i w) w j p n k m by
   cases t:f.roundOf with
   |none=>
    simp[t]at h;exact H _ (by first |exact gY T.todY .. |exact ga ..) h λu=>by simp_all[stepG.oper]
   |some l=>
    cases g:o.op with
    |defer c=>
     simp[t,g]at h;exact H _ (by first |exact gY T.todY .. |exact ga ..) h λu=>by simp_all[stepG.oper]
    |_=>
     simp[g]at h;exact H _ (by first |exact gY T.todY ..) h λu=>by simp[stepG.oper,q,g]
  intro s x A v;have⟨k,m,l,a,b,c⟩:=pw (hs:=x) y A r;exact⟨k,m,l,a,b,λB d z=>(v _).trans (c B d z)⟩
def oR{P main fr callers C l jump w i f q F}
 (p:∀u,F u=SN (seen P fr.fn ((Sz l jump).runT P u #[]).2) (match((Sz l jump).runT P u #[]).1 with
  |U6 v w=>doReturn P main fr callers C v w
  |SK _ w=>Tb (.stuck "range over a function: no such loop" (fr.pos P)) w)) (b:∀c,jump=some c->cT c=true) (A:an w) (h:F w=SG f i q):
 ∃k m,jy F w f i q k m:=by
 rw[p]at h;rcases dx (P:=P) (s:=Sz l jump) (hs:=jx P l jump b) A #[]with⟨k,m,z,d⟩|⟨L,K,B,t⟩
 rotate_left
 have⟨E,n,_⟩:=aZ h<;>grind;have e:=d.tape;have j:=d.drawn;have g:=d.shift;generalize B:(Sz l jump).runT P w #[]=x at h e j g;have⟨r,I⟩:=x;obtain⟨E,n,rfl⟩:=aZ h;cases r with
 |ok a v=>
  have⟨rfl,G⟩:=q8 n;exact⟨k,m,z,e,j,λH D y=>by simp only[p,g H D y,cK,G];rfl⟩
 |halt x v=>grind
def Kj{P n j g I w w' g' es}(T:bz P)(K:an w)(hj:dg j)(Q:g'.status=SI)(h:stepG.exec P n true j g I w=SG g' w' es):
 ∃k m,jy (λw=>stepG.exec P n true j g I w) w g' w' es k m:=by
 cases p:j.todo with
 |nil=>
  unfold stepG.exec at h;simp only[p]at h;cases E:j.roundOf with
  |none=>
   simp only[E]at h;cases h;exact bT rfl rfl λA B=>by simp_all[stepG.exec]
  |some l=>
   simp only[E]at h;exact oR (P:=P) (main:=n) (fr:=j) (callers:=g) (F:=λw=>stepG.exec P n true j g I w) (jump:=none) (l:=l) λu=>by unfold stepG.exec;simp only[p,E];rfl nofun K (by simp_all[stepG.exec])
 |cons it rest=>
  cases it with
  |code c=>
   cases c with
   |skip=>
    unfold stepG.exec at h;simp only[p]at h;cases h;exact bT rfl rfl λA B=>by simp_all[stepG.exec]
   |label l=>
    unfold stepG.exec at h;simp only[p]at h;cases h;exact bT rfl rfl λA B=>by simp_all[stepG.exec]
   |seq a b=>
    unfold stepG.exec at h;simp only[p]at h;cases h;exact bT rfl rfl λA B=>by simp_all[stepG.exec]
   |block C z=>
    unfold stepG.exec at h;simp only[p]at h;cases h;exact bT rfl rfl λA B=>by simp_all[stepG.exec]
   |loop z=>
    unfold stepG.exec at h;simp only[p]at h;cases h;exact bT rfl rfl λA B=>by simp_all[stepG.exec]
   |scope z=>
    unfold stepG.exec at h;simp only[p]at h;cases h;exact bT rfl rfl λA B=>by simp_all[stepG.exec]
   |refuse why=>
    simp_all[stepG.exec,h]
   |cond c thn els=>
    unfold stepG.exec at h;simp only[p]at h;cases hv:j.eval c;case bool b=>
     simp only[hv]at h;cases h;exact bT rfl rfl λA B=>by simp_all[stepG.exec]
    all_goals
     simp only[hv]at h;cases h
   |ret=>
    unfold stepG.exec at h;simp only[p]at h;cases E:j.roundOf with
    |none=>
     simp only[E]at h;cases h;exact bT rfl rfl λA B=>by simp_all[stepG.exec]
    |some l=>
     simp only[E]at h;exact oR (P:=P) (main:=n) (fr:=j) (callers:=g) (F:=λw=>stepG.exec P n true j g I w) (jump:=some .ret) (l:=l) λu=>by unfold stepG.exec;simp only[p,E];rfl (by rintro c hc;cases hc;rfl) K (by simp_all[stepG.exec])
   |exit C=>
    unfold stepG.exec at h;simp only[p]at h;cases H:exitTo C rest with
    |some k=>
     simp only[H,Sw]at h;cases h;exact bT rfl rfl λA B=>by simp_all[Sw,stepG.exec]
    |none=>
     simp only[H,Sw]at h;cases E:j.roundOf with
     |none=>
      grind
     |some l=>
      simp only[E]at h;exact oR (P:=P) (main:=n) (fr:=j) (callers:=g) (F:=λw=>stepG.exec P n true j g I w) (jump:=some (.exit C)) (l:=l) λu=>by unfold stepG.exec;simp only[p,E,H,Sw];rfl (by rintro c hc;cases hc;rfl) K (by simp_all[Sw,stepG.exec])
   |goto C=>
    unfold stepG.exec at h;simp only[p]at h;cases H:gotoIn C rest with
    |some k=>
     simp only[H,Sw]at h;cases h;exact bT rfl rfl λA B=>by simp_all[Sw,stepG.exec]
    |none=>
     simp only[H,Sw]at h;cases E:j.roundOf with
     |none=>
      grind
     |some l=>
      simp only[E]at h;exact oR (P:=P) (main:=n) (fr:=j) (callers:=g) (F:=λw=>stepG.exec P n true j g I w) (jump:=some (.goto C)) (l:=l) λu=>by unfold stepG.exec;simp only[p,E,H,Sw];rfl (by rintro c hc;cases hc;rfl) K (by simp_all[Sw,stepG.exec])
   |rangeFunc f t q z=>
    unfold stepG.exec at h;simp only[p]at h;have R:cT q=true/\cT z=true:=by
     have:=hj.1 (.code (.rangeFunc f t q z)) (by rw[p];simp);simpa[jM,cT]using this
    have hH:=cf (cP P j.fn j.tmps t q z j.roundOf R.1 R.2).st w #[] K;rcases dx (P:=P) (s:=SF j.fn j.tmps t q z j.roundOf) (hs:=cP P j.fn j.tmps t q z j.roundOf R.1 R.2) K #[]with⟨k,m,hk,W⟩|⟨x0,wx,N,hdd⟩
    rotate_left
    exfalso;generalize (SF j.fn j.tmps t q z j.roundOf).runT P w #[]=y at h N;have⟨r,e0⟩:=y;dsimp only at N;subst N;have⟨e2,G,_⟩:=aZ h<;>grind;have L:=W.tape;have S:=W.drawn;have M:=W.shift;clear W;generalize N:(SF j.fn j.tmps t q z j.roundOf).runT P w #[]=x at h L S M hH;have⟨r,e0⟩:=x;obtain⟨e2,G,rfl⟩:=aZ h;cases r with
    |halt x v=>grind
    |ok a v=>
     have⟨l,mark⟩:=a;dsimp only at G L S M;have⟨k2,m2,l2,a2,b2,c2⟩:=pw (hs:= @aX _ _ _ _ _ _ _ _ zq2 λd=>eH T.todY ..) hH G Q;refine⟨m+k2,m+m2,by omega,a2.trans L,by rw[b2,<- Su];grind,λA B D=> ?_⟩;unfold stepG.exec;simp only[p,M A B (D.le (by omega)),cK];have:=c2 A (B+m) (Agree.tail (w:=w) (k:=m) D (by omega) L S);dsimp only[dh]at this;rw[this,<- Su];rfl
   |region C ops draw=>
    unfold stepG.exec at h;simp only[p]at h;cases draw with
    |false=>
     simp only[Bool.not_false,if_true]at h;cases h;exact bT rfl rfl λA B=>by unfold stepG.exec;simp only[p,Bool.not_false,if_true]
    |true=>
     have ch0:∀v:Sv,(choose (.order j.fn C)).run P v=U6 ((Question.order j.fn C).cut (v.tape v.drawn (.order j.fn C))) (ah v v.tape (v.drawn+1)):=λv=>by
      simp only[choose,Sem.run,Question.forced];rfl
     simp only[Tm,SE,if_false,ch0]at h;cases h;refine⟨1,1,SM _,rfl,rfl,λA B D=> ?_⟩;have hc:A B (.order j.fn C)=w.tape w.drawn (.order j.fn C):=D 0 (by omega) _;unfold stepG.exec;simp only[p,Tm,SE,if_false,ch0,AL,yv,hc];rfl
  |inBlock C=>
   unfold stepG.exec at h;simp only[p]at h;cases h;exact bT rfl rfl λA B=>by unfold stepG.exec;simp only[p]
  |inScope C=>
   unfold stepG.exec at h;simp only[p]at h;cases h;exact bT rfl rfl λA B=>by unfold stepG.exec;simp only[p]
  |inLoop C=>
   unfold stepG.exec at h;simp only[p]at h;cases h;exact bT rfl rfl λA B=>by unfold stepG.exec;simp only[p]
  |inRangeFunc C=>
   unfold stepG.exec at h;simp only[p]at h;cases h
  |beginRound=>
   have Z:∀u,stepG.exec P n true j g I u=stepG.apply P true j g I (do j.roundOf.elim (stuck "beginRound: no round") SQ;pure .skip) u:=λu=>by unfold stepG.exec;simp only[p]
   rw[Z]at h;have⟨k,m,l,a,b,c⟩:=pw (hs:= @aX _ _ _ _ _ _ _ _ (by cases j.roundOf with |none=>exact qN P _|some l=>exact dR P l) λ_=>zq2) K h Q;exact⟨k,m,l,a,b,λA d D=>(Z _).trans (c A d D)⟩
  |call d a b c=>exact(hj.1 (.call d a b c) (by rw[p];exact Tt ..)).elim
  |extern row X=>
   cases H:Extern.next row with
   |none=>
    unfold stepG.exec at h;simp only[p,H,Sw]at h;cases h
   |some e=>
    have Z:∀u,stepG.exec P n true j g I u=stepG.apply P true j g I (e X) u:=λu=>by unfold stepG.exec;simp only[p,H,Sw]
    rw[Z]at h;have hrow:row=printRow:=hj.1 (.extern row X) (by rw[p];exact Tt ..);subst hrow;rw[nk]at H;cases H;have⟨k,m,l,a,b,c⟩:=pw (hs:=lj P ..) K h Q;exact⟨k,m,l,a,b,λA d D=>(Z _).trans (c A d D)⟩
  |endRangeFunc l=>
   unfold stepG.exec at h;simp only[p]at h;rcases dx (P:=P) (s:=SO l) K #[]with⟨k,m,hk,W⟩|⟨x0,wx,N,hdd⟩
   rotate_left
   exfalso;generalize (SO l).runT P w #[]=y at h N;have⟨r,e0⟩:=y;dsimp only at N;subst N;have⟨e2,G,_⟩:=aZ h;cases x0<;>first
    |exact hdd.elim
    |(dsimp only at G;cases G;done)
    |(cases G;done)
   have L:=W.tape;have S:=W.drawn;have M:=W.shift;clear W;generalize N:(SO l).runT P w #[]=x at h L S M;have⟨r,e0⟩:=x;obtain⟨e2,G,rfl⟩:=aZ h;cases r with
   |ok a v=>
    dsimp only at G L S M;cases G;exact⟨k,m,hk,L,S,λA B D=>by unfold stepG.exec;simp only[p,M A B D,cK];rfl⟩
   |halt x v=>
    cases x<;>dsimp only at G L S M<;>cases G;exact⟨k,m,hk,L,S,λA B D=>by unfold stepG.exec;simp only[p,M A B D,cK];rfl⟩
  |inRegion ops todo=>
   cases todo with
   |nil=>
    unfold stepG.exec at h;simp only[p]at h;cases h;exact bT rfl rfl λA B=>by unfold stepG.exec;simp only[p]
   |cons i is=>
    cases hwn:(ops[i]?.map (Region.wanted · (yielded ops j.tmps))).getD false with
    |true=>
     have Z:∀u,stepG.exec P n true j g I u=stepG.oper P true j g I u:=λu=>by unfold stepG.exec;simp only[p,hwn,if_true]
     rw[Z]at h;have⟨k,m,l,a,b,c⟩:=JN T K Q h;exact⟨k,m,l,a,b,λA d D=>(Z _).trans (c A d D)⟩
    |false=>
     unfold stepG.exec at h;simp only[p,hwn,SE,if_false]at h;cases h;exact bT rfl rfl λA B=>by unfold stepG.exec;simp only[p,hwn,SE,if_false]
def wV{P d v w c b a}(h:endPrinting P d v w=SG b c a):c=w/\∀u,endPrinting P d v u=SG b u a:=by
 simp only[endPrinting]at h;split at h;rename_i e;cases h;exact⟨rfl,λu=>by simp only[endPrinting,e];rfl⟩;cases h
def Cf{P l d f w j i c}(D:an w)(E:i.status=SI)(h:writeOn P l d f w=SG i j c):
 ∃k m,jy (λw=>writeOn P l d f w) w i j c k m:=by
 unfold writeOn at h;cases p:f.pieces with
 |nil=>rw[p]at h;cases h
 |cons t g=>
  rw[p]at h;dsimp only at h;have H:∀(s:Sem Unit)(F:Sv->GStep),St P s->(∀w,F w=(match s.runT P w #[]with
   |(U6 _ w,c)=>SG {frame:=l,callers:=[],status:=SI,dying:=some {d with fatal:=some {f with pieces:=g,begun:=true}}} w c
   |(SK Tk w,_)=>SG {frame:=l,callers:=[],status:= .blocked,dying:=some {d with fatal:=some f}} w #[]
   |(SK (SC u) w,_)=>Tb (.unsupported u "") w
   |(SK _ w,_)=>Tb (.stuck "the report of a fatal error" "") w))->F w=SG i j c->∃k m,jy F w i j c k m:=by
   intro s F L B h;rw[B]at h;rcases dx (P:=P) (s:=s) D #[]with⟨k,m,G,y⟩|⟨N,M,R,K⟩
   have z:=y.tape;have A:=y.drawn;have q:=y.shift;generalize Q:s.runT P w #[]=x at h z A q;have⟨r,S⟩:=x;cases r with
   |ok a v=>
    cases h;exact⟨k,m,G,z,A,λC d I=>by rw[B];dsimp only at q;rw[q C d I];rfl⟩
   |halt x v=>cases x<;>first |(cases h;done)|(grind)
   grind
  refine H _ _ ?_ λu=>by unfold writeOn;rw[p];rfl (by unfold writeOn;rw[p];exact h)
  have e:∀b:ByteArray,St P (do
   match<- sys (.write 2 b)with
   | .int n=>if n !=b.size then unsupported (TF "a report that its descriptor cannot take whole")
   | .err _=>pure ()
   |_=>unsupported (TF "a report that its descriptor cannot take whole"):Sem Unit):=by
   intro b;refine⟨⟨⟨_,rfl,trivial⟩,λv=> ?_⟩⟩;cases v<;>first
    |trivial
    |(
     show l6 P (if _ then _ else _);split <;>trivial)
  repeat' (first
   |exact zq2
   |exact e _
   |(refine @aX _ _ _ _ _ _ _ _ ?_ λ_=> ?_)
   |(refine @vI _ _ _ _ _ _ _ _ _ ?_ ?_)
   |split
   |(intro _)
   |dsimp only)
def Dg{w a b t o c d}(h:endWith w b t o=SG c a d):False:=by
 unfold endWith at h;grind
def MD{P Q d w W K S}(T:bz P)(L:an w)(M:K.status=SI)(h:die P Q d w=SG K W S):
 ∃k m,jy (λw=>die P Q d w) w K W S k m:=by
 unfold die at h;cases E:d.fatal with
 |some f=>
  rw[E]at h;have⟨k,m,l,a,b,c⟩:=Cf L M h;exact⟨k,m,l,a,b,λp j y=>by simp_all[die]⟩
 |none=>
  rw[E]at h;dsimp only at h;cases C:d.todo with
  |nil=>
   rw[C]at h;dsimp only at h;rcases kt h with⟨hc,h⟩|⟨hc,h⟩<;>first |grind|exact(Dg h).elim
  |cons e rest=>
   have⟨v,N⟩:=e;rw[C]at h;dsimp only at h;cases z:panicText P false v with
   |text s=>
    rw[z]at h;cases h;exact bT rfl rfl λp j=>by simp_all[die]
   |no u=>rw[z]at h;cases h
   |address s=>
    rw[z]at h;dsimp only at h;rcases dx (P:=P) (s:=withAddress s) L #[]with⟨k,m,F,G⟩|⟨X,wx,I,H⟩
    generalize Z:(withAddress s).run P w=r at h;have⟨B,D,A⟩:=tD G Z;cases r with
    |ok a u=>
     cases h;exact⟨k,m,F,B,D,λp j y=>by unfold die;rw[E,C];dsimp only;rw[z];dsimp only;rw[A p j y];rfl⟩
    |halt x u=>cases h
    simp_all
   |call t g i=>
    rw[z]at h;dsimp only at h;have hs:=eH T.todY (.fn (.method i) #[]) #[.iface t g];rcases dx (P:=P) (s:=invoke (.fn (.method i) #[]) #[.iface t g]) L #[]with⟨k,m,F,G⟩|⟨X,wx,I,H⟩
    have B:=G.tape;have D:=G.drawn;have A:=G.shift;generalize Z:(invoke (.fn (.method i) #[]) #[.iface t g]).runT P w #[]=x at h B D A;have⟨r,e0⟩:=x;dsimp only at A;obtain⟨e2,q,rfl⟩:=aZ h;cases r with
    |ok n u=>
     cases n;case enter f R=>
      cases q;exact⟨k,m,F,B,D,λp j y=>by unfold die;rw[E,C];dsimp only;rw[z];dsimp only;rw[A p j y];rfl⟩
     case value v2=>
      cases v2;case string s=>
       cases q;exact⟨k,m,F,B,D,λp j y=>by unfold die;rw[E,C];dsimp only;rw[z];dsimp only;rw[A p j y];rfl⟩
      all_goals cases q
     all_goals cases q
    |halt x u=>
     cases x;case panic pv=>
      have⟨rfl,hU⟩:=wV q;exact⟨k,m,F,B,D,λp j y=>by unfold die;rw[E,C];dsimp only;rw[z];dsimp only;rw[A p j y];exact congrArg (SN _) (hU _)⟩
     all_goals cases q
    exfalso;generalize (invoke (.fn (.method i) #[]) #[.iface t g]).runT P w #[]=x at h I;have⟨r,e0⟩:=x;dsimp only at I;subst I;have⟨e2,q,_⟩:=aZ h;cases X<;>first
     |exact H.elim
     |(cases q;done)
def Gm{P n g w E C F}(T:bz P)(A:an w)(H:(∀d,g.dying=some d->d.calling=true)->dg g.frame)(s:C.status=SI)(h:stepG P n g w=SG C E F):
 ∃k m,jy (λw=>stepG P n g w) w C E F k m:=by
 have⟨t,x,B,q,r⟩:=g;have p:(∀d,q=some d->d.calling=true)->∃k m,jy (λw=>stepG P n ⟨t,x,B,q,r⟩ w) w C E F k m:=by
  intro K;cases L:t.mode with
  |run=>
   have v:∀u,stepG P n ⟨t,x,B,q,r⟩ u=stepG.exec P n true t x q u:=λu=>by
    unfold stepG;grind
   rw[v]at h;have⟨k,m,l,a,b,c⟩:=Kj T A (H K) s h;exact⟨k,m,l,a,b,λy d z=>(v _).trans (c y d z)⟩
  |returning=>
   have v:∀u,stepG P n ⟨t,x,B,q,r⟩ u=unwind P n t x q u:=λu=>by
    unfold stepG;grind
   rw[v]at h;have⟨k,m,l,a,b,c⟩:=vB T A h s;exact⟨k,m,l,a,b,λy d z=>(v _).trans (c y d z)⟩
  |panicking D=>
   have v:∀u,stepG P n ⟨t,x,B,q,r⟩ u=unwind P n t x q u:=λu=>by
    unfold stepG;grind
   rw[v]at h;have⟨k,m,l,a,b,c⟩:=vB T A h s;exact⟨k,m,l,a,b,λy d z=>(v _).trans (c y d z)⟩
 cases q with
 |none=>exact p λd G=>by cases G
 |some d=>
  cases I:d.calling with
  |true=>exact p λM G=>by grind
  |false=>
   have⟨a,b,c,e,f,i,j⟩:=d;subst I;exact MD (P:=P) T A s h
end
end Go.Proofs.YtkgohmcmmcpigabGreatDoor
