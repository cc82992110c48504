/- A part of the proof that Compiles holds; no condition. -/
import GoSem.Step
import Derived.StepT
import Derived.Laws.Sem
import Derived.Conc.Deaf
import Derived.Control
set_option linter.unusedSectionVars false
set_option linter.unusedSimpArgs false
set_option linter.unusedVariables false
namespace Go.Proofs.YtkgohmcmmcpigaaGreatDoor
open Go
open Go renaming Program->AI,World->AS,Value->By,Goroutine->If,Question->IS,Event->IT,Frame->PD,callDeferred->PG,TypeId->PJ,runtimePanic->Q3,Deferred->Q6,Operand->Q9,execOp->Qi,FuncId->Qj,callFunc->Qs
open Go.Sem renaming runT->AT,bind->PP,runT_fst->PX
open _root_.Nat renaming add_assoc->BY,le_refl->PV,one_pos->Qc
open _root_.Bool renaming false_eq_true->IN,not_true->Qg
open Go.Instr renaming endRound->No,takeDeferred->PL,deferInRound->PM,enterLoop->PN,beginRound->PR,endLoop->PU,getLoop->Q8,yield->Qd,makeInterface->Qh,sliceBounds->Qn,typeAssert->Qp,sliceBound->Qq,buildSlice->Qr,sureAddr->Qy,makeFunc->Qz
open _root_.Option renaming elim->OF
open _root_.Array renaming mapM_eq_mapM_toList->PE
open Go.Builtin renaming printMarked->PK,unsafeAdd_->Qk,holdsCells->Ql,firstCells->Qm,mayShare->Qt,append_->Qx,close_->QB,lenOf->QN,min_->QW,min2->QX,len_->QY
open Go.Result renaming ok->PO
open Go.GStep renaming after->PW
open _root_.List renaming mapM_cons->PY,mapM_nil->PZ,mem_cons_self->Q7
open Go.Deferred renaming ofValue->Q2
open Go.World renaming farStore->Q4,freeze->Qa,viewStore->Qb
open Go.Kernel renaming perform->Q5
open Go.Extern renaming find->Qe,findNext->Qv
open Go.Question renaming early->Qf,forced->Qu
open Go.Conv renaming floatToFloat->Qo,floatToInt->Qw
section
theorem zq0:(∀(α:Type)(l:List α)(i:Nat)(v:α),l.toArray.setIfInBounds i v=(l.set i v).toArray)∧(∀(α:Type)(x y:α)(l:List α),(x::l).set 0 y=y::l)∧(∀(α:Type)(x y:α)(l:List α)(i:Nat),(x::l).set (i+1) y=x::l.set i y):=⟨fun _ l i v=>by simp,fun _ _ _ _=>rfl,fun _ _ _ _ _=>rfl⟩
theorem zq1 {α:Type}:(∀(x:α)(l:List α)(i:Nat),(x::l).drop (i+1)=l.drop i)∧(∀(l:List α),l.drop 0=l)∧(∀(x:α)(l:List α)(i:Nat),(x::l).take (i+1)=x::l.take i)∧(∀(l:List α),l.take 0=[]):=⟨fun _ _ _=>rfl,fun _=>rfl,fun _ _ _=>rfl,fun _=>rfl⟩
abbrev zq2.{u}:=@inferInstance.{u}
theorem q8{α β γ:Type}(s:Sem α)(f:α→Sem β)(g:β→Sem γ):(s.bind f).bind g=s.bind fun a=>(f a).bind g:=by
 induction s<;>simp only[PP, *]
theorem yr{α:Type}(s:Sem α):s.bind Sem.pure=s:=by
 induction s<;>simp only[PP, *]
instance MO:LawfulMonad Sem:=LawfulMonad.mk' Sem (fun x=>yr x) (fun _ _=>rfl) (fun x f g=>q8 x f g)
def swap(Q:AI)(φ:Nat→Func→Func):AI:= {Q with funcs:=Q.funcs.mapIdx φ}
section
variable{Q:AI}{φ:Nat→Func→Func}
theorem bp:(swap Q φ).toTables=Q.toTables:=rfl
theorem bZ:(swap Q φ).underlying=Q.underlying:=rfl
theorem jh:(swap Q φ).depth=Q.depth:=rfl
theorem eV:(swap Q φ).cellsOf=Q.cellsOf:=rfl
theorem eW:(swap Q φ).bytesOf=Q.bytesOf:=rfl
theorem fY:(swap Q φ).underlyingId=Q.underlyingId:=rfl
theorem ug:(swap Q φ).alikeButTags=Q.alikeButTags:=by
 funext d;induction d with
 |zero=>rfl
 |succ d ih=>funext t o;simp only[Program.alikeButTags,ih,bp,bZ,fY]<;>try rfl
theorem rI:(swap Q φ).ownRow=Q.ownRow:=by
 funext t;unfold Program.ownRow;simp only[bp,bZ,fY]<;>try rfl
theorem nS:(swap Q φ).stoodInAs=Q.stoodInAs:=by
 funext t;unfold Program.stoodInAs;simp only[ug,jh,bp,bZ,rI,fY]<;>try rfl
theorem qv:(swap Q φ).stoodIn=Q.stoodIn:=by
 funext t;unfold Program.stoodIn;simp only[nS]<;>try rfl
theorem gX:(swap Q φ).stoodInHeld=Q.stoodInHeld:=by
 funext t;unfold Program.stoodInHeld;simp only[bp,qv,nS,fY,bZ]<;>try rfl
theorem tD:(swap Q φ).packedAs=Q.packedAs:=by
 funext t;unfold Program.packedAs;simp only[ug,jh,bp,bZ,rI,fY]<;>try rfl
theorem gp:(swap Q φ).packed=Q.packed:=by
 funext t;unfold Program.packed;simp only[tD]<;>try rfl
theorem ky:(swap Q φ).heldOrPacked=Q.heldOrPacked:=by
 funext t;unfold Program.heldOrPacked;simp only[gp,gX]<;>try rfl
theorem Hx:(swap Q φ).bearsPack=Q.bearsPack:=by
 unfold Program.bearsPack;simp only[bp,rI]<;>try rfl
theorem EX:typeHandle (swap Q φ)=typeHandle Q:=rfl
theorem yi:handleType (swap Q φ)=handleType Q:=rfl
theorem Lz:finalizerTable (swap Q φ)=finalizerTable Q:=rfl
theorem zc:printLock (swap Q φ)=printLock Q:=rfl
theorem Hw:cleanupTable (swap Q φ)=cleanupTable Q:=rfl
theorem gm:byteOfCell (swap Q φ)=byteOfCell Q:=by
 funext d;induction d with
 |zero=>rfl
 |succ d ih=>funext t o;simp only[byteOfCell,ih,bp,bZ,eV,eW]<;>try rfl
theorem gY:cellHolding (swap Q φ)=cellHolding Q:=by
 funext d;induction d with
 |zero=>rfl
 |succ d ih=>funext t o;simp only[cellHolding,ih,bp,bZ,eV,eW]<;>try rfl
theorem jg:plainCell (swap Q φ)=plainCell Q:=by
 funext d;induction d with
 |zero=>rfl
 |succ d ih=>funext t o;simp only[plainCell,ih,bp,bZ,eV,eW]<;>try rfl
theorem qu:tight (swap Q φ)=tight Q:=by
 funext d;induction d with
 |zero=>rfl
 |succ d ih=>funext t;simp only[tight,ih,bp,bZ,eV,eW]<;>try rfl
theorem rH:seenCells (swap Q φ)=seenCells Q:=by
 funext c e d;induction d with
 |zero=>rfl
 |succ d ih=>funext t o;simp only[seenCells,ih,bp,bZ,eV,eW,gY,jh,jg,gm]<;>try rfl
theorem wG(w:AS):w.seen (swap Q φ)=w.seen Q:=by
 funext a u k b;unfold World.seen;simp only[rH,bp,bZ,eV,eW,jh,qu,jg,gm,gY]<;>try rfl
theorem tB(w:AS):w.viewLoad (swap Q φ)=w.viewLoad Q:=by
 funext a u k b;unfold World.viewLoad;simp only[wG,bp,bZ,eV,eW,jh,qu,jg,gm,gY]<;>try rfl
theorem rG(w:AS):w.viewStore (swap Q φ)=w.viewStore Q:=by
 funext a u k v b;unfold Qb;simp only[wG,bp,bZ,eV,eW,jh,qu,jg,gm,gY]<;>try rfl
theorem uV(w:AS):w.farLoad (swap Q φ)=w.farLoad Q:=by
 funext a b;unfold World.farLoad;simp only[tB]<;>try rfl
theorem tE(w:AS):w.farStore (swap Q φ)=w.farStore Q:=by
 funext a v b;unfold Q4;simp only[rG]<;>try rfl
theorem uU:(swap Q φ).holdsStoodIn=Q.holdsStoodIn:=by
 funext d;induction d with
 |zero=>rfl
 |succ d ih=>funext t;simp only[Program.holdsStoodIn,ih,bp,bZ,fY,qv,gX]<;>try rfl
theorem wI:(swap Q φ).holdsPacked=Q.holdsPacked:=by
 funext d;induction d with
 |zero=>rfl
 |succ d ih=>funext t;simp only[Program.holdsPacked,ih,bp,bZ,fY,ky,gp]<;>try rfl
theorem j4:(swap Q φ).mayEmbedAPacks=Q.mayEmbedAPacks:=by
 funext d;unfold Program.mayEmbedAPacks;simp only[bp,bZ,fY,ky,gp,rI]<;>try rfl
theorem wH:(swap Q φ).namesPacked=Q.namesPacked:=by
 funext d;induction d with
 |zero=>rfl
 |succ d ih=>funext t;simp only[Program.namesPacked,ih,bp,bZ,fY,ky,gp,j4]<;>try rfl
theorem zd:(swap Q φ).methodsOfAPack=Q.methodsOfAPack:=by
 funext d;induction d with
 |zero=>rfl
 |succ d ih=>funext t;simp only[Program.methodsOfAPack,ih,bp,bZ,fY,ky,gp,j4]<;>try rfl
theorem r6:sameLayout (swap Q φ)=sameLayout Q:=by
 funext d;induction d with
 |zero=>rfl
 |succ d ih=>funext t u;simp only[sameLayout,ih,gX,bp,bZ,fY,ky,gp,j4,eW,eV]<;>try rfl
theorem zb:rowAt (swap Q φ)=rowAt Q:=by
 funext f d;induction d with
 |zero=>rfl
 |succ d ih=>funext t u v w;simp only[rowAt,ih,gX,bp,bZ,fY,ky,gp,j4,eW,eV]<;>try rfl
theorem EW:liesAt (swap Q φ)=liesAt Q:=by
 funext d;induction d with
 |zero=>rfl
 |succ d ih=>funext t u v w x;simp only[liesAt,ih,zb,r6,jh,bp,bZ]<;>try rfl
theorem r7:cellOfByte (swap Q φ)=cellOfByte Q:=by
 funext d;induction d with
 |zero=>rfl
 |succ d ih=>funext t u;simp only[cellOfByte,ih,bp,bZ,fY,ky,gp,j4,eW,eV]<;>try rfl
theorem wK:cellAtBytes (swap Q φ)=cellAtBytes Q:=by
 funext d e c o b;unfold cellAtBytes;simp only[r7,gm,bp,bZ,eW,eV]<;>try rfl
theorem wJ:(swap Q φ).eqGuardType=Q.eqGuardType:=by
 funext d;induction d with
 |zero=>rfl
 |succ d ih=>funext t;simp only[Program.eqGuardType,ih,bp,bZ,fY]<;>try rfl
theorem kQ:(swap Q φ).toTables=Q.toTables∧(swap Q φ).underlying=Q.underlying∧(swap Q φ).depth=Q.depth∧(swap Q φ).cellsOf=Q.cellsOf∧(swap Q φ).bytesOf=Q.bytesOf∧(swap Q φ).underlyingId=Q.underlyingId∧(swap Q φ).alikeButTags=Q.alikeButTags∧(swap Q φ).ownRow=Q.ownRow∧(swap Q φ).stoodInAs=Q.stoodInAs∧(swap Q φ).stoodIn=Q.stoodIn∧(swap Q φ).stoodInHeld=Q.stoodInHeld∧(swap Q φ).packedAs=Q.packedAs∧(swap Q φ).packed=Q.packed∧(swap Q φ).heldOrPacked=Q.heldOrPacked∧(swap Q φ).bearsPack=Q.bearsPack∧typeHandle (swap Q φ)=typeHandle Q∧handleType (swap Q φ)=handleType Q∧finalizerTable (swap Q φ)=finalizerTable Q∧printLock (swap Q φ)=printLock Q∧cleanupTable (swap Q φ)=cleanupTable Q∧byteOfCell (swap Q φ)=byteOfCell Q∧cellHolding (swap Q φ)=cellHolding Q∧plainCell (swap Q φ)=plainCell Q∧tight (swap Q φ)=tight Q∧seenCells (swap Q φ)=seenCells Q∧(∀w:AS,w.seen (swap Q φ)=w.seen Q)∧(∀w:AS,w.viewLoad (swap Q φ)=w.viewLoad Q)∧(∀w:AS,w.viewStore (swap Q φ)=w.viewStore Q)∧(∀w:AS,w.farLoad (swap Q φ)=w.farLoad Q)∧(∀w:AS,w.farStore (swap Q φ)=w.farStore Q)∧(swap Q φ).holdsStoodIn=Q.holdsStoodIn∧(swap Q φ).holdsPacked=Q.holdsPacked∧(swap Q φ).mayEmbedAPacks=Q.mayEmbedAPacks∧(swap Q φ).namesPacked=Q.namesPacked∧(swap Q φ).methodsOfAPack=Q.methodsOfAPack∧sameLayout (swap Q φ)=sameLayout Q∧rowAt (swap Q φ)=rowAt Q∧liesAt (swap Q φ)=liesAt Q∧cellOfByte (swap Q φ)=cellOfByte Q∧cellAtBytes (swap Q φ)=cellAtBytes Q∧(swap Q φ).eqGuardType=Q.eqGuardType:=
 ⟨bp,bZ,jh,eV,eW,fY,ug,rI,nS,qv,gX,tD,gp,ky,Hx,EX,yi,Lz,zc,Hw,gm,gY,jg,qu,rH,wG,tB,rG,uV,tE,uU,wI,j4,wH,zd,r6,zb,EW,r7,wK,wJ⟩
end
def Same{α:Type}(Q:AI)(φ:Nat→Func→Func):Sem α→Prop
 | .pure _=>True
 | .halt _=>True
 | .load _ _ k=>∀v,Same Q φ (k v)
 | .store _ _ _ k=>Same Q φ k
 | .new _ k=>∀v,Same Q φ (k v)
 | .shape _ k=>∀v,Same Q φ (k v)
 | .freeze _ _ k=>Same Q φ k
 | .frozen _ k=>∀v,Same Q φ (k v)
 | .getObj _ k=>∀o,Same Q φ (k o)
 | .setObj _ _ k=>Same Q φ k
 | .choose _ k=>∀v,Same Q φ (k v)
 | .sys _ k=>∀v,Same Q φ (k v)
 | .program k=>k (swap Q φ)=k Q∧Same Q φ (k Q)
 | .mark _ k=>Same Q φ k
class Sm{α:Type}(Q:AI)(φ:Nat→Func→Func)(s:Sem α):Prop where
 sm:Same Q φ s
theorem xF{α β:Type}{Q:AI}{φ:Nat→Func→Func}{s:Sem α}{f:α→Sem β}(hs:Same Q φ s)(hf:∀a,Same Q φ (f a)):Same Q φ (s.bind f):=by
 induction s with
 |pure a=>exact hf a
 |halt h=>trivial
 |load m a k ih=>exact fun v=>ih v (hs v)
 |store m a v k ih=>exact ih hs
 |new o k ih=>exact fun v=>ih v (hs v)
 |shape r k ih=>exact fun v=>ih v (hs v)
 |freeze a n k ih=>exact ih hs
 |frozen a k ih=>exact fun v=>ih v (hs v)
 |getObj r k ih=>exact fun v=>ih v (hs v)
 |setObj r o k ih=>exact ih hs
 |choose q k ih=>exact fun v=>ih v (hs v)
 |sys c k ih=>exact fun v=>ih v (hs v)
 |program k ih=>exact⟨congrArg (PP · f) hs.1,ih Q hs.2⟩
 |mark m k ih=>exact ih hs
theorem xE{α:Type}{Q:AI}{φ:Nat→Func→Func}{s:Sem α}(hs:Same Q φ s):∀(w:AS)(es:Array IT),s.runT (swap Q φ) w es=s.runT Q w es:=by
 induction s with
 |pure a=>exact fun w es=>rfl
 |halt h=>exact fun w es=>rfl
 |load m a k ih=>
  intro w es;simp only[AT,uV];split
  ·exact ih _ (hs _) _ _
  ·split
   ·exact ih _ (hs _) _ _
   ·rfl
 |store m a v k ih=>
  intro w es;cases v;all_goals simp only[AT,tE]
  all_goals
   split
   ·split
    ·rfl
    ·exact ih hs _ _
   ·split
    ·exact ih hs _ _
    ·rfl
 |new o k ih=>exact fun w es=>ih _ (hs _) _ _
 |shape r k ih=>exact fun w es=>ih _ (hs _) _ _
 |freeze a n k ih=>exact fun w es=>ih hs _ _
 |frozen a k ih=>exact fun w es=>ih _ (hs _) _ _
 |getObj r k ih=>
  intro w es;simp only[AT];split
  ·rfl
  ·exact ih _ (hs _) _ _
  ·rfl
 |setObj r o k ih=>
  intro w es;simp only[AT];split
  ·rfl
  ·exact ih hs _ _
  ·rfl
 |choose q k ih=>
  intro w es;simp only[AT];split
  ·exact ih _ (hs _) _ _
  ·exact ih _ (hs _) _ _
 |sys c k ih=>exact fun w es=>ih _ (hs _) _ _
 |program k ih=>exact fun w es=>by simp only[AT];rw[hs.1];exact ih Q hs.2 w es
 |mark m k ih=>exact fun w es=>ih hs _ _
theorem HM{α:Type}{Q:AI}{φ:Nat→Func→Func}{s:Sem α}(hs:Same Q φ s)(w:AS):s.run (swap Q φ) w=s.run Q w:=by
 rw[← PX (swap Q φ) s w #[],← PX Q s w #[],xE hs]
theorem n9{α:Type}{Q:AI}{φ:Nat→Func→Func}{f:AI→Sem α}(e:f (swap Q φ)=f Q)(h:Sm Q φ (f Q)):Sm Q φ (program>>=f):=⟨⟨e,h.sm⟩⟩
instance gZ{α β:Type}{Q:AI}{φ:Nat→Func→Func}{s:Sem α}{f:α→Sem β}[hs:Sm Q φ s][hf:∀a,Sm Q φ (f a)]:Sm Q φ (s>>=f):=⟨xF hs.sm fun a=>(hf a).sm⟩
instance Od{α:Type}{Q:AI}{φ:Nat→Func→Func}{a:α}:Sm Q φ (pure a:Sem α):=⟨trivial⟩
instance Of{α:Type}{Q:AI}{φ:Nat→Func→Func}{h:Halt}:Sm Q φ (Sem.halt h:Sem α):=⟨trivial⟩
instance rM{α:Type}{Q:AI}{φ:Nat→Func→Func}{c:Prop}[Decidable c]{x y:Sem α}[hx:Sm Q φ x][hy:Sm Q φ y]:Sm Q φ (if c then x else y):=by
 split
 ·exact hx
 ·exact hy
instance Pb{α β:Type}{Q:AI}{φ:Nat→Func→Func}{s:Sem α}{f:α→β}[hs:Sm Q φ s]:Sm Q φ (f<$>s):=⟨xF hs.sm fun a=>trivial⟩
instance Bp{β γ:Type}{Q:AI}{φ:Nat→Func→Func}{f:β→Sem γ}[h:∀a,Sm Q φ (f a)](xs:List β):Sm Q φ (xs.mapM f):=by
 induction xs with
 |nil=>rw[PZ];exact zq2
 |cons x l ih=>rw[PY];exact zq2
instance Ci{β γ:Type}{Q:AI}{φ:Nat→Func→Func}{f:β→Sem γ}[h:∀a,Sm Q φ (f a)](xs:Array β):Sm Q φ (xs.mapM f):=by
 rw[PE];exact zq2
instance Pa(Q:AI)(φ:Nat→Func→Func)(c:Sys):Sm Q φ (sys c):=⟨fun _=>trivial⟩
instance Oe(Q:AI)(φ:Nat→Func→Func)(x:Mark):Sm Q φ (mark x):=⟨trivial⟩
instance Kh{α:Type}(Q:AI)(φ:Nat→Func→Func)(u:Unsupported):Sm Q φ (unsupported u:Sem α):=⟨trivial⟩
instance HA{α:Type}(Q:AI)(φ:Nat→Func→Func)(s:String):Sm Q φ (stuck s:Sem α):=⟨trivial⟩
section
def Dead:Halt→Prop
 | .waiting=>True
 | .blocked=>True
 | .stuck _=>True
 | .unsupported (.initOrder _)=>False
 | .unsupported _=>True
 |_=>False
def Ns:Target→Prop
 | .coroexit _=>False
 |_=>True
def oG(d:Q6):Prop:=Ns d.target
class aJ where
 ok:Op→Bool
 cm:Prop
 lim:Nat
 nogo:∀c,ok (.go c)=false
 send:∀c x,ok (.send c x)=true→cm
 recv:∀t c b,ok (.recv t c b)=true→cm
 select:∀c b,ok (.select c b)=true→cm
variable[aJ]
def JC(o:Op):Bool:=aJ.ok o
def cW:Code→Bool
 | .region _ ops _=>ops.all fun o=>JC o.op
 | .seq a b=>cW a&&cW b
 | .cond _ a b=>cW a&&cW b
 | .block _ b=>cW b
 | .loop b=>cW b
 | .scope b=>cW b
 | .rangeFunc _ _ a b=>cW a&&cW b
 |_=>true
def JZ(l:Loop):Prop:=cW l.assign=true∧cW l.body=true∧∀c,l.pending=some c→cW c=true
def pm:Obj→Prop
 | .loop l=>JZ l
 | .deferred (some ds)=>∀d∈ds,oG d
 | .pending _ _=>False
 | .coro _=>False
 |_=>True
class pT(o:Obj):Prop where
 ok:pm o
instance(c:Array By)(e:PJ)(f:Nat×Nat):pT (.cells c e f):=⟨trivial⟩
instance(a:Addr)(t:PJ):pT (.view a t):=⟨trivial⟩
instance(a:Addr)(t:Bool):pT (.number a t):=⟨trivial⟩
instance(e:Array MapEntry)(c:Nat):pT (.map e c):=⟨trivial⟩
instance(c:Nat)(b:Array By)(d:Bool)(s r:Nat)(t:Bool):pT (.chan c b d s r t):=⟨trivial⟩
instance(s:ByteArray)(p:Nat):pT (.stringIter s p):=⟨trivial⟩
instance(m:Option Nat)(s:Nat)(n:Array Nat)(x:Nat):pT (.mapIter m s n x):=⟨trivial⟩
instance:pT (.deferred none):=⟨trivial⟩
instance:pT (.deferred (some [])):=⟨fun _ h=>nomatch h⟩
def lZ:Halt→Prop
 | .unsupported (.initOrder g)=>aJ.lim≤g
 |_=>True
class NU(u:Unsupported):Prop where
 no:∀g,u≠.initOrder g
instance(s:String):NU (.extern s):=⟨fun _ h=>nomatch h⟩
instance(s:String):NU (.noEntry s):=⟨fun _ h=>nomatch h⟩
instance(s:String):NU (Unsupported.elab s):=⟨fun _ h=>nomatch h⟩
instance(s:String):NU (.unsafePointer s):=⟨fun _ h=>nomatch h⟩
instance(s:String):NU (.resourceLimit s):=⟨fun _ h=>nomatch h⟩
instance:NU .evalOrder:=⟨fun _ h=>nomatch h⟩
instance:NU .addressObserved:=⟨fun _ h=>nomatch h⟩
theorem sr{u:Unsupported}[hu:NU u]:lZ (.unsupported u):=by
 cases u<;>first |trivial|exact absurd rfl (hu.no _)
def po(o:Obj):Prop:=pm o∨(∃c t,o= .pending c t)∨∃c,o= .coro c
theorem po.loop{r:Loop}(h:po (.loop r)):JZ r:=by
 rcases h with h|⟨_,_,h⟩|⟨_,h⟩
 ·exact h
 ·cases h
 ·cases h
theorem po.ds{l:List Q6}(h:po (.deferred (some l))):∀d∈l,oG d:=by
 rcases h with h|⟨_,_,h⟩|⟨_,h⟩
 ·exact h
 ·cases h
 ·cases h
def Cut{α:Type}(m:Bool)(k:Obj→Sem α):Prop:=(m=true∧∃h,k (.coro none)= .halt h∧Dead h)∨((∀l,k (.loop l)=k (.coro none))∧∀d,k (.deferred d)=k (.coro none))
theorem uA{α β:Type}{m:Bool}{k:Obj→Sem α}{f:α→Sem β}(h:Cut m k):Cut m fun o=>(k o).bind f:=by
 rcases h with⟨hm,x,e,d⟩|⟨h1,h2⟩
 ·exact .inl ⟨hm,x,(congrArg (fun s=>PP s f) e).trans rfl,d⟩
 ·exact .inr ⟨fun l=>congrArg (fun s=>PP s f) (h1 l),fun d=>congrArg (fun s=>PP s f) (h2 d)⟩
def ct{α:Type}(P:AI)(m n:Bool):Sem α→Prop
 | .pure _=>True
 | .halt h=>lZ h
 | .load _ _ k=>∀v,ct P m n (k v)
 | .store _ _ _ k=>ct P m n k
 | .new o k=>pm o∧∀v,ct P m n (k v)
 | .shape _ k=>∀v,ct P m n (k v)
 | .freeze _ _ k=>ct P m n k
 | .frozen _ k=>∀v,ct P m n (k v)
 | .getObj _ k=>(∀o,po o→ct P m n (k o))∧Cut m k
 | .setObj _ o k=>pm o∧ct P m n k
 | .choose _ k=>∀v,ct P m n (k v)
 | .sys _ k=>(∃h,k .wouldBlock= .halt h∧Dead h)∧∀v,ct P m n (k v)
 | .program k=>ct P m n (k P)
 | .mark x k=>(x= .noRoom→n=true)∧ct P m n k
abbrev jW{α:Type}(P:AI)(s:Sem α):Prop:=ct P true true s
class bN{α:Type}(P:AI)(m n:Bool)(s:Sem α):Prop where
 st:ct P m n s
abbrev St{α:Type}(P:AI)(s:Sem α):Prop:=bN P true true s
theorem tG{α β:Type}{P:AI}{m n:Bool}{s:Sem α}{f:α→Sem β}(hs:ct P m n s)(hf:∀a,ct P m n (f a)):ct P m n (s.bind f):=by
 induction s with
 |pure a=>exact hf a
 |halt h=>exact hs
 |load m a k ih=>exact fun v=>ih v (hs v)
 |store m a v k ih=>exact ih hs
 |new o k ih=>exact⟨hs.1,fun v=>ih v (hs.2 v)⟩
 |shape r k ih=>exact fun v=>ih v (hs v)
 |freeze a n k ih=>exact ih hs
 |frozen a k ih=>exact fun v=>ih v (hs v)
 |getObj r k ih=>exact⟨fun v hv=>ih v (hs.1 v hv),uA hs.2⟩
 |setObj r o k ih=>exact⟨hs.1,ih hs.2⟩
 |choose q k ih=>exact fun v=>ih v (hs v)
 |sys c k ih=>exact⟨let⟨h,e,d⟩:=hs.1;⟨h,(congrArg (fun x=>PP x f) e).trans rfl,d⟩,fun v=>ih v (hs.2 v)⟩
 |program k ih=>exact ih P hs
 |mark m k ih=>exact⟨hs.1,ih hs.2⟩
instance aS{α β:Type}{P:AI}{m n:Bool}{s:Sem α}{f:α→Sem β}[hs:bN P m n s][hf:∀a,bN P m n (f a)]:bN P m n (s>>=f):=⟨tG hs.st fun a=>(hf a).st⟩
instance Ob{α:Type}{P:AI}{m n:Bool}{a:α}:bN P m n (pure a:Sem α):=⟨trivial⟩
instance Nc{α:Type}{P:AI}{m n:Bool}:bN P m n (Sem.halt .blocked:Sem α):=⟨trivial⟩
instance kT{α:Type}{P:AI}{m n:Bool}{c:Prop}[Decidable c]{x y:Sem α}[hx:bN P m n x][hy:bN P m n y]:bN P m n (if c then x else y):=by
 split
 ·exact hx
 ·exact hy
instance P9{α β:Type}{P:AI}{m n:Bool}{s:Sem α}{f:α→β}[hs:bN P m n s]:bN P m n (f<$>s):=⟨tG hs.st fun a=>trivial⟩
instance px{β γ:Type}{P:AI}{m n:Bool}{f:β→Sem γ}[h:∀a,bN P m n (f a)](xs:List β):bN P m n (xs.mapM f):=by
 induction xs with
 |nil=>rw[PZ];exact zq2
 |cons x l ih=>rw[PY];exact zq2
instance sY{β γ:Type}{P:AI}{m n:Bool}{f:β→Sem γ}[h:∀a,bN P m n (f a)](xs:Array β):bN P m n (xs.mapM f):=by
 rw[PE];exact zq2
instance MK(P:AI){dy mk:Bool}:bN P dy mk program:=⟨trivial⟩
class ny(x:Mark):Prop where
 h:x≠.noRoom
instance(a:Addr):ny (.acquire a):=⟨fun h=>nomatch h⟩
instance(a:Addr):ny (.release a):=⟨fun h=>nomatch h⟩
instance(a:Addr):ny (.releaseMerge a):=⟨fun h=>nomatch h⟩
instance(a:Addr):ny (.read a):=⟨fun h=>nomatch h⟩
instance(a:Addr):ny (.write a):=⟨fun h=>nomatch h⟩
instance(f:Qj):ny (.extern f):=⟨fun h=>nomatch h⟩
instance:ny .disable:=⟨fun h=>nomatch h⟩
instance:ny .enable:=⟨fun h=>nomatch h⟩
instance Nw{m n:Bool}(P:AI)(x:Mark)[h:ny x]:bN P m n (Go.mark x):=⟨⟨fun e=>absurd e h.h,trivial⟩⟩
instance Oc{m:Bool}(P:AI)(x:Mark):bN P m true (Go.mark x):=⟨⟨fun _=>rfl,trivial⟩⟩
instance Kf{α:Type}(P:AI){dy mk:Bool}(u:Unsupported)[hu:NU u]:bN P dy mk (unsupported u:Sem α):=⟨sr⟩
instance qx{α:Type}(P:AI){dy mk:Bool}(x0:String):bN P dy mk (stuck x0:Sem α):=⟨trivial⟩
end
def iR:Obj→Prop
 | .cells _ _ _=>True
 | .number _ _=>True
 |_=>False
def Meek:Mark→Prop
 | .extern _=>True
 | .noRoom=>True
 |_=>False
def ql(h:Halt):Prop:=(∃v,h= .panic v)∨h= .goexit∨Dead h
def bF{α:Type}(P:AI):Sem α→Prop
 | .pure _=>True
 | .halt h=>ql h
 | .load _ _ k=>∀v,bF P (k v)
 | .store _ _ _ k=>bF P k
 | .new o k=>iR o∧∀v,bF P (k v)
 | .shape _ k=>∀v,bF P (k v)
 | .freeze _ _ k=>False
 | .frozen _ k=>∀v,bF P (k v)
 | .getObj _ k=>∀o,bF P (k o)
 | .setObj _ o k=>False
 | .choose _ k=>∀v,bF P (k v)
 | .sys _ k=>∀v,bF P (k v)
 | .program k=>bF P (k P)
 | .mark m k=>Meek m∧bF P k
class Nf{α:Type}(P:AI)(s:Sem α):Prop where
 nf:bF P s
theorem rm{α β:Type}{P:AI}{s:Sem α}{f:α→Sem β}(hs:bF P s)(hf:∀a,bF P (f a)):bF P (s.bind f):=by
 induction s with
 |pure a=>exact hf a
 |halt h=>exact hs
 |load m a k ih=>exact fun v=>ih v (hs v)
 |store m a v k ih=>exact ih hs
 |new o k ih=>exact⟨hs.1,fun v=>ih v (hs.2 v)⟩
 |shape r k ih=>exact fun v=>ih v (hs v)
 |freeze a n k ih=>exact hs.elim
 |frozen a k ih=>exact fun v=>ih v (hs v)
 |getObj r k ih=>exact fun v=>ih v (hs v)
 |setObj r o k ih=>exact hs.elim
 |choose q k ih=>exact fun v=>ih v (hs v)
 |sys c k ih=>exact fun v=>ih v (hs v)
 |program k ih=>exact ih P hs
 |mark m k ih=>exact⟨hs.1,ih hs.2⟩
instance dk{α β:Type}{P:AI}{s:Sem α}{f:α→Sem β}[hs:Nf P s][hf:∀a,Nf P (f a)]:Nf P (s>>=f):=⟨rm hs.nf fun a=>(hf a).nf⟩
instance fW{α:Type}{P:AI}{a:α}:Nf P (pure a:Sem α):=⟨trivial⟩
theorem Ax{u:Unsupported}[hu:NU u]:Dead (.unsupported u):=by
 cases u<;>first |trivial|exact absurd rfl (hu.no _)
instance G3{α:Type}{P:AI}{c:Prop}[Decidable c]{x y:Sem α}[hx:Nf P x][hy:Nf P y]:Nf P (if c then x else y):=by
 split
 ·exact hx
 ·exact hy
instance LR{α β:Type}{P:AI}{s:Sem α}{f:α→β}[hs:Nf P s]:Nf P (f<$>s):=⟨rm hs.nf fun a=>trivial⟩
class K0(o:Obj):Prop where
 ok:iR o
instance(c:Array By)(e:PJ)(f:Nat×Nat):K0 (.cells c e f):=⟨trivial⟩
instance(a:Addr)(l:Bool):K0 (.number a l):=⟨trivial⟩
instance zZ(P:AI)(f:Qj):Nf P (mark (.extern f)):=⟨trivial,trivial⟩
instance MC(P:AI):Nf P program:=⟨trivial⟩
instance KJ{α:Type}(P:AI)(u:Unsupported)[hu:NU u]:Nf P (unsupported u:Sem α):=⟨.inr (.inr Ax)⟩
instance NF{α:Type}(P:AI)(m:String):Nf P (stuck m:Sem α):=⟨.inr (.inr trivial)⟩
instance MD{β γ:Type}{P:AI}{f:β→Sem γ}[h:∀a,Nf P (f a)](xs:List β):Nf P (xs.mapM f):=by
 induction xs with
 |nil=>rw[PZ];exact fW
 |cons x l ih=>rw[PY];exact @dk _ _ _ _ _ (h x) fun a=> @dk _ _ _ _ _ ih fun l=>fW
instance KL{β γ:Type}{P:AI}{f:β→Sem γ}[h:∀a,Nf P (f a)](xs:Array β):Nf P (xs.mapM f):=by
 rw[PE];exact LR
def AU:Halt→Prop
 | .blocked=>True
 | .waiting=>True
 | .stuck _=>True
 | .unsupported _=>True
 |_=>False
def iy{α:Type}(P:AI)(n:Nat):Sem α→Prop
 | .pure _=>n=0
 | .halt h=>n=0∨AU h
 | .load _ _ k=>∀v,iy P n (k v)
 | .store _ _ _ k=>iy P n k
 | .new _ k=>∀v,iy P n (k v)
 | .shape _ k=>∀v,iy P n (k v)
 | .freeze _ _ k=>iy P n k
 | .frozen _ k=>∀v,iy P n (k v)
 | .getObj _ k=>∀o,iy P n (k o)
 | .setObj _ _ k=>iy P n k
 | .choose _ k=>∀v,iy P n (k v)
 | .sys _ k=>∀v,iy P n (k v)
 | .program k=>iy P n (k P)
 | .mark .disable k=>iy P (n+1) k
 | .mark .enable k=>0<n∧iy P (n-1) k
 | .mark _ k=>iy P n k
class Hu{α:Type}(P:AI)(s:Sem α):Prop where
 hu:iy P 0 s
theorem Ae{α β:Type}{P:AI}{s:Sem α}{f:α→Sem β}(hf:∀a,iy P 0 (f a)):∀n,iy P n s→iy P n (s.bind f):=by
 induction s with
 |pure a=>intro n hs;cases hs;exact hf a
 |halt h=>exact fun n hs=>hs
 |load m a k ih=>exact fun n hs v=>ih v n (hs v)
 |store m a v k ih=>exact fun n hs=>ih n hs
 |new o k ih=>exact fun n hs v=>ih v n (hs v)
 |shape r k ih=>exact fun n hs v=>ih v n (hs v)
 |freeze a c k ih=>exact fun n hs=>ih n hs
 |frozen a k ih=>exact fun n hs v=>ih v n (hs v)
 |getObj r k ih=>exact fun n hs v=>ih v n (hs v)
 |setObj r o k ih=>exact fun n hs=>ih n hs
 |choose q k ih=>exact fun n hs v=>ih v n (hs v)
 |sys c k ih=>exact fun n hs v=>ih v n (hs v)
 |program k ih=>exact fun n hs=>ih P n hs
 |mark m k ih=>
  intro n hs;cases m;case disable=>exact ih (n+1) hs
  case enable=>exact⟨hs.1,ih (n-1) hs.2⟩
  all_goals exact ih n hs
instance KW{α β:Type}{P:AI}{s:Sem α}{f:α→Sem β}[hs:Hu P s][hf:∀a,Hu P (f a)]:Hu P (s>>=f):=⟨Ae (fun a=>(hf a).hu) 0 hs.hu⟩
theorem cq{α β:Type}{P:AI}{s:Sem α}{f:α→Sem β}(hs:Hu P s)(hf:∀a,Hu P (f a)):Hu P (s>>=f):=KW
instance Oh{α:Type}{P:AI}{a:α}:Hu P (pure a:Sem α):=⟨rfl⟩
instance M4{α:Type}{P:AI}{c:Prop}[Decidable c]{x y:Sem α}[hx:Hu P x][hy:Hu P y]:Hu P (if c then x else y):=by
 split
 ·exact hx
 ·exact hy
instance Pc{α β:Type}{P:AI}{s:Sem α}{f:α→β}[hs:Hu P s]:Hu P (f<$>s):=⟨Ae (f:=fun a=>Sem.pure (f a)) (fun a=>(rfl:(0:Nat)=0)) 0 hs.hu⟩
instance Og(P:AI)(c:Sys):Hu P (sys c):=⟨fun _=>rfl⟩
class kL(x:Mark):Prop where
 h1:x≠.disable
 h2:x≠.enable
instance(a:Addr):kL (.acquire a):=⟨(fun h=>nomatch h),(fun h=>nomatch h)⟩
instance(a:Addr):kL (.release a):=⟨(fun h=>nomatch h),(fun h=>nomatch h)⟩
instance(a:Addr):kL (.releaseMerge a):=⟨(fun h=>nomatch h),(fun h=>nomatch h)⟩
instance(a:Addr):kL (.read a):=⟨(fun h=>nomatch h),(fun h=>nomatch h)⟩
instance(a:Addr):kL (.write a):=⟨(fun h=>nomatch h),(fun h=>nomatch h)⟩
instance(f:Qj):kL (.extern f):=⟨(fun h=>nomatch h),(fun h=>nomatch h)⟩
instance:kL .noRoom:=⟨(fun h=>nomatch h),(fun h=>nomatch h)⟩
instance NL(P:AI)(x:Mark)[h:kL x]:Hu P (Go.mark x):=⟨by
 cases x;case disable=>exact absurd rfl h.h1
 case enable=>exact absurd rfl h.h2
 all_goals exact rfl⟩
theorem fL{α:Type}{P:AI}{c:Prop}[Decidable c]{x y:Sem α}(hx:Hu P x)(hy:Hu P y):Hu P (if c then x else y):=M4
instance ME{β γ:Type}{P:AI}{f:β→Sem γ}[h:∀a,Hu P (f a)](xs:List β):Hu P (xs.mapM f):=by
 induction xs with
 |nil=>rw[PZ];exact zq2
 |cons x l ih=>rw[PY];exact zq2
instance KV{β γ:Type}{P:AI}{f:β→Sem γ}[h:∀a,Hu P (f a)](xs:Array β):Hu P (xs.mapM f):=by
 rw[PE];exact zq2
instance N2(P:AI):Hu P program:=⟨rfl⟩
instance KU{α:Type}(P:AI)(u:Unsupported):Hu P (unsupported u:Sem α):=⟨.inl rfl⟩
instance IJ{α:Type}(P:AI)(s:String):Hu P (stuck s:Sem α):=⟨.inl rfl⟩
section
variable[aJ]
def ja{α:Type}(Q:AI)(φ:Nat→Func→Func)(g m n z d:Bool):Sem α→Prop
 | .pure _=>True
 | .halt h=>lZ h∧(z=false→ql h)
 | .load _ _ k=>∀v,ja Q φ g m n z d (k v)
 | .store _ _ _ k=>ja Q φ g m n z d k
 | .new o k=>((g=true→pm o)∧(z=false→iR o))∧∀v,ja Q φ g m n z d (k v)
 | .shape _ k=>∀v,ja Q φ g m n z d (k v)
 | .freeze _ _ k=>z=true∧ja Q φ g m n z d k
 | .frozen _ k=>∀v,ja Q φ g m n z d (k v)
 | .getObj _ k=>(∀o,(g=true→po o)→ja Q φ g m n z d (k o))∧Cut m k
 | .setObj _ o k=>(z=true∧(g=true→pm o))∧ja Q φ g m n z d k
 | .choose _ k=>∀v,ja Q φ g m n z d (k v)
 | .sys _ k=>(∃h,k .wouldBlock= .halt h∧Dead h)∧∀v,ja Q φ g m n z d (k v)
 | .program k=>k (swap Q φ)=k Q∧ja Q φ g m n z d (k Q)
 | .mark x k=>((x= .noRoom→n=true)∧(d=true→x≠.disable∧x≠.enable)∧(z=false→Meek x))∧ja Q φ g m n z d k
class Al{α:Type}(Q:AI)(φ:Nat→Func→Func)(g m n z d:Bool)(s:Sem α):Prop where
 al:ja Q φ g m n z d s
section
variable{Q:AI}{φ:Nat→Func→Func}{g m n z d:Bool}
theorem ye{α β:Type}{s:Sem α}{f:α→Sem β}(hs:ja Q φ g m n z d s)(hf:∀a,ja Q φ g m n z d (f a)):ja Q φ g m n z d (s.bind f):=by
 induction s with
 |pure a=>exact hf a
 |halt h=>exact hs
 |load _ _ k ih|shape _ k ih|frozen _ k ih|choose _ k ih=>exact fun v=>ih v (hs v)
 |store _ _ _ k ih=>exact ih hs
 |new o k ih=>exact⟨hs.1,fun v=>ih v (hs.2 v)⟩
 |freeze _ _ k ih=>exact⟨hs.1,ih hs.2⟩
 |getObj _ k ih=>exact⟨fun v hv=>ih v (hs.1 v hv),uA hs.2⟩
 |setObj _ _ k ih=>exact⟨hs.1,ih hs.2⟩
 |sys _ k ih=>exact⟨let⟨h,e,d⟩:=hs.1;⟨h,(congrArg (fun x=>PP x f) e).trans rfl,d⟩,fun v=>ih v (hs.2 v)⟩
 |program k ih=>exact⟨congrArg (fun x=>PP x f) hs.1,ih Q hs.2⟩
 |mark _ k ih=>exact⟨hs.1,ih hs.2⟩
theorem wl{α:Type}{s:Sem α}(hs:ja Q φ true m n z d s):ct Q m n s:=by
 induction s with
 |pure a=>trivial
 |halt h=>exact hs.1
 |load _ _ k ih|shape _ k ih|frozen _ k ih|choose _ k ih=>exact fun v=>ih v (hs v)
 |store _ _ _ k ih=>exact ih hs
 |new o k ih=>exact⟨hs.1.1 rfl,fun v=>ih v (hs.2 v)⟩
 |freeze _ _ k ih=>exact ih hs.2
 |getObj _ k ih=>exact⟨fun v hv=>ih v (hs.1 v fun _=>hv),hs.2⟩
 |setObj _ _ k ih=>exact⟨hs.1.2 rfl,ih hs.2⟩
 |sys _ k ih=>exact⟨hs.1,fun v=>ih v (hs.2 v)⟩
 |program k ih=>exact ih Q hs.2
 |mark _ k ih=>exact⟨hs.1.1,ih hs.2⟩
theorem mC{α:Type}{s:Sem α}(hs:ja Q φ false m n z d s):Same Q φ s∧(d=true→iy Q 0 s)∧(z=false→bF Q s):=by
 induction s with
 |pure a=>exact⟨trivial,fun _=>rfl,fun _=>trivial⟩
 |halt h=>exact⟨trivial,fun _=>.inl rfl,hs.2⟩
 |load _ _ k ih|shape _ k ih|frozen _ k ih|choose _ k ih=>exact⟨fun v=>(ih v (hs v)).1,fun h v=>(ih v (hs v)).2.1 h,fun h v=>(ih v (hs v)).2.2 h⟩
 |store _ _ _ k ih=>exact ih hs
 |new o k ih=>exact⟨fun v=>(ih v (hs.2 v)).1,fun h v=>(ih v (hs.2 v)).2.1 h,fun h=>⟨hs.1.2 h,fun v=>(ih v (hs.2 v)).2.2 h⟩⟩
 |freeze _ _ k ih=>exact⟨(ih hs.2).1,(ih hs.2).2.1,fun h=>nomatch h.symm.trans hs.1⟩
 |getObj _ k ih=>exact⟨fun v=>(ih v (hs.1 v nofun)).1,fun h v=>(ih v (hs.1 v nofun)).2.1 h,fun h v=>(ih v (hs.1 v nofun)).2.2 h⟩
 |setObj _ _ k ih=>exact⟨(ih hs.2).1,(ih hs.2).2.1,fun h=>nomatch h.symm.trans hs.1.1⟩
 |sys _ k ih=>exact⟨fun v=>(ih v (hs.2 v)).1,fun h v=>(ih v (hs.2 v)).2.1 h,fun h v=>(ih v (hs.2 v)).2.2 h⟩
 |program k ih=>exact⟨⟨hs.1,(ih Q hs.2).1⟩,(ih Q hs.2).2.1,(ih Q hs.2).2.2⟩
 |mark x k ih=>
  refine⟨(ih hs.2).1,fun hd=> ?_,fun h=>⟨hs.1.2.2 h,(ih hs.2).2.2 h⟩⟩;have h:=(ih hs.2).2.1 hd;cases x;case disable=>exact absurd rfl (hs.1.2.1 hd).1
  case enable=>exact absurd rfl (hs.1.2.1 hd).2
  all_goals exact h
@[reducible] def fK:aJ:=⟨fun _=>false,True,0,fun _=>rfl,nofun,nofun,nofun⟩
instance(priority:=low) st_al{α:Type}{s:Sem α}[h:Al Q (fun _ f=>f) true m n true false s]:bN Q m n s:=⟨wl h.al⟩
class wu(g z:Bool)(o:Obj):Prop where
 ok:(g=true→pm o)∧(z=false→iR o)
instance(c:Array By)(e:PJ)(f:Nat×Nat):wu g z (.cells c e f):=⟨fun _=>trivial,fun _=>trivial⟩
instance(a:Addr)(t:Bool):wu g z (.number a t):=⟨fun _=>trivial,fun _=>trivial⟩
instance{o:Obj}[h:pT o]:wu g true o:=⟨fun _=>h.ok,nofun⟩
class uc(n z d:Bool)(x:Mark):Prop where
 ok:(x= .noRoom→n=true)∧(d=true→x≠.disable∧x≠.enable)∧(z=false→Meek x)
instance(f:Qj):uc n z d (.extern f):=⟨nofun,fun _=>⟨nofun,nofun⟩,fun _=>trivial⟩
instance:uc true z d .noRoom:=⟨fun _=>rfl,fun _=>⟨nofun,nofun⟩,fun _=>trivial⟩
instance:uc n true false .disable:=⟨nofun,nofun,nofun⟩
instance:uc n true false .enable:=⟨nofun,nofun,nofun⟩
instance(a:Addr):uc n true d (.acquire a):=⟨nofun,fun _=>⟨nofun,nofun⟩,nofun⟩
instance(a:Addr):uc n true d (.release a):=⟨nofun,fun _=>⟨nofun,nofun⟩,nofun⟩
instance(a:Addr):uc n true d (.releaseMerge a):=⟨nofun,fun _=>⟨nofun,nofun⟩,nofun⟩
instance(a:Addr):uc n true d (.read a):=⟨nofun,fun _=>⟨nofun,nofun⟩,nofun⟩
instance(a:Addr):uc n true d (.write a):=⟨nofun,fun _=>⟨nofun,nofun⟩,nofun⟩
theorem aB{α β:Type}{s:Sem α}{f:α→Sem β}(hs:Al Q φ g m n z d s)(hf:∀a,Al Q φ g m n z d (f a)):Al Q φ g m n z d (s>>=f):=⟨ye hs.al fun a=>(hf a).al⟩
instance P8{α β:Type}{s:Sem α}{f:α→Sem β}[hs:Al Q φ g m n z d s][hf:∀a,Al Q φ g m n z d (f a)]:Al Q φ g m n z d (s>>=f):=aB hs hf
theorem aG{α:Type}{r:Nat}{f:Obj→Sem α}(hf:∀o,Al Q φ g m n z d (f o))(hc:Cut m f):Al Q φ g m n z d (getObj r>>=f):=⟨⟨fun o _=>(hf o).al,hc⟩⟩
theorem aP{α:Type}{f:AI→Sem α}(e:f (swap Q φ)=f Q)(h:Al Q φ g m n z d (f Q)):Al Q φ g m n z d (program>>=f):=⟨⟨e,h.al⟩⟩
instance eZ{α:Type}{a:α}:Al Q φ g m n z d (pure a:Sem α):=⟨trivial⟩
instance Px{α β:Type}{s:Sem α}{f:α→β}[hs:Al Q φ g m n z d s]:Al Q φ g m n z d (f<$>s):=⟨ye hs.al fun _=>trivial⟩
theorem aI{α:Type}{c:Prop}[Decidable c]{x y:Sem α}(hx:Al Q φ g m n z d x)(hy:Al Q φ g m n z d y):Al Q φ g m n z d (if c then x else y):=by
 split
 ·exact hx
 ·exact hy
instance Py{α:Type}{c:Prop}[Decidable c]{x y:Sem α}[hx:Al Q φ g m n z d x][hy:Al Q φ g m n z d y]:Al Q φ g m n z d (if c then x else y):=aI hx hy
theorem Pz{β γ:Type}(l:List β)(f:(a:β)→a∈l→γ→Sem (ForInStep γ))(h:∀a m' b,Al Q φ g m n z d (f a m' b))(b:γ):Al Q φ g m n z d (forIn' l b f):=by
 induction l generalizing b with
 |nil=>rw[List.forIn'_nil];exact zq2
 |cons x l ih=>
  rw[List.forIn'_cons];refine aB (h x _ b) (fun r=> ?_);cases r with
  |done b=>exact zq2
  |yield b=>exact ih (fun a m b=>f a (List.mem_cons_of_mem _ m) b) (fun a m b=>h a _ b) b
theorem Nr{γ:Type}(l:Std.Legacy.Range)(f:(a:Nat)→a∈l→γ→Sem (ForInStep γ))(h:∀a m' b,Al Q φ g m n z d (f a m' b))(b:γ):Al Q φ g m n z d (forIn' l b f):=by
 rw[Std.Legacy.Range.forIn'_eq_forIn'_range'];exact Pz _ _ (fun _ _ _=>h _ _ _) _
theorem aL{β γ:Type}{f:β→γ→Sem (ForInStep γ)}(h:∀a b,Al Q φ g m n z d (f a b))(l:List β)(b:γ):Al Q φ g m n z d (forIn l b f):=by
 induction l generalizing b with
 |nil=>rw[List.forIn_nil];exact zq2
 |cons x l ih=>
  rw[List.forIn_cons];refine aB (h x b) (fun r=> ?_);cases r with
  |done b=>exact zq2
  |yield b=>exact ih b
theorem aF{β γ:Type}{f:β→γ→Sem (ForInStep γ)}(h:∀a b,Al Q φ g m n z d (f a b))(l:Array β)(b:γ):Al Q φ g m n z d (forIn l b f):=by
 rw[← Array.forIn_toList];exact aL h _ _
theorem aR{γ:Type}{f:Nat→γ→Sem (ForInStep γ)}(h:∀a b,Al Q φ g m n z d (f a b))(l:Std.Legacy.Range)(b:γ):Al Q φ g m n z d (forIn l b f):=by
 rw[Std.Legacy.Range.forIn_eq_forIn_range'];exact aL h _ _
instance aO{β γ:Type}{f:γ→β→Sem γ}[h:∀a b,Al Q φ g m n z d (f a b)](l:List β)(b:γ):Al Q φ g m n z d (l.foldlM f b):=by
 induction l generalizing b with
 |nil=>rw[List.foldlM_nil];exact zq2
 |cons x l ih=>rw[List.foldlM_cons];exact aB (h b x) (fun r=>ih r)
instance MG{β γ:Type}{f:β→Sem γ}[h:∀a,Al Q φ g m n z d (f a)](xs:List β):Al Q φ g m n z d (xs.mapM f):=by
 induction xs with
 |nil=>rw[PZ];exact zq2
 |cons x l ih=>rw[PY];exact zq2
instance P7{β γ:Type}{f:β→Sem γ}[h:∀a,Al Q φ g m n z d (f a)](xs:Array β):Al Q φ g m n z d (xs.mapM f):=by
 rw[PE];exact zq2
instance(a:Mode)(b:Addr):Al Q φ g m n z d (.load a b .pure):=⟨fun _=>trivial⟩
instance(a:Mode)(b:Addr)(v:By):Al Q φ g m n z d (.store a b v (.pure ())):=⟨trivial⟩
instance(o:Obj)[h:wu g z o]:Al Q φ g m n z d (newObj o):=⟨h.ok,fun _=>trivial⟩
instance(r:Nat)(o:Obj)[h:wu g true o]:Al Q φ g m n true d (setObj r o):=⟨⟨rfl,h.ok.1⟩,trivial⟩
instance(x:Mark)[h:uc n z d x]:Al Q φ g m n z d (mark x):=⟨h.ok,trivial⟩
instance{α:Type}(u:Unsupported)[NU u]:Al Q φ g m n z d (unsupported u:Sem α):=⟨sr,fun _=>.inr (.inr Ax)⟩
instance{α:Type}(s:String):Al Q φ g m n z d (stuck s:Sem α):=⟨trivial,fun _=>.inr (.inr trivial)⟩
instance{α:Type}(u:Unsupported)[NU u]:Al Q φ g m n z d (.halt (.unsupported u):Sem α):=⟨sr,fun _=>.inr (.inr Ax)⟩
instance{α:Type}(s:String):Al Q φ g m n z d (.halt (.stuck s):Sem α):=⟨trivial,fun _=>.inr (.inr trivial)⟩
instance{α:Type}:Al Q φ g m n z d (.halt .blocked:Sem α):=⟨trivial,fun _=>.inr (.inr trivial)⟩
instance{α:Type}(v:By):Al Q φ g m n z d (goPanic v:Sem α):=⟨trivial,fun _=>.inl ⟨v,rfl⟩⟩
instance(x0:_)(x1:_):Al Q φ g m n z d (Go.load x0 x1):=⟨fun _=>trivial⟩
instance(x0:_)(x1:_)(x2:_):Al Q φ g m n z d (Go.store x0 x1 x2):=⟨trivial⟩
instance(r:Nat):Al Q φ g m n z d (Go.shape r):=⟨fun _=>trivial⟩
instance(a:Addr)(k:Nat):Al Q φ g m n true d (Go.freeze a k):=⟨rfl,trivial⟩
instance(a:Addr):Al Q φ g m n z d (Go.frozen a):=⟨fun _=>trivial⟩
instance(q:IS):Al Q φ g m n z d (Go.choose q):=⟨fun _=>trivial⟩
instance(a:Nat)(b:ByteArray):Al Q φ g m n z d (writeFd a b):=⟨⟨_,rfl,trivial⟩,fun v=>by cases v<;>first |trivial|exact⟨trivial,fun _=>.inr (.inr trivial)⟩⟩
instance:Al Q φ g m n z d Instr.panicnil:=⟨⟨_,rfl,trivial⟩,fun v=>by cases v<;>first |trivial|exact⟨trivial,fun _=>.inr (.inr trivial)⟩⟩
theorem aA{α:Type}{s:Sem α}(h:Al Q φ g m n z d s:=by
 repeat' (first
  |exact zq2
  |(with_reducible refine aP ?_ ?_)
  |with_reducible rfl
  |(simp only[kQ];done)
  |(simp only[kQ];with_reducible rfl)
  |rfl
  |(with_reducible refine aG (fun _=> ?_) ?_)
  |exact .inl ⟨rfl,_,rfl,trivial⟩
  |exact .inr ⟨fun _=>rfl,fun _=>rfl⟩
  |(refine aB ?_ (fun _=> ?_))
  |(refine aI ?_ ?_)
  |(refine aF (fun _ _=> ?_) _ _)
  |(refine aR (fun _ _=> ?_) _ _)
  |(refine Nr _ _ (fun _ _ _=> ?_) _)
  |split
  |(intro _)
  |dsimp only)):Al Q φ g m n z d s:=h
theorem aU{α:Type}{s:Sem α}(h:Al Q φ g m n z d s:=by
 repeat' (first
  |exact⟨trivial,fun _=>.inr (.inr trivial)⟩
  |exact eZ
  |dsimp only
  |exact zq2
  |(with_reducible refine aP ?_ ?_)
  |with_reducible rfl
  |(simp only[kQ];done)
  |(simp only[kQ];with_reducible rfl)
  |rfl
  |(with_reducible refine aG (fun _=> ?_) ?_)
  |exact .inl ⟨rfl,_,rfl,trivial⟩
  |exact .inr ⟨fun _=>rfl,fun _=>rfl⟩
  |(refine aB ?_ (fun _=> ?_))
  |(refine aI ?_ ?_)
  |(refine aF (fun _ _=> ?_) _ _)
  |(refine aR (fun _ _=> ?_) _ _)
  |(refine Nr _ _ (fun _ _ _=> ?_) _)
  |split
  |(intro _)
  |dsimp only)):Al Q φ g m n z d s:=h
class L1(Q:AI)(φ:Nat→Func→Func)(g:Bool):Prop where
 l1_0:∀a b c d e f h,Al Q φ g a b c d (Qz e f h)
 l1_1:∀a b c d e f,Al Q φ g a b c d (Conv.intToInt e f)
 l1_2:∀a b c d e f,Al Q φ g a b c d (Conv.intToFloat e f)
 l1_3:∀a b c d e,Al Q φ g a b c d (Conv.intToString e)
set_option maxHeartbeats 4000000 in
instance:L1 Q φ g:=by
 constructor;all_goals
  intros
  first |unfold Qz|unfold Conv.intToInt|unfold Conv.intToFloat|unfold Conv.intToString
  exact aA
attribute [instance] L1.l1_0 L1.l1_1 L1.l1_2 L1.l1_3
class L2(Q:AI)(φ:Nat→Func→Func)(g:Bool):Prop where
 l2_0:∀b c d e a i n acc,Al Q φ g b c d e (loadCellsFrom a i n acc)
 l2_1:∀b c d e a vs i,Al Q φ g b c d e (storeCells a vs i)
 l2_2:∀b c d e a acc n,Al Q φ g b c d e (loadBytes a acc n)
 l2_3:∀a b c d e f h,Al Q φ g a b c d (Builtin.complex_ e f h)
 l2_4:∀a b c d e f h,Al Q φ g a b c d (Builtin.imag_ e f h)
 l2_5:∀a b c d e f h,Al Q φ g a b c d (Builtin.real_ e f h)
 l2_6:∀a b c d,Al Q φ g a true b c (askRoom d)
 l2_7:∀a b c d e,Al Q φ g a b c d (viewAt e)
 l2_8:∀a b c d e,Al Q φ g a b c d (numberAt e)
 l2_9:∀a b c d e,Al Q φ g a b c d (cellsIn e)
 l2_10:∀a b c d e f,Al Q φ g a b c d (asNumber e f)
 l2_11:∀a b c d,Al Q φ g a b true c (markStringish d)
 l2_12:∀a b c d e,Al Q φ g a b c d (stringish e)
 l2_13:∀a b c d e,Al Q φ g a b c d (typeInfo e)
 l2_14:∀a b c d e,Al Q φ g a b c d (underlying e)
 l2_15:∀a b c d e,Al Q φ g a b c d (cutType e)
 l2_16:∀a b c d e,Al Q φ g a b c d (globalAddr e)
 l2_17:∀a b c d e f,Al Q φ g a b c d (newRow e f)
 l2_18:∀α a b c d e,Al Q φ g a b c d (panicString (α:=α) e)
 l2_19:∀a b c d e,Al Q φ g a b c d (asIntOf e)
 l2_20:∀a b c d e,Al Q φ g a b c d (asBool e)
 l2_21:∀a b c d e,Al Q φ g a b c d (asAgg e)
 l2_22:∀a b c d e f,Al Q φ g a b c d (Q2 e f)
 l2_23:∀a b c d e f h,Al Q φ g a b c d (variablesAt e f h)
 l2_24:∀a b c d e,Al Q φ g a b c d (Qy e)
 l2_25:∀a b c d e,Al Q φ g a b c d (Instr.waits e)
 l2_26:∀a b c,Al Q φ g true a true b (Instr.ready c)
 l2_27:∀a b c d e f,Al Q φ g a b c d (Instr.keyThatStays e f)
 l2_28:∀a b c d e,Al Q φ g true a true b (Instr.next c d e)
 l2_29:∀a b c d,Al Q φ g true a b c (Instr.entry d)
 l2_30:∀a b c,Al Q φ g true a true b (PL c)
 l2_31:∀a b c d,Al Q φ g a b c d Extern.PrintPieces.held
 l2_32:∀a b c d e f,Al Q φ g a b c d (Instr.extract e f)
 l2_33:∀a b c d e f h i,Al Q φ g a b c d (Op.intArith e f h i)
 l2_34:∀a b c d e f h i,Al Q φ g a b c d (Op.intBits e f h i)
 l2_35:∀a b c d e f h,Al Q φ g a b c d (Op.intCmp e f h)
 l2_36:∀a b c d e f h i,Al Q φ g a b c d (Op.floatArith e f h i)
 l2_37:∀a b c d e f h i,Al Q φ g a b c d (Op.floatCmp e f h i)
 l2_38:∀a b c d e f h,Al Q φ g a b c d (Qo e f h)
 l2_39:∀a b c d e f h,Al Q φ g a b c d (Op.stringOp e f h)
 l2_40:∀a b c d e f h,Al Q φ g a b c d (Qw e f h)
 l2_41:∀a b c d e f,Al Q φ g a b c d (Ql e f)
 l2_42:∀a b c d e,Al Q φ g a b c d (QN e)
set_option maxHeartbeats 4000000 in
instance:L2 Q φ g:=by
 constructor;case l2_0=>
  intro _ _ _ _ a i n acc;induction n generalizing i acc
  all_goals
   unfold loadCellsFrom;exact aA
 case l2_1=>
  intro _ _ _ _ a vs i;induction vs generalizing i
  all_goals
   unfold storeCells;exact aA
 case l2_2=>
  intro _ _ _ _ a acc n;induction n generalizing a acc
  all_goals
   unfold loadBytes;exact aA
 case l2_3=>
  intro _ _ _ _ x0 x1 x2;unfold Builtin.complex_;obtain⟨l⟩:=x2;rcases l with _|⟨a,_|⟨b,_|⟨c,l⟩⟩⟩
  all_goals first
   |exact⟨trivial,fun _=>.inr (.inr trivial)⟩
   |(cases a<;>first
    |exact⟨trivial,fun _=>.inr (.inr trivial)⟩
    |(cases b<;>first
     |exact⟨trivial,fun _=>.inr (.inr trivial)⟩
     |(rename_i o;cases o<;>(
    exact aU))
     |(
    exact aU)))
 case l2_4=>
  intro _ _ _ _ x0 x1 x2;unfold Builtin.imag_;obtain⟨l⟩:=x2;rcases l with _|⟨a,_|⟨b,l⟩⟩
  all_goals first
   |exact⟨trivial,fun _=>.inr (.inr trivial)⟩
   |(cases a<;>first
    |exact⟨trivial,fun _=>.inr (.inr trivial)⟩
    |exact eZ
    |(rename_i o;cases o<;>first
     |exact⟨trivial,fun _=>.inr (.inr trivial)⟩
     |exact eZ
     |(
    exact aU))
    |(
    exact aU))
 case l2_5=>
  intro _ _ _ _ x0 x1 x2;unfold Builtin.real_;obtain⟨l⟩:=x2;rcases l with _|⟨a,_|⟨b,l⟩⟩
  all_goals first
   |exact⟨trivial,fun _=>.inr (.inr trivial)⟩
   |(cases a<;>first
    |exact⟨trivial,fun _=>.inr (.inr trivial)⟩
    |exact eZ
    |(rename_i o;cases o<;>first
     |exact⟨trivial,fun _=>.inr (.inr trivial)⟩
     |exact eZ
     |(
    exact aU))
    |(
    exact aU))
 all_goals
  intros
  first |unfold askRoom|unfold viewAt|unfold numberAt|unfold cellsIn|unfold asNumber|unfold markStringish|unfold stringish|unfold typeInfo|unfold underlying|unfold cutType|unfold globalAddr|unfold newRow|unfold panicString|unfold asIntOf|unfold asBool|unfold asAgg|unfold Q2|unfold variablesAt|unfold Qy|unfold Instr.waits|unfold Instr.ready|unfold Instr.keyThatStays|unfold Instr.next |unfold Instr.entry|unfold PL|unfold Extern.PrintPieces.held|unfold Instr.extract|unfold Op.intArith|unfold Op.intBits|unfold Op.intCmp|unfold Op.floatArith|unfold Op.floatCmp|unfold Qo|unfold Op.stringOp|unfold Qw|unfold Ql|unfold QN
  exact aA
attribute [instance] L2.l2_0 L2.l2_1 L2.l2_2 L2.l2_3 L2.l2_4 L2.l2_5 L2.l2_6 L2.l2_7 L2.l2_8 L2.l2_9 L2.l2_10 L2.l2_11 L2.l2_12 L2.l2_13 L2.l2_14 L2.l2_15 L2.l2_16 L2.l2_17 L2.l2_18 L2.l2_19 L2.l2_20 L2.l2_21 L2.l2_22 L2.l2_23 L2.l2_24 L2.l2_25 L2.l2_26 L2.l2_27 L2.l2_28 L2.l2_29 L2.l2_30 L2.l2_31 L2.l2_32 L2.l2_33 L2.l2_34 L2.l2_35 L2.l2_36 L2.l2_37 L2.l2_38 L2.l2_39 L2.l2_40 L2.l2_41 L2.l2_42
instance(x0:_)(x1:_):Al Q φ g true n true d (Go.Instr.range x0 x1):=by
 unfold Go.Instr.range;refine aB zq2 (fun d=> ?_);split
 ·exact⟨⟨fun _=>trivial,nofun⟩,fun _=>trivial⟩
 ·exact⟨⟨fun _=>trivial,nofun⟩,fun _=>trivial⟩
 ·refine⟨fun o _=> ?_,.inl ⟨rfl,_,rfl,trivial⟩⟩;cases o<;>first |exact⟨trivial,fun _=>.inr (.inr trivial)⟩|exact⟨⟨fun _=>trivial,nofun⟩,fun _=>trivial⟩
 ·exact⟨trivial,fun _=>.inr (.inr trivial)⟩
theorem JN{α:Type}(l:Nat){f:Loop→Sem α}(h:∀r,(g=true→JZ r)→Al Q φ g true n z d (f r)):Al Q φ g true n z d (Q8 l>>=f):=by
 refine⟨fun o ho=> ?_,.inl ⟨rfl,_,rfl,trivial⟩⟩;cases o with
 |loop r=>exact(h r fun e=>(ho e).loop).al
 |_=>exact⟨trivial,fun _=>.inr (.inr trivial)⟩
instance(l:Nat):Al Q φ g true n z d (Q8 l):=by
 refine⟨fun o ho=> ?_,.inl ⟨rfl,_,rfl,trivial⟩⟩;cases o<;>first |trivial|exact⟨trivial,fun _=>.inr (.inr trivial)⟩
theorem pS(f:_)(t:_)(ps:_)(a b:Code)(r:_)(ha:g=true→cW a=true)(hb:g=true→cW b=true):Al Q φ g true n true d (PN f t ps a b r):=by
 have h:∀d:Nat,wu g true (.loop {state:=.ready,pending:=none,fn:=f,tmps:=t,params:=ps,assign:=a,body:=b,defers:=d}):=fun d=>⟨fun e=>⟨ha e,hb e,nofun⟩,nofun⟩
 cases r with
 |none=>exact aB (s:=newObj (.deferred (some []))) zq2 fun x=>aB (s:=newObj (.loop _)) zq2 fun y=>eZ
 |some l=>exact JN l fun x _=>aB (s:=newObj (.loop _)) zq2 fun y=>eZ
theorem qX(l:Nat)(j:Option Code)(hj:g=true→∀c,j=some c→cW c=true):Al Q φ g true n true d (No l j):=by
 unfold No;refine JN l fun r hr=> ?_
 have h:wu g true (.loop {r with state:=if j.isNone then .ready else .done,pending:=j}):=⟨fun e=>⟨(hr e).1,(hr e).2.1,hj e⟩,nofun⟩;exact zq2
theorem lW(l:Nat)(d0:Q6)(hd:g=true→oG d0):Al Q φ g true n true d (PM l d0):=by
 unfold PM;refine aB zq2 (fun r=> ?_);dsimp only;refine⟨fun o ho=> ?_,.inl ⟨rfl,_,rfl,trivial⟩⟩;cases o with
 |deferred ds=>
  cases ds with
  |none=>exact⟨trivial,nofun⟩
  |some ds=>exact⟨⟨rfl,fun e x hx=>(List.mem_cons.1 hx).elim (fun e'=>e'▸hd e) ((ho e).ds x)⟩,trivial⟩
 |_=>exact⟨trivial,nofun⟩
class L3(Q:AI)(φ:Nat→Func→Func)(g:Bool):Prop where
 l3_0:∀a b c d e,Al Q φ g a b c d (behindNumber e)
 l3_1:∀a b c d e,Al Q φ g a b c d (noView e)
 l3_2:∀a b c d e f,Al Q φ g a b c d (mayBeOne e f)
 l3_3:∀a b c d e,Al Q φ g a b c d (typeStr e)
 l3_4:∀a b c d e,Al Q φ g a b c d (zeroValue e)
 l3_5:∀a b c d e,Al Q φ g a b c d (sizeOf e)
 l3_6:∀a b c d e,Al Q φ g a b c d (isAgg e)
 l3_7:∀a b c d e f,Al Q φ g a b c d (loadCells e f)
 l3_8:∀a b c d e f,Al Q φ g a b c d (newVar e f)
 l3_9:∀a b c d e,Al Q φ g a b c d (elemOf e)
 l3_10:∀a b c d e,Al Q φ g a b c d (asInt e)
 l3_11:∀a b c d e f,Al Q φ g a b c d (Qh e f)
 l3_12:∀a b c d e,Al Q φ g true a b c (Qd d e)
 l3_13:∀a b c d e f,Al Q φ g a b c d (Builtin.printOne e f)
 l3_14:∀a b(c d:Array PJ)(e:Array By),Al Q φ g a b true false (Extern.PrintPieces.piece c d e)
 l3_15:∀a b c d e f h i,Al Q φ g a b c d (Op.Complex.arith e f h i)
 l3_16:∀a b c d e f h i,Al Q φ g a b c d (Op.Complex.cmp e f h i)
 l3_17:∀a b c d e f h,Al Q φ g a b c d (Op.Complex.conv e f h)
 l3_18:∀a b c d e f,Al Q φ g a b c d (Op.unary e f)
 l3_19:∀a b c d e f h i,Al Q φ g a b c d (Conv.complexToComplex e f h i)
 l3_20:∀a b c d e,Al Q φ g a b true c (Conv.stringToBytes d e)
 l3_21:∀a b c d e f,Al Q φ g a b c d (Conv.stringToRunes e f)
 l3_22:∀a b c d e,Al Q φ g a b c d (Conv.seenAt e)
 l3_23:∀a b c d e f h i j,Al Q φ g a b c d (Qt e f h i j)
 l3_24:∀a b c d e f,Al Q φ g true a b c (Builtin.cap_ d e f)
 l3_25:∀a b c d e f,Al Q φ g true a b c (QY d e f)
 l3_26:∀a b c d e f,Al Q φ g a b c d (Builtin.max2 e f)
 l3_27:∀a b c d e f,Al Q φ g a b c d (QX e f)
 l3_28:∀a b c d e f h,Al Q φ g a b c d (resolve e f h)
set_option maxHeartbeats 4000000 in
instance:L3 Q φ g:=by
 constructor;all_goals
  intros
  first |unfold behindNumber|unfold noView|unfold mayBeOne|unfold typeStr|unfold zeroValue|unfold sizeOf|unfold isAgg|unfold loadCells|unfold newVar|unfold elemOf|unfold asInt|unfold Qh|unfold Qd|unfold Builtin.printOne|unfold Extern.PrintPieces.piece|unfold Op.Complex.arith|unfold Op.Complex.cmp|unfold Op.Complex.conv|unfold Op.unary|unfold Conv.complexToComplex|unfold Conv.stringToBytes|unfold Conv.stringToRunes|unfold Conv.seenAt|unfold Qt|unfold Builtin.cap_|unfold QY|unfold Builtin.max2|unfold QX|unfold resolve
  exact aA
attribute [instance] L3.l3_0 L3.l3_1 L3.l3_2 L3.l3_3 L3.l3_4 L3.l3_5 L3.l3_6 L3.l3_7 L3.l3_8 L3.l3_9 L3.l3_10 L3.l3_11 L3.l3_12 L3.l3_13 L3.l3_14 L3.l3_15 L3.l3_16 L3.l3_17 L3.l3_18 L3.l3_19 L3.l3_20 L3.l3_21 L3.l3_22 L3.l3_23 L3.l3_24 L3.l3_25 L3.l3_26 L3.l3_27 L3.l3_28
class L4(Q:AI)(φ:Nat→Func→Func)(g:Bool):Prop where
 l4_0:∀a b c d e f h,Al Q φ g a b c d (Qk e f h)
 l4_1:∀a b c d e f,Al Q φ g a b true c (Builtin.unsafeSliceData_ d e f)
 l4_2:∀a b c d e f,Al Q φ g a b true c (Builtin.unsafeStringData_ d e f)
 l4_3:∀a b c d e f,Al Q φ g a b c d (sameAddr e f)
 l4_4:∀a b c d e f,Al Q φ g a b c d (loadVar e f)
 l4_5:∀a b c d e f h,Al Q φ g a b c d (storeVar e f h)
 l4_6:∀a b c d e f h,Al Q φ g a b c d (part e f h)
 l4_7:∀α a b c d e,Al Q φ g a b c d (Q3 (α:=α) e)
 l4_8:∀a b c d e,Al Q φ g a b c d (byteOf e)
 l4_9:∀a b c d e f,Al Q φ g a b c d (Instr.box e f)
 l4_10:∀a b c d e f,Al Q φ g a b c d (Instr.build e f)
 l4_11:∀a b c d e f h,Al Q φ g a b c d (Qr e f h)
 l4_12:∀a b c d e,Al Q φ g a b true c (Instr.makeMap d e)
 l4_13:∀a b c d e f,Al Q φ g true a true b (Instr.entryStore c d e f)
 l4_14:∀a b c d e f h,Al Q φ g a b true c (Builtin.pieces d e f h)
 l4_15:∀a b c d e f,Al Q φ g a b c d (Op.Complex.add e f)
 l4_16:∀a b c d e f,Al Q φ g a b c d (Op.Complex.sub e f)
 l4_17:∀a b c d e f,Al Q φ g a b c d (Op.Complex.mul e f)
 l4_18:∀a b c d e f,Al Q φ g a b c d (Op.Complex.quo e f)
 l4_19:∀a b c d e,Al Q φ g a b c d (Conv.bytesToString e)
 l4_20:∀a b c d e,Al Q φ g a b c d (Conv.runesToString e)
 l4_21:∀a b c d e f,Al Q φ g a b true c (Conv.unsafePointer d e f)
 l4_22:∀a b c d e f h,Al Q φ g a b c d (Qm e f h)
 l4_23:∀a b c d e,Al Q φ g true a true b (Builtin.clear_ c d e)
 l4_24:∀a b c d e f h,Al Q φ g a b c d (Builtin.max_ e f h)
 l4_25:∀a b c d e f h,Al Q φ g a b c d (QW e f h)
set_option maxHeartbeats 4000000 in
instance:L4 Q φ g:=by
 constructor;case l4_0=>
  intro _ _ _ _ x0 x1 x2;unfold Qk;obtain⟨l⟩:=x2;rcases l with _|⟨a,_|⟨b,_|⟨c,l⟩⟩⟩
  all_goals first
   |exact⟨trivial,fun _=>.inr (.inr trivial)⟩
   |(cases a<;>first
    |exact⟨trivial,fun _=>.inr (.inr trivial)⟩
    |(cases b<;>first
     |exact⟨trivial,fun _=>.inr (.inr trivial)⟩
     |(rename_i o;cases o<;>(
    exact aU))
     |(
    exact aU)))
 case l4_1=>
  intro _ _ _ x0 x1 x2;unfold Builtin.unsafeSliceData_;obtain⟨l⟩:=x2;rcases l with _|⟨a,_|⟨b,l⟩⟩
  all_goals first
   |exact⟨trivial,fun _=>.inr (.inr trivial)⟩
   |(cases a<;>first
    |exact⟨trivial,fun _=>.inr (.inr trivial)⟩
    |exact eZ
    |(rename_i o _ _;cases o<;>first
     |exact⟨trivial,fun _=>.inr (.inr trivial)⟩
     |exact eZ
     |(
    exact aU))
    |(
    exact aU))
 case l4_2=>
  intro _ _ _ x0 x1 x2;unfold Builtin.unsafeStringData_;obtain⟨l⟩:=x2;rcases l with _|⟨a,_|⟨b,l⟩⟩
  all_goals first
   |exact⟨trivial,fun _=>.inr (.inr trivial)⟩
   |(cases a<;>first
    |exact⟨trivial,fun _=>.inr (.inr trivial)⟩
    |exact eZ
    |(rename_i o;cases o<;>first
     |exact⟨trivial,fun _=>.inr (.inr trivial)⟩
     |exact eZ
     |(
    exact aU))
    |(
    exact aU))
 all_goals
  intros
  first |unfold sameAddr|unfold loadVar|unfold storeVar|unfold part|unfold Q3|unfold byteOf|unfold Instr.box|unfold Instr.build|unfold Qr|unfold Instr.makeMap|unfold Instr.entryStore|unfold Builtin.pieces|unfold Op.Complex.add|unfold Op.Complex.sub|unfold Op.Complex.mul|unfold Op.Complex.quo|unfold Conv.bytesToString|unfold Conv.runesToString|unfold Conv.unsafePointer|unfold Qm|unfold Builtin.clear_|unfold Builtin.max_|unfold QW
  exact aA
attribute [instance] L4.l4_0 L4.l4_1 L4.l4_2 L4.l4_3 L4.l4_4 L4.l4_5 L4.l4_6 L4.l4_7 L4.l4_8 L4.l4_9 L4.l4_10 L4.l4_11 L4.l4_12 L4.l4_13 L4.l4_14 L4.l4_15 L4.l4_16 L4.l4_17 L4.l4_18 L4.l4_19 L4.l4_20 L4.l4_21 L4.l4_22 L4.l4_23 L4.l4_24 L4.l4_25
instance(x0:_)(x1:_)(x2:_):Al Q φ g true n true d (QB x0 x1 x2):=by
 unfold QB;obtain⟨l⟩:=x2;rcases l with _|⟨a,_|⟨b,l⟩⟩
 all_goals first
  |exact⟨trivial,fun _=>.inr (.inr trivial)⟩
  |(cases a<;>first
   |exact⟨trivial,fun _=>.inr (.inr trivial)⟩
   |(rename_i o;cases o<;>first
    |exact(zq2:Al Q φ g true n true d (Q3 _:Sem By))
    |(refine aG (fun o=> ?_) (.inl ⟨rfl,_,rfl,trivial⟩);cases o<;>(dsimp only;repeat' (first
     |exact zq2
     |(refine aB ?_ (fun _=> ?_))
     |split)))))
instance Mn(l:Nat):Al Q φ g true n true d (PR l):=by
 unfold PR;refine JN l fun r hr=> ?_
 have h:wu g true (.loop {r with state:=.busy}):=⟨hr,nofun⟩;repeat' (first
  |exact zq2
  |(refine aB ?_ (fun _=> ?_))
  |split)
instance Nq(l:Nat):Al Q φ g true n true d (PU l):=by
 unfold PU;refine JN l fun r hr=> ?_
 have h:wu g true (.loop {r with state:=.exhausted}):=⟨hr,nofun⟩;repeat' (first
  |exact zq2
  |(refine aB ?_ (fun _=> ?_))
  |(refine aI ?_ ?_)
  |split)
class L5(Q:AI)(φ:Nat→Func→Func)(g:Bool):Prop where
 l5_0:∀a b c e d t x y,Al Q φ g a b c e (Op.eqGuardIn d t x y)
 l5_1:∀a b c d e n t v,Al Q φ g a b c d (Instr.checkKey e n t v)
 l5_2:∀a b c d p t x,Al Q φ g a b c d (followBlind p t x)
 l5_3:∀a b c d e f h,Al Q φ g a b c d (Builtin.ssaWrapNilChk_ e f h)
 l5_4:∀a b c d e f,Al Q φ g a b true c (Builtin.unsafeSlice_ d e f)
 l5_5:∀a b c d e f,Al Q φ g a b true c (Builtin.unsafeString_ d e f)
 l5_6:∀a b c d e f,Al Q φ g a b c d (samePointer e f)
 l5_7:∀α a b c d e f h i,Al Q φ g a b c d (boundsPanic (α:=α) e f h i)
 l5_8:∀a b c d e,Al Q φ g a b c d (asAddr e)
 l5_9:∀a b c d e f h,Al Q φ g a b c d (Instr.alloc e f h)
 l5_10:∀a b c d e f h,Al Q φ g a b c d (partAt e f h)
 l5_11:∀a b c d e f,Al Q φ g a b c d (Instr.loadAt e f)
 l5_12:∀a b c d e f h,Al Q φ g a b c d (Instr.storeAt e f h)
 l5_13:∀a b c d e f,Al Q φ g a b c d (Instr.arrayAt e f)
 l5_14:∀a b c d e,Al Q φ g a b true c (Instr.makeChan d e)
 l5_15:∀a b c d e f,Al Q φ g a true b c (Instr.makeSlice d e f)
 l5_16:∀a b c d e f h,Al Q φ g a b c d (Instr.field e f h)
 l5_17:∀a b c d e f,Al Q φ g a b c d (Place.get e f)
 l5_18:∀a b c d e f,Al Q φ g a b true false (PK c d e f)
 l5_19:∀a b c d e f h i,Al Q φ g a b c d (Qp e f h i)
 l5_20:∀a b c d e,Al Q φ g a b c d (Instr.panic e)
 l5_21:∀a b c d e f h i,Al Q φ g a b c d (Op.intDiv e f h i)
 l5_22:∀a b c d e f h i j,Al Q φ g a b c d (Op.shift e f h i j)
 l5_23:∀a b c d e f h i,Al Q φ g a b c d (Op.Complex.product e f h i)
 l5_24:∀a b c d e f h i j,Al Q φ g a b c d (Op.Complex.corrected e f h i j)
 l5_25:∀a b c d e f,Al Q φ g a b c d (Op.twoPlaces e f)
 l5_26:∀a b c d e f h,Al Q φ g a b c d (Op.addrMod e f h)
 l5_27:∀a b c d e f,Al Q φ g a true b c (Qx d e f)
 l5_28:∀a b c d e f h,Al Q φ g a b c d (Builtin.copy_ e f h)
 l5_29:∀a b c d e f h,Al Q φ g a b c d (movedNumber e f h)
 l5_30:∀a b c d e f h,Al Q φ g a b c d (movedPointer e f h)
 l5_31:∀a b c d e f,Al Q φ g a b true c (convert d e f)
set_option maxHeartbeats 4000000 in
instance:L5 Q φ g:=by
 constructor;case l5_0=>
  intro _ _ _ _ d t x y;induction d generalizing t x y
  all_goals
   unfold Op.eqGuardIn;exact aA
 case l5_1=>
  intro _ _ _ _ e n t v;induction n generalizing t v
  all_goals
   unfold Instr.checkKey;exact aA
 case l5_2=>
  intro _ _ _ _ p t x;induction p generalizing t x
  all_goals
   unfold followBlind;exact aA
 case l5_3=>
  intro _ _ _ _ x0 x1 x2;unfold Builtin.ssaWrapNilChk_;obtain⟨l⟩:=x2;rcases l with _|⟨a,_|⟨b,_|⟨c,_|⟨d,l⟩⟩⟩⟩
  all_goals first
   |exact⟨trivial,fun _=>.inr (.inr trivial)⟩
   |(cases b<;>first
    |exact⟨trivial,fun _=>.inr (.inr trivial)⟩
    |(cases c<;>first
     |exact⟨trivial,fun _=>.inr (.inr trivial)⟩
     |(cases a<;>first
      |exact⟨trivial,fun _=>.inr (.inr trivial)⟩
      |(rename_i o;cases o<;>(
    exact aU)))))
 case l5_4=>
  intro _ _ _ x0 x1 x2;unfold Builtin.unsafeSlice_;obtain⟨l⟩:=x2;rcases l with _|⟨a,_|⟨b,_|⟨c,l⟩⟩⟩
  all_goals first
   |exact⟨trivial,fun _=>.inr (.inr trivial)⟩
   |(cases a<;>first
    |exact⟨trivial,fun _=>.inr (.inr trivial)⟩
    |(cases b<;>first
     |exact⟨trivial,fun _=>.inr (.inr trivial)⟩
     |(rename_i o;cases o<;>(
    exact aU))
     |(
    exact aU)))
 case l5_5=>
  intro _ _ _ x0 x1 x2;unfold Builtin.unsafeString_;obtain⟨l⟩:=x2;rcases l with _|⟨a,_|⟨b,_|⟨c,l⟩⟩⟩
  all_goals first
   |exact⟨trivial,fun _=>.inr (.inr trivial)⟩
   |(cases a<;>first
    |exact⟨trivial,fun _=>.inr (.inr trivial)⟩
    |(cases b<;>first
     |exact⟨trivial,fun _=>.inr (.inr trivial)⟩
     |(rename_i o;cases o<;>(
    exact aU))
     |(
    exact aU)))
 all_goals
  intros
  first |unfold samePointer|unfold boundsPanic|unfold asAddr|unfold Instr.alloc|unfold partAt|unfold Instr.loadAt|unfold Instr.storeAt|unfold Instr.arrayAt|unfold Instr.makeChan|unfold Instr.makeSlice|unfold Instr.field|unfold Place.get|unfold PK|unfold Qp|unfold Instr.panic|unfold Op.intDiv|unfold Op.shift|unfold Op.Complex.product|unfold Op.Complex.corrected|unfold Op.twoPlaces|unfold Op.addrMod|unfold Qx|unfold Builtin.copy_|unfold movedNumber|unfold movedPointer|unfold convert
  exact aA
attribute [instance] L5.l5_0 L5.l5_1 L5.l5_2 L5.l5_3 L5.l5_4 L5.l5_5 L5.l5_6 L5.l5_7 L5.l5_8 L5.l5_9 L5.l5_10 L5.l5_11 L5.l5_12 L5.l5_13 L5.l5_14 L5.l5_15 L5.l5_16 L5.l5_17 L5.l5_18 L5.l5_19 L5.l5_20 L5.l5_21 L5.l5_22 L5.l5_23 L5.l5_24 L5.l5_25 L5.l5_26 L5.l5_27 L5.l5_28 L5.l5_29 L5.l5_30 L5.l5_31
class L6(Q:AI)(φ:Nat→Func→Func)(g:Bool):Prop where
 l6_0:∀a b c e d t x y,Al Q φ g a b c e (Op.equalIn d t x y)
 l6_1:∀a b c d n t v s,Al Q φ g a b c d (nilAhead n t v s)
 l6_2:∀a b c d e f h,Al Q φ g a b c d (Qq e f h)
 l6_3:∀a b c d e f,Al Q φ g a b c d (fieldPlace e f)
 l6_4:∀a b c d e f h,Al Q φ g a b c d (Instr.indexAt e f h)
 l6_5:∀a b c d e f h,Al Q φ g a b c d (Instr.index e f h)
 l6_6:∀a b c d e f h i,Al Q φ g a b c d (receiverAt e f h i)
 l6_7:∀a b c d e f h i,Al Q φ g a b c d (Op.Complex.quotient e f h i)
 l6_8:∀a b c d e f h,Al Q φ g a b c d (Op.addrSub e f h)
 l6_9:∀a b c d e f h,Al Q φ g a b c d (Op.addrCmp e f h)
 l6_10:∀a b c d e f h i j k,Al Q φ g a b c d (eqGuard e f h i j k)
set_option maxHeartbeats 4000000 in
instance:L6 Q φ g:=by
 constructor;case l6_0=>
  intro _ _ _ _ d t x y;induction d generalizing t x y
  all_goals
   unfold Op.equalIn;exact aA
 case l6_1=>
  intro _ _ _ _ n t v s;induction n generalizing t v
  all_goals
   unfold nilAhead;exact aA
 all_goals
  intros
  first |unfold Qq|unfold fieldPlace|unfold Instr.indexAt|unfold Instr.index|unfold receiverAt|unfold Op.Complex.quotient|unfold Op.addrSub|unfold Op.addrCmp|unfold eqGuard
  exact aA
attribute [instance] L6.l6_0 L6.l6_1 L6.l6_2 L6.l6_3 L6.l6_4 L6.l6_5 L6.l6_6 L6.l6_7 L6.l6_8 L6.l6_9 L6.l6_10
class L7(Q:AI)(φ:Nat→Func→Func)(g:Bool):Prop where
 l7_0:∀a b c d p t x,Al Q φ g a b c d (follow p t x)
 l7_1:∀a b c d e f h i j k,Al Q φ g a b c d (Qn e f h i j k)
 l7_2:∀a b c d e f h,Al Q φ g a b c d (Instr.fieldAt e f h)
 l7_3:∀a b c d e f h,Al Q φ g a b c d (Op.equal e f h)
 l7_4:∀a b c d e f h i j k,Al Q φ g a b c d (Op.complexOp e f h i j k)
set_option maxHeartbeats 4000000 in
instance:L7 Q φ g:=by
 constructor;case l7_0=>
  intro _ _ _ _ p t x;induction p generalizing t x
  all_goals
   unfold follow;exact aA
 all_goals
  intros
  first |unfold Qn|unfold Instr.fieldAt|unfold Op.equal|unfold Op.complexOp
  exact aA
attribute [instance] L7.l7_0 L7.l7_1 L7.l7_2 L7.l7_3 L7.l7_4
class L8(Q:AI)(φ:Nat→Func→Func)(g:Bool):Prop where
 l8_0:∀a b c d t k es i,Al Q φ g a b c d (Instr.findAsking t k es i)
 l8_1:∀a b c d n t v s,Al Q φ g a b c d (method n t v s)
 l8_2:∀a b c d e f h i j,Al Q φ g a b c d (Instr.slice e f h i j)
 l8_3:∀a b c d e f h i,Al Q φ g a b c d (receiverVia e f h i)
 l8_4:∀a b c d e f h i,Al Q φ g a b c d (binOp e f h i)
set_option maxHeartbeats 4000000 in
instance:L8 Q φ g:=by
 constructor;case l8_0=>
  intro _ _ _ _ t k es i;induction es generalizing i
  all_goals
   unfold Instr.findAsking;exact aA
 case l8_1=>
  intro _ _ _ _ n t v s;induction n generalizing t v
  all_goals
   unfold method;exact aA
 all_goals
  intros
  first |unfold Instr.slice|unfold receiverVia|unfold binOp
  exact aA
attribute [instance] L8.l8_0 L8.l8_1 L8.l8_2 L8.l8_3 L8.l8_4
class L9(Q:AI)(φ:Nat→Func→Func)(g:Bool):Prop where
 l9_0:∀a b c d e f h i j,Al Q φ g a b c d (Instr.sliceAt e f h i j)
 l9_1:∀a b c d e f h,Al Q φ g a b c d (Instr.findKey e f h)
set_option maxHeartbeats 4000000 in
instance:L9 Q φ g:=by
 constructor;all_goals
  intros
  first |unfold Instr.sliceAt|unfold Instr.findKey
  exact aA
attribute [instance] L9.l9_0 L9.l9_1
class Hf(Q:AI)(φ:Nat→Func→Func)(g:Bool):Prop where
 l10_0:∀a b c d e f h,Al Q φ g true a b c (Instr.lookup d e f h)
 l10_1:∀a b c d e f,Al Q φ g true a true b (Instr.mapUpdate c d e f)
 l10_2:∀a b c d e,Al Q φ g true a true b (Instr.mapEntry c d e)
 l10_3:∀a b c d e,Al Q φ g true a true b (Builtin.delete_ c d e)
set_option maxHeartbeats 4000000 in
instance:Hf Q φ g:=by
 constructor;all_goals
  intros
  first |unfold Instr.lookup|unfold Instr.mapUpdate|unfold Instr.mapEntry|unfold Builtin.delete_
  exact aA
attribute [instance] Hf.l10_0 Hf.l10_1 Hf.l10_2 Hf.l10_3
class Nt(Q:AI)(φ:Nat→Func→Func)(g:Bool):Prop where
 l11_0:∀a b c d e,Al Q φ g true true true false (builtin a b c d e)
set_option maxHeartbeats 4000000 in
instance:Nt Q φ g:=by
 constructor;all_goals
  intros
  first |unfold builtin
  exact aA
attribute [instance] Nt.l11_0
theorem cT(P:AI){mk:Bool}(f:_)(t:_)(ps:_)(a b:Code)(r:_)(ha:cW a=true)(hb:cW b=true):bN P true mk (PN f t ps a b r):=st_al (h:=pS f t ps a b r (fun _=>ha) fun _=>hb)
theorem dW(P:AI){mk:Bool}(l:Nat):bN P true mk (PR l):=zq2
theorem jP(P:AI){mk:Bool}(l:Nat)(j:Option Code)(hj:∀c,j=some c→cW c=true):bN P true mk (No l j):=st_al (h:=qX l j fun _=>hj)
theorem nV(P:AI){mk:Bool}(l:Nat):bN P true mk (PU l):=zq2
theorem kz(P:AI){mk:Bool}(l:Nat)(d:Q6)(hd:oG d):bN P true mk (PM l d):=st_al (h:=lW l d fun _=>hd)
theorem pZ(P:AI){mk:Bool}(x0:_):bN P true mk (PL x0):=zq2
instance ly(P:AI){dy mk:Bool}(x0 x1:Array PJ)(x2:Array By):bN P dy mk (Extern.PrintPieces.piece x0 x1 x2):=by
 unfold Extern.PrintPieces.piece;repeat' (first
  |exact zq2
  |(refine @aS _ _ _ _ _ _ _ _ ?_ (fun _=> ?_))
  |(refine @kT _ _ _ _ _ _ _ _ _ ?_ ?_)
  |split
  |(intro _)
  |dsimp only)
end
end
section
variable{Q:AI}
instance(priority:=low) sm_al{α:Type}{φ:Nat→Func→Func}{s:Sem α}[h: @Al fK _ Q φ false true true true false s]:Sm Q φ s:=⟨(@mC fK _ _ _ _ _ _ _ _ h.al).1⟩
instance(priority:=low) hu_al{α:Type}{s:Sem α}[h: @Al fK _ Q (fun _ f=>f) false true true true true s]:Hu Q s:=⟨(@mC fK _ _ _ _ _ _ _ _ h.al).2.1 rfl⟩
instance(priority:=low) nf_al{α:Type}{s:Sem α}[h: @Al fK _ Q (fun _ f=>f) false true true false true s]:Nf Q s:=⟨(@mC fK _ _ _ _ _ _ _ _ h.al).2.2 rfl⟩
instance{φ:Nat→Func→Func}(f:_)(t:_)(ps:_)(a b:Code)(r:_):Sm Q φ (PN f t ps a b r):=sm_al (h:= @pS fK _ _ _ _ _ f t ps a b r nofun nofun)
instance{φ:Nat→Func→Func}(l:Nat)(j:Option Code):Sm Q φ (No l j):=sm_al (h:= @qX fK _ _ _ _ _ l j nofun)
instance{φ:Nat→Func→Func}(l:Nat)(d:Q6):Sm Q φ (PM l d):=sm_al (h:= @lW fK _ _ _ _ _ l d nofun)
instance(f:_)(t:_)(ps:_)(a b:Code)(r:_):Hu Q (PN f t ps a b r):=hu_al (h:= @pS fK _ _ _ _ _ f t ps a b r nofun nofun)
instance(l:Nat)(j:Option Code):Hu Q (No l j):=hu_al (h:= @qX fK _ _ _ _ _ l j nofun)
instance(l:Nat)(d:Q6):Hu Q (PM l d):=hu_al (h:= @lW fK _ _ _ _ _ l d nofun)
theorem rz(Q:AI)(φ:Nat→Func→Func)(l:Nat):Sm Q φ (PR l):=zq2
theorem HC(Q:AI)(φ:Nat→Func→Func)(x0 x1:Array PJ)(x2:Array By):Sm Q φ (Extern.PrintPieces.piece x0 x1 x2):=zq2
theorem Af{α:Type}{P:AI}{n:Nat}{f:Bool→Sem α}(hf:∀b,iy P n (f b)):iy P n (Extern.PrintPieces.held>>=f):=by
 show∀v:By,iy P n ((match v with | .bool b=>(pure b:Sem Bool)|_=>stuck "the print lock: a bool expected").bind f);intro v;cases v<;>first |exact hf _|exact .inr trivial
instance IK(P:AI)(x0 x1:Array PJ)(x2:Array By):Hu P (Extern.PrintPieces.piece x0 x1 x2):=by
 unfold Extern.PrintPieces.piece;split
 ·split
  ·dsimp only;refine fL ⟨.inl rfl⟩ ?_;have hrest:∀(a b:Bool)(p:ByteArray)(r:Next),Hu P (writeFd 2 p>>=fun _=>if a=true then pure r else if b=true then(mark .disable>>=fun _=>program>>=fun q=>store (printLock q) (.bool false) .atomic>>=fun _=>mark .enable>>=fun _=>pure (.value (.tuple #[])))else pure (.value (.tuple #[]))):=fun a b p r=>by
    refine cq zq2 fun _=>fL zq2 (fL ⟨?_⟩ zq2)
    show 0<1∧(0:Nat)=0;exact⟨Qc,rfl⟩
   have hrest2:∀(b:Bool)(p:ByteArray),Hu P (writeFd 2 p>>=fun _=>if b=true then(mark .disable>>=fun _=>program>>=fun q=>store (printLock q) (.bool false) .atomic>>=fun _=>mark .enable>>=fun _=>pure (Next.value (.tuple #[])))else pure (.value (.tuple #[]))):=fun b p=>by
    refine cq zq2 fun _=>fL ⟨?_⟩ zq2
    show 0<1∧(0:Nat)=0;exact⟨Qc,rfl⟩
   refine fL ⟨?_⟩ (hrest _ _ _ _);refine Af (n:=1) fun b=> ?_
   split
   ·exact .inr trivial
   ·split
    ·exact⟨Qc,(show Hu P (writeFd 2 _>>=fun _=>pure (Next.row _ _))from cq zq2 fun _=>zq2).hu⟩
    ·exact⟨Qc,(hrest2 _ _).hu⟩
  ·repeat' (first
   |exact zq2
   |(refine cq ?_ (fun _=> ?_))
   |(refine fL ?_ ?_)
   |split
   |(intro _)
   |dsimp only)
 ·repeat' (first
   |exact zq2
   |(refine cq ?_ (fun _=> ?_))
   |(refine fL ?_ ?_)
   |split
   |(intro _)
   |dsimp only)
instance(P:AI)(x0:_)(x1:_)(x2:_)(x3:_):Hu P (PK x0 x1 x2 x3):=by
 unfold PK;repeat' (first
  |exact zq2
  |(refine cq ?_ (fun _=> ?_))
  |(refine fL ?_ ?_)
  |split
  |(intro _)
  |dsimp only)
instance(P:AI)(x0:_)(x1:_)(x2:_)(x3:_)(x4:_):Hu P (builtin x0 x1 x2 x3 x4):=by
 unfold builtin;repeat' (first
  |exact zq2
  |(refine cq ?_ (fun _=> ?_))
  |(refine fL ?_ ?_)
  |split
  |(intro _)
  |dsimp only)
end
end
section
variable[aJ]
theorem F2{α:Type}{P:AI}{dy mk:Bool}{s:Sem α}(h:ct P dy false s):ct P dy mk s:=by
 induction s with
 |pure a=>trivial
 |halt x=>exact h
 |load m a k ih=>exact fun v=>ih v (h v)
 |store m a v k ih=>exact ih h
 |new o k ih=>exact⟨h.1,fun v=>ih v (h.2 v)⟩
 |shape r k ih=>exact fun v=>ih v (h v)
 |freeze a n k ih=>exact ih h
 |frozen a k ih=>exact fun v=>ih v (h v)
 |getObj r k ih=>exact⟨fun v hv=>ih v (h.1 v hv),h.2⟩
 |setObj r o k ih=>exact⟨h.1,ih h.2⟩
 |choose q k ih=>exact fun v=>ih v (h v)
 |sys c k ih=>exact⟨h.1,fun v=>ih v (h.2 v)⟩
 |program k ih=>exact ih P h
 |mark m k ih=>exact⟨fun e=>absurd (h.1 e) (by decide),ih h.2⟩
theorem Jw{α:Type}{P:AI}{dy mk:Bool}{s:Sem α}(h:bN P dy false s):bN P dy mk s:=⟨F2 h.st⟩
def Sep(P:AI){α:Type}(s:Sem α):Prop:=ct P true false s∨ct P false true s
structure ei(P:AI):Prop where
 wait:∀g,aJ.lim≤g→P.stepOf g=none
 data:P.follows .staticDataAhead=true
 num:∀(f:Nat)(fn:Func),P.funcs[f]?=some fn→(fn.name== "runtime.NumGoroutine")=false
 next:∀(f:Nat)(fn:Func),P.funcs[f]?=some fn→fn.body.isNone=true→Qv fn=none
 ext:∀(f:Nat)(fn:Func),P.funcs[f]?=some fn→fn.body.isNone=true→∀e,Qe fn=some e→∀args,bN P true false (e args)
structure bw(P:AI):Prop extends ei P where
 nogo:∀(f:Nat)(fn:Func)(c:Code),P.funcs[f]?=some fn→fn.body=some c→cW c=true
instance{P:AI}:Coe (bw P) (ei P):=⟨bw.toei⟩
theorem oq{P:AI}(T:ei P){g:Nat}(hg:aJ.lim≤g)(fr:PD)(cs:List PD)(dy:Option Dying)(w:AS):early P fr cs dy g w= .ended (.unsupported (.initOrder g) (fr.pos P)) w:=by
 unfold early;dsimp only;rw[T.data,T.wait g hg];rfl
def printRow:String:= "runtime.print$piece"
def sQ:Next→Prop
 | .value _=>True
 | .skip=>True
 | .enter _ _=>True
 | .round _ _ _ a b=>cW a=true∧cW b=true
 | .recover=>True
 | .comm _ _ _=>aJ.cm
 | .defer d=>oG d
 | .row r _=>r=printRow
 |_=>False
def Leaf{α:Type}(P:AI)(Q:α→Prop):Sem α→Prop
 | .pure a=>Q a
 | .halt _=>True
 | .load _ _ k=>∀v,Leaf P Q (k v)
 | .store _ _ _ k=>Leaf P Q k
 | .new _ k=>∀v,Leaf P Q (k v)
 | .shape _ k=>∀v,Leaf P Q (k v)
 | .freeze _ _ k=>Leaf P Q k
 | .frozen _ k=>∀v,Leaf P Q (k v)
 | .getObj _ k=>∀v,po v→Leaf P Q (k v)
 | .setObj _ _ k=>Leaf P Q k
 | .choose _ k=>∀v,Leaf P Q (k v)
 | .sys _ k=>∀v,Leaf P Q (k v)
 | .program k=>Leaf P Q (k P)
 | .mark _ k=>Leaf P Q k
theorem ft{α β:Type}{P:AI}{Q:α→Prop}{R:β→Prop}{s:Sem α}{f:α→Sem β}(hs:Leaf P Q s)(hf:∀a,Q a→Leaf P R (f a)):Leaf P R (s>>=f):=by
 show Leaf P R (s.bind f);induction s with
 |pure a=>exact hf a hs
 |halt h=>trivial
 |load m a k ih=>exact fun v=>ih v (hs v)
 |store m a v k ih=>exact ih hs
 |new o k ih=>exact fun v=>ih v (hs v)
 |shape r k ih=>exact fun v=>ih v (hs v)
 |freeze a n k ih=>exact ih hs
 |frozen a k ih=>exact fun v=>ih v (hs v)
 |getObj r k ih=>exact fun v hv=>ih v (hs v hv)
 |setObj r o k ih=>exact ih hs
 |choose q k ih=>exact fun v=>ih v (hs v)
 |sys c k ih=>exact fun v=>ih v (hs v)
 |program k ih=>exact ih P hs
 |mark m k ih=>exact ih hs
theorem Iy{α:Type}{P:AI}{s:Sem α}:Leaf P (fun _=>True) s:=by
 induction s<;>first |trivial|(intro v;apply_assumption)|(intro v _;apply_assumption)|apply_assumption
theorem bK{α β:Type}{P:AI}{R:β→Prop}{s:Sem α}{f:α→Sem β}(hf:∀a,Leaf P R (f a)):Leaf P R (s>>=f):=ft Iy fun a _=>hf a
section
variable{P:AI}{R:Next→Prop}
theorem gT{α:Type}{Q:α→Prop}(e:RuntimeError):Leaf P Q (Q3 e:Sem α):=by
 unfold Q3;refine bK fun p=> ?_
 cases e<;>first |trivial|(refine bK fun _=> ?_;first |trivial|(refine bK fun _=> ?_;trivial))
theorem mT(T:bw P)(f:Qj)(args:Array By):Leaf P sQ (Qs f args):=by
 unfold Qs;show Leaf P sQ _;cases hf:P.funcs[f]? with
 |none=>show Leaf P sQ (match P.funcs[f]? with |none=>_|some fn=>_);rw[hf];trivial
 |some fn=>
  show Leaf P sQ (match P.funcs[f]? with |none=>_|some fn=>_);rw[hf];dsimp only;rw[T.num f fn hf];simp only[IN,if_false];cases hb:fn.body.isNone with
  |false=>simp only[IN,if_false];trivial
  |true=>
   simp only[if_true];refine bK fun _=> ?_
   rw[T.next f fn hf hb];dsimp only;cases he:Qe fn with
   |some e=>exact bK fun _=>trivial
   |none=>
    dsimp only;split <;>trivial
theorem pd(T:bw P)(recv:By)(name:String)(args:Array By):Leaf P sQ (callMethod recv name args):=by
 unfold callMethod;cases recv<;>first |exact gT _|(refine bK fun _=> ?_;refine bK fun _=> ?_;exact mT T _ _)|trivial
theorem vv(a b:Array PJ)(args:Array By):Leaf P sQ (Extern.PrintPieces.piece a b args):=by
 unfold Extern.PrintPieces.piece;repeat' (first
  |trivial
  |exact rfl
  |(refine bK fun _=> ?_)
  |split
  |dsimp only)
theorem AJ(b:Builtin)(ats:Array PJ)(t:PJ)(cs:Array Bool)(args:Array By):Leaf P sQ (builtin b ats t cs args):=by
 unfold builtin;cases b<;>first
  |exact bK fun _=>trivial
  |trivial
  |(unfold PK;refine bK fun _=> ?_;split <;>first |trivial|exact vv _ _ _)
theorem sz(l:Nat):Leaf P JZ (Q8 l):=by
 unfold Q8;refine fun o ho=> ?_
 cases o<;>first |exact ho.loop|trivial
theorem CL(l:Nat)(args:Array By):Leaf P sQ (Qd l args):=by
 unfold Qd;refine ft (sz l) fun r hr=> ?_
 dsimp only;split
 ·trivial
 ·exact⟨hr.1,hr.2.1⟩
theorem pL(T:bw P){t:Target}(ht:Ns t)(args:Array By):Leaf P sQ (invoke t args):=by
 unfold invoke;cases t with
 |nil=>exact gT _
 |builtin b ats t cs=>exact AJ _ _ _ _ _
 |collected r=>trivial
 |coroexit c=>exact ht.elim
 |fn f c=>
  cases f with
  |func f=>exact mT T _ _
  |method n=>
   dsimp only;split
   ·exact pd T _ _ _
   ·trivial
  |methodOf t n=>
   dsimp only;split
   ·refine bK fun _=> ?_
    repeat' (first |exact pd T _ _ _|split)
   ·trivial
  |via t p f q=>
   dsimp only;split
   ·exact bK fun _=>mT T _ _
   ·trivial
  |yield l=>exact CL _ _
theorem jk(ρ:Q9→By)(c:Call)(t:PJ):Leaf P oG (resolve ρ c t):=by
 unfold resolve;dsimp only;cases c.callee with
 |builtin b=>trivial
 |invoke r n=>trivial
 |value f=>
  dsimp only;unfold Q2;cases ρ f<;>trivial
theorem C5(T:bw P)(ρ:Q9→By)(o:Oper)(h0:JC o.op=true):Leaf P sQ (Qi ρ o):=by
 unfold Qi;cases hop:o.op;case call c=>exact ft (jk _ _ _) fun d hd=>pL T hd _
 case go c=>rw[hop]at h0;exact absurd ((aJ.nogo c).symm.trans h0) (by decide)
 case send a b=>rw[hop]at h0;exact aJ.send _ _ h0
 case recv a b c=>rw[hop]at h0;refine bK fun d=> ?_;split <;>first |exact bK fun _=>aJ.recv _ _ _ h0|trivial
 case select a b=>rw[hop]at h0;exact bK fun _=>aJ.select _ _ h0
 case defer c=>exact ft (jk _ _ _) fun d hd=>hd
 case nilCheck x=>
  dsimp only;repeat' (first
   |trivial
   |exact gT _
   |(refine bK fun _=> ?_)
   |split
   |dsimp only)
 all_goals first
  |exact bK fun _=>trivial
  |trivial
  |(dsimp only;refine bK fun _=> ?_;first |trivial|(split <;>first |trivial|exact bK fun _=>trivial))
end
end
section
def af(w:AS)(τ:Nat→IS→Nat)(d:Nat):AS:= {w with tape:=τ,drawn:=d}
@[simp] theorem dm(w:AS)(τ:Nat→IS→Nat)(d:Nat):(af w τ d).heap=w.heap:=rfl
@[simp] theorem LI(w:AS)(τ:Nat→IS→Nat)(d:Nat):(af w τ d).os=w.os:=rfl
@[simp] theorem MS(w:AS)(τ:Nat→IS→Nat)(d:Nat):(af w τ d).output=w.output:=rfl
@[simp] theorem zH(w:AS)(τ:Nat→IS→Nat)(d:Nat):(af w τ d).tape=τ:=rfl
@[simp] theorem xL(w:AS)(τ:Nat→IS→Nat)(d:Nat):(af w τ d).drawn=d:=rfl
@[simp] theorem t7(w:AS)(τ τ':Nat→IS→Nat)(d d':Nat):af (af w τ d) τ' d'=af w τ' d':=rfl
@[simp] theorem uo(w:AS):af w w.tape w.drawn=w:=rfl
@[simp] theorem jm(w:AS)(τ:Nat→IS→Nat)(d:Nat)(a:Addr):(af w τ d).cell? a=w.cell? a:=rfl
@[simp] theorem vo(w:AS)(τ:Nat→IS→Nat)(d:Nat)(a:Addr):(af w τ d).frozen? a=w.frozen? a:=rfl
@[simp] theorem Nh(w:AS)(τ:Nat→IS→Nat)(d:Nat)(r:Nat):(af w τ d).shape? r=w.shape? r:=rfl
def Agree(k:Nat)(w:AS)(τ:Nat→IS→Nat)(d:Nat):Prop:=∀j,j<k→∀q,τ (d+j) q=w.tape (w.drawn+j) q
theorem Agree.le{k k':Nat}{w:AS}{τ:Nat→IS→Nat}{d:Nat}(h:Agree k w τ d)(hk:k'≤k):Agree k' w τ d:=fun j hj q=>h j (by omega) q
theorem Agree.tail{k k' K:Nat}{w w':AS}{τ:Nat→IS→Nat}{d:Nat}(h:Agree K w τ d)(hK:k+k'≤K)(ht:w'.tape=w.tape)(hd:w'.drawn=w.drawn+k):Agree k' w' τ (d+k):=fun j hj q=>by
 have:=h (k+j) (by omega) q;rw[ht,hd,BY,BY];exact this
def di{α:Type}:Result α→AS
 | .ok _ w=>w
 | .halt _ w=>w
def cr{α:Type}(r:Result α)(τ:Nat→IS→Nat)(d:Nat):Result α:=
 match r with
 | .ok a w=>.ok a (af w τ d)
 | .halt h w=>.halt h (af w τ d)
structure Loc{α:Type}(f:AS→Result α×Array IT)(w:AS)(k m:Nat):Prop where
 tape:(di (f w).1).tape=w.tape
 drawn:(di (f w).1).drawn=w.drawn+m
 shift:∀τ d,Agree k w τ d→f (af w τ d)=(cr (f w).1 τ (d+m),(f w).2)
theorem xl{α:Type}(w:AS)(what:String)(range:Nat)(k:Nat→Ask α)(hf:(Question.extern what range).forced=true):w.ask (.ask what range k)=w.ask (k 0):=by
 rw[World.ask];exact if_pos hf
theorem AP{α:Type}(w:AS)(what:String)(range:Nat)(k:Nat→Ask α)(hf:¬ (Question.extern what range).forced=true):
 w.ask (.ask what range k)=(af w w.tape (w.drawn+1)).ask (k ((Question.extern what range).cut (w.tape w.drawn (Question.extern what range)))):=by
 rw[World.ask];exact if_neg hf
theorem nL{α:Type}(x:Ask α):∀w:AS,∃k,(w.ask x).2.tape=w.tape∧(w.ask x).2.drawn=w.drawn+k∧(w.ask x).2.heap=w.heap∧(w.ask x).2.os=w.os∧(w.ask x).2.output=w.output∧
 ∀τ d,Agree k w τ d→(af w τ d).ask x=((w.ask x).1,af (w.ask x).2 τ (d+k)):=by
 induction x with
 |done a=>exact fun w=>⟨0,rfl,rfl,rfl,rfl,rfl,fun τ d _=>rfl⟩
 |ask what range k ih=>
  intro w;by_cases hf:(Question.extern what range).forced=true
  ·obtain⟨n,h⟩:=ih 0 w;refine⟨n,?_⟩;simp only[xl _ what range k hf];exact h
  ·obtain⟨n,h1,h2,h3,h4,h5,h6⟩:=ih ((Question.extern what range).cut (w.tape w.drawn (Question.extern what range))) (af w w.tape (w.drawn+1));refine⟨1+n,?_⟩;simp only[AP _ what range k hf];refine⟨h1,h2.trans (by simp[BY]),h3,h4,h5,fun τ d ha=> ?_⟩;have e:=ha 0 (by omega) (Question.extern what range);simp only[Nat.add_zero]at e;have:=h6 τ (d+1) (Agree.tail (w:=w) (k:=1) ha (PV _) rfl rfl);simpa[e,BY]using this
section
variable{α:Type}{p:AI}
theorem LV{f g:AS→Result α×Array IT}{w w1:AS}{k m:Nat}(h:Loc g w1 k m)(e0:f w=g w1)(e1:∀τ d,f (af w τ d)=g (af w1 τ d))(ht:w1.tape=w.tape)(hd:w1.drawn=w.drawn):Loc f w k m:=
 ⟨by rw[e0];exact h.tape.trans ht,by rw[e0,h.drawn,hd],fun τ d ha=>by rw[e1,e0];exact h.shift τ d (fun j hj q=>by rw[ht,hd];exact ha j hj q)⟩
theorem Ap(p:AI)(w:AS)(a:Addr)(b:Bool)(τ:Nat→IS→Nat)(d:Nat):(af w τ d).farLoad p a b=w.farLoad p a b:=rfl
theorem CO(p:AI)(w:AS)(x:Addr)(u:PJ)(a:Addr)(v:By)(b:Bool)(τ:Nat→IS→Nat)(d:Nat):(af w τ d).viewStore p x u a v b=(w.viewStore p x u a v b).map fun y=>(af y.1 τ d,y.2):=by
 unfold Qb;simp only[show(af w τ d).seen p x u a b=w.seen p x u a b from rfl];by_cases ht:tight p p.depth u=true
 ·simp only[ht,Qg,IN,if_false];cases hs:w.seen p x u a b with
  |error e=>rfl
  |ok y=>
   cases hv:v.bytes? with
   |none=>rfl
   |some bytes=>
    simp only[bind,Except.bind];split
    ·rfl
    ·split <;>rfl
 ·simp only[ht];rfl
theorem sC(p:AI)(w:AS)(a:Addr)(v:By)(b:Bool)(τ:Nat→IS→Nat)(d:Nat):(af w τ d).farStore p a v b=(match w.farStore p a v b with | .ok (w1,l)=>.ok (af w1 τ d,l)| .error h=>.error h):=by
 unfold Q4;simp only[dm];split
 ·rw[CO];rename_i x u _;cases w.viewStore p x u a v b with
  |error e=>rfl
  |ok y=>rfl
 ·rfl
theorem xg(p:AI)(w:AS)(a:Addr)(v:By)(b:Bool){w1:AS}{l:List Addr}(h:w.farStore p a v b= .ok (w1,l)):w1.tape=w.tape∧w1.drawn=w.drawn:=by
 have h2:=sC p w a v b w.tape w.drawn;rw[uo,h]at h2;simp only[Except.ok.injEq,Prod.mk.injEq,and_true]at h2;rw[h2];exact⟨rfl,rfl⟩
end
end
section
variable[aJ]
section
variable{P:AI}
theorem py{mk:Bool}(T:ei P)(f:Qj)(args:Array By):bN P true mk (Qs f args):=by
 unfold Qs;cases hf:P.funcs[f]? with
 |none=>exact⟨by show ct P true mk (match P.funcs[f]? with |none=>_|some fn=>_);rw[hf];trivial⟩
 |some fn=>
  suffices h:bN P true mk (if(fn.name== "runtime.NumGoroutine")=true then pure Next.numGoroutine else
   if fn.body.isNone=true then(do
    mark (.extern f)
    if let some e:=Qv fn then return← e args
    match Qe fn with
    |some e=>pure (.value (← e args))
    |none=>
     if fn.name.endsWith ".init" && !fn.name.startsWith "(" && !fn.name.startsWith "gosem." then pure (.value (.tuple #[]))
     else unsupported (.extern fn.name))
   else pure (.enter f args)) by
   exact⟨by show ct P true mk (match P.funcs[f]? with |none=>_|some fn=>_);rw[hf];exact h.st⟩
  rw[T.num f fn hf];simp only[IN,if_false];cases hb:fn.body.isNone with
  |false=>simp only[IN,if_false];exact zq2
  |true=>
   simp only[if_true];refine @aS _ _ _ _ _ _ _ _ zq2 fun _=> ?_
   rw[T.next f fn hf hb];dsimp only;cases he:Qe fn with
   |some e=>exact @aS _ _ _ _ _ _ _ _ (Jw (T.ext f fn hf hb e he args)) fun _=>zq2
   |none=>
    dsimp only;split <;>exact zq2
theorem r9{mk:Bool}(T:ei P)(recv:By)(name:String)(args:Array By):bN P true mk (callMethod recv name args):=by
 unfold callMethod;cases recv<;>first |exact zq2|(refine @aS _ _ _ _ _ _ _ _ zq2 fun _=> ?_;refine @aS _ _ _ _ _ _ _ _ zq2 fun _=> ?_;exact py T _ _)
theorem uX{mk:Bool}(T:ei P)(t:Target)(args:Array By)(hb:∀b ats ty cs,t≠.builtin b ats ty cs):bN P true mk (invoke t args):=by
 unfold invoke;cases t with
 |nil=>exact zq2
 |builtin b ats t cs=>exact absurd rfl (hb _ _ _ _)
 |collected r=>exact zq2
 |coroexit c=>exact zq2
 |fn f c=>
  cases f with
  |func f=>exact py T _ _
  |method n=>
   dsimp only;split
   ·exact r9 T _ _ _
   ·exact zq2
  |methodOf t n=>
   dsimp only;split
   ·refine @aS _ _ _ _ _ _ _ _ zq2 fun _=> ?_
    repeat' (first |exact r9 T _ _ _|split)
   ·exact zq2
  |via t p f q=>
   dsimp only;split
   ·exact @aS _ _ _ _ _ _ _ _ zq2 fun _=>py T _ _
   ·exact zq2
  |yield l=>exact zq2
theorem eL(T:ei P)(t:Target)(args:Array By):St P (invoke t args):=by
 cases t with
 |builtin b ats t cs=>unfold invoke;exact zq2
 |_=>exact uX T _ _ (fun _ _ _ _ h=>by cases h)
theorem tR(b:Builtin)(ats:Array PJ)(t:PJ)(cs:Array Bool)(args:Array By):Sep P (builtin b ats t cs args):=by
 unfold builtin;cases b;case append=>exact .inr (zq2:bN P false true _).st
 all_goals first
  |exact .inl (zq2:bN P true false _).st
  |(
   refine .inl ?_;unfold PK;refine(@aS _ _ _ _ _ _ _ _ ?_ fun _=> ?_).st;all_goals repeat' (first |exact zq2|split |dsimp only))
theorem kZ(T:ei P)(t:Target)(args:Array By):Sep P (invoke t args):=by
 cases t with
 |builtin b ats t cs=>exact tR _ _ _ _ _
 |_=>exact .inl (uX T _ _ (fun _ _ _ _ h=>by cases h)).st
theorem tQ(T:ei P)(ρ:Q9→By)(c:Call)(t:PJ):Sep P (do let d ← resolve ρ c t;invoke d.target d.args):=by
 unfold resolve;dsimp only;cases c.callee with
 |builtin b=>exact tR _ _ _ _ _
 |invoke r n=>exact(show Sep P (invoke (.fn (.method n) #[]) (#[ρ r]++c.args.map ρ))from kZ T _ _)
 |value f=>
  dsimp only;unfold Q2;cases ρ f;case func fn a b=>exact kZ T _ _
  case nilFunc=>exact(show Sep P (invoke .nil (c.args.map ρ))from kZ T _ _)
  all_goals exact .inl trivial
instance Bo{dy mk:Bool}(ρ:Q9→By)(c:Call)(t:PJ):bN P dy mk (resolve ρ c t):=by
 unfold resolve;dsimp only;cases c.callee with
 |builtin b=>exact zq2
 |invoke r n=>exact zq2
 |value f=>exact zq2
theorem gq(T:ei P)(ρ:Q9→By)(o:Oper):St P (Qi ρ o):=by
 unfold Qi;cases o.op;case call c=>exact @aS _ _ _ _ _ _ _ _ zq2 fun d=>eL T _ _
 case nilCheck x=>
  dsimp only;repeat' (first
   |exact zq2
   |(refine @aS _ _ _ _ _ _ _ _ ?_ (fun _=> ?_))
   |(refine @kT _ _ _ _ _ _ _ _ _ ?_ ?_)
   |split
   |dsimp only)
 all_goals first
  |exact zq2
  |(
   dsimp only;repeat' (first
    |exact zq2
    |(refine @aS _ _ _ _ _ _ _ _ ?_ (fun _=> ?_))
    |(refine @kT _ _ _ _ _ _ _ _ _ ?_ ?_)
    |(refine @sY _ _ _ _ _ _ _ (fun _=> ?_) _)
    |split
    |dsimp only))
theorem Dj(T:ei P)(ρ:Q9→By)(o:Oper):Sep P (Qi ρ o):=by
 unfold Qi;cases o.op;case call c=>exact tQ T _ _ _
 case makeSlice=>exact .inr (zq2:bN P false true _).st
 all_goals
  refine(fun h:bN P true false _=>Or.inl h.st) ?_;first
   |exact zq2
   |(
    dsimp only;repeat' (first
     |exact zq2
     |(refine @aS _ _ _ _ _ _ _ _ ?_ (fun _=> ?_))
     |(refine @kT _ _ _ _ _ _ _ _ _ ?_ ?_)
     |(refine @sY _ _ _ _ _ _ _ (fun _=> ?_) _)
     |split
     |dsimp only))
end
def He(r:Nat)(o:Obj):Prop:=pm o∨((∃c t,o= .pending c t)∧aJ.lim≤r)∨∃c,o= .coro c
theorem He.i{r:Nat}{o:Obj}(h:He r o):po o:=h.imp id fun h=>h.imp (·.1) id
def am(w:AS):Prop:=∀(r:Nat)(o:Obj),w.heap[r]?=some o→He r o
theorem jV{w:AS}{o:Obj}(h:am w)(ho:pm o):am {w with heap:=w.heap.push o}:=by
 intro r x hx;rw[Array.getElem?_push]at hx;split at hx
 ·cases hx;exact .inl ho
 ·exact h r x hx
theorem eH{w:AS}{r:Nat}{o:Obj}(h:am w)(ho:pm o):am {w with heap:=w.heap.setIfInBounds r o}:=by
 intro r' x hx;rw[Array.getElem?_setIfInBounds]at hx;split at hx
 ·split at hx
  ·cases hx;exact .inl ho
  ·cases hx
 ·exact h r' x hx
theorem rq{w:AS}{r:Nat}{f:Obj→Obj}(h:am w)(hf:∀r o,He r o→He r (f o)):am {w with heap:=w.heap.modify r f}:=by
 intro r' x hx;rw[Array.getElem?_modify]at hx;split at hx
 ·obtain⟨y,hy,rfl⟩:=Option.map_eq_some_iff.1 hx;exact hf _ _ (h _ y hy)
 ·exact h r' x hx
theorem ik{w:AS}(h:am w)(a:Addr)(v:By):am (w.setCell a v):=
 rq h fun r o ho=>by cases o<;>first |exact ho|exact .inl trivial
theorem iW{w:AS}(h:am w)(a:Addr)(n:Nat):am (w.freeze a n):=by
 unfold Qa;split
 ·exact h
 ·exact rq h fun r o ho=>by cases o<;>first |exact ho|exact .inl trivial
theorem uw{P:AI}{w:AS}(h:am w){x:Addr}{u:PJ}{a:Addr}{v:By}{b:Bool}{w1:AS}{l:List Addr}(e:w.viewStore P x u a v b= .ok (w1,l)):am w1:=by
 unfold Qb at e;simp only[bind,Except.bind,pure,Except.pure]at e;repeat' split at e
 all_goals first
  |(cases e;done)
  |(simp only[Except.ok.injEq,Prod.mk.injEq]at e;obtain⟨rfl,_⟩:=e;exact eH h trivial)
theorem gF{P:AI}{w:AS}(h:am w){a:Addr}{v:By}{b:Bool}{w1:AS}{l:List Addr}(e:w.farStore P a v b= .ok (w1,l)):am w1:=by
 unfold Q4 at e;split at e
 ·split at e
  ·rename_i hv;simp only[Except.ok.injEq]at e;subst e;exact uw h hv
  ·cases e
 ·cases e
theorem E5{α:Type}{w:AS}(x:Ask α)(h:am w):am (w.ask x).2:=by
 obtain⟨k,h1,h2,h3,_⟩:=nL x w;intro r o hr;rw[h3]at hr;exact h r o hr
theorem lf{w:AS}(h:am w)(c:Sys):am (w.sys c).2:=by
 unfold World.sys;have:=E5 (Q5 c w.os) h;generalize w.ask (Q5 c w.os)=x at this ⊢;obtain⟨⟨r,os⟩,w1⟩:=x;cases r<;>first |exact h|exact this
theorem ca{α:Type}{P:AI}{s:Sem α}(hs:jW P s):∀(w:AS)(es:Array IT),am w→am (di (s.runT P w es).1):=by
 induction s with
 |pure a=>exact fun w es h=>h
 |halt x=>exact fun w es h=>h
 |load m a k ih=>
  intro w es h;simp only[AT];split
  ·exact ih _ (hs _) _ _ h
  ·split
   ·exact ih _ (hs _) _ _ h
   ·exact h
 |store m a v k ih=>
  intro w es h;cases v;all_goals simp only[AT]
  case agg=>exact h
  case tuple=>exact h
  all_goals
   split
   ·split
    ·exact h
    ·exact ih hs _ _ (ik h _ _)
   ·split
    ·rename_i hf;exact ih hs _ _ (gF h hf)
    ·exact h
 |new o k ih=>exact fun w es h=>ih _ (hs.2 _) _ _ (jV h hs.1)
 |shape r k ih=>exact fun w es h=>ih _ (hs _) _ _ h
 |freeze a n k ih=>exact fun w es h=>ih hs _ _ (iW h _ _)
 |frozen a k ih=>exact fun w es h=>ih _ (hs _) _ _ h
 |getObj r k ih=>
  intro w es h;simp only[AT];split
  ·exact h
  ·rename_i o ho _;exact ih _ (hs.1 _ (h _ _ (by assumption)).i) _ _ h
  ·exact h
 |setObj r o k ih=>
  intro w es h;simp only[AT];split
  ·exact h
  ·exact ih hs.2 _ _ (eH h hs.1)
  ·exact h
 |choose q k ih=>
  intro w es h;simp only[AT];split
  ·exact ih _ (hs _) _ _ h
  ·exact ih _ (hs _) _ _ h
 |sys c k ih=>exact fun w es h=>ih _ (hs.2 _) _ _ (lf h c)
 |program k ih=>exact fun w es h=>ih _ hs _ _ h
 |mark m k ih=>exact fun w es h=>ih hs.2 _ _ h
theorem qP{α:Type}{P:AI}{Q:α→Prop}{s:Sem α}(st:jW P s)(hs:Leaf P Q s):∀(w:AS)(es:Array IT),am w→∀(a:α)(w':AS)(es':Array IT),s.runT P w es=(.ok a w',es')→Q a:=by
 induction s with
 |pure a=>intro w es hw a' w' es' h;cases h;exact hs
 |halt h=>intro w es hw a' w' es' h;cases h
 |load m a k ih=>
  intro w es hw a' w' es' h;simp only[AT]at h;split at h
  ·exact ih _ (st _) (hs _) _ _ hw _ _ _ h
  ·split at h
   ·exact ih _ (st _) (hs _) _ _ hw _ _ _ h
   ·cases h
 |store m a v k ih=>
  intro w es hw a' w' es' h;cases v;all_goals simp only[AT]at h
  case agg=>cases h
  case tuple=>cases h
  all_goals
   split at h
   ·split at h
    ·cases h
    ·exact ih st hs _ _ (ik hw _ _) _ _ _ h
   ·split at h
    ·rename_i hf;exact ih st hs _ _ (gF hw hf) _ _ _ h
    ·cases h
 |new o k ih=>intro w es hw a' w' es' h;exact ih _ (st.2 _) (hs _) _ _ (jV hw st.1) _ _ _ h
 |shape r k ih=>intro w es hw a' w' es' h;exact ih _ (st _) (hs _) _ _ hw _ _ _ h
 |freeze a n k ih=>intro w es hw a' w' es' h;exact ih st hs _ _ (iW hw _ _) _ _ _ h
 |frozen a k ih=>intro w es hw a' w' es' h;exact ih _ (st _) (hs _) _ _ hw _ _ _ h
 |getObj r k ih=>
  intro w es hw a' w' es' h;simp only[AT]at h;split at h
  ·cases h
  ·rename_i o ho _;have hk:=(hw _ _ (by assumption)).i;exact ih _ (st.1 _ hk) (hs _ hk) _ _ hw _ _ _ h
  ·cases h
 |setObj r o k ih=>
  intro w es hw a' w' es' h;simp only[AT]at h;split at h
  ·cases h
  ·exact ih st.2 hs _ _ (eH hw st.1) _ _ _ h
  ·cases h
 |choose q k ih=>
  intro w es hw a' w' es' h;simp only[AT]at h;split at h
  ·exact ih _ (st _) (hs _) _ _ hw _ _ _ h
  ·exact ih _ (st _) (hs _) {w with drawn:=w.drawn+1} _ hw _ _ _ h
 |sys c k ih=>intro w es hw a' w' es' h;exact ih _ (st.2 _) (hs _) _ _ (lf hw c) _ _ _ h
 |program k ih=>intro w es hw a' w' es' h;exact ih _ st hs _ _ hw _ _ _ h
 |mark m k ih=>intro w es hw a' w' es' h;exact ih st.2 hs _ _ hw _ _ _ h
theorem pF{α:Type}{P:AI}{s:Sem α}(st:jW P s):∀(w:AS)(es:Array IT),am w→∀(x:Halt)(w':AS)(es':Array IT),s.runT P w es=(.halt x w',es')→lZ x:=by
 have far:∀(w:AS)(a:Addr)(s:String),am w→lZ (w.noCell a s):=fun w a s hw=>by
  unfold World.noCell;split
  ·rename_i h;exact(hw _ _ h).elim (fun h=>h.elim) fun h=>h.elim (·.2) (fun⟨_,e⟩=>by cases e)
  ·trivial
  ·trivial
 have farL:∀(w:AS)(a:Addr)(b:Bool)(x:Halt),am w→w.farLoad P a b= .error x→lZ x:=fun w a b x hw h=>by
  unfold World.farLoad at h;split at h
  ·split at h
   ·cases h
   ·cases h;trivial
  ·cases h;exact far _ _ _ hw
 have farS:∀(w:AS)(a:Addr)(v:By)(b:Bool)(x:Halt),am w→w.farStore P a v b= .error x→lZ x:=fun w a v b x hw h=>by
  unfold Q4 at h;split at h
  ·split at h
   ·cases h
   ·cases h;trivial
  ·cases h;exact far _ _ _ hw
 induction s with
 |pure a=>intro w es hw x w' es' h;cases h
 |halt x0=>intro w es hw x w' es' h;cases h;exact st
 |load m a k ih=>
  intro w es hw x w' es' h;simp only[AT]at h;split at h
  ·exact ih _ (st _) _ _ hw _ _ _ h
  ·split at h
   ·exact ih _ (st _) _ _ hw _ _ _ h
   ·rename_i hf;cases h;exact farL _ _ _ _ hw hf
 |store m a v k ih=>
  intro w es hw x w' es' h;cases v;all_goals simp only[AT]at h
  case agg=>cases h;trivial
  case tuple=>cases h;trivial
  all_goals
   split at h
   ·split at h
    ·cases h;trivial
    ·exact ih st _ _ (ik hw _ _) _ _ _ h
   ·split at h
    ·rename_i hf;exact ih st _ _ (gF hw hf) _ _ _ h
    ·rename_i hf;cases h;exact farS _ _ _ _ _ hw hf
 |new o k ih=>intro w es hw x w' es' h;exact ih _ (st.2 _) _ _ (jV hw st.1) _ _ _ h
 |shape r k ih=>intro w es hw x w' es' h;exact ih _ (st _) _ _ hw _ _ _ h
 |freeze a n k ih=>intro w es hw x w' es' h;exact ih st _ _ (iW hw _ _) _ _ _ h
 |frozen a k ih=>intro w es hw x w' es' h;exact ih _ (st _) _ _ hw _ _ _ h
 |getObj r k ih=>
  intro w es hw x w' es' h;simp only[AT]at h;split at h
  ·cases h;trivial
  ·rename_i o ho _;exact ih _ (st.1 _ (hw _ _ (by assumption)).i) _ _ hw _ _ _ h
  ·cases h;trivial
 |setObj r o k ih=>
  intro w es hw x w' es' h;simp only[AT]at h;split at h
  ·cases h;trivial
  ·exact ih st.2 _ _ (eH hw st.1) _ _ _ h
  ·cases h;trivial
 |choose q k ih=>
  intro w es hw x w' es' h;simp only[AT]at h;split at h
  ·exact ih _ (st _) _ _ hw _ _ _ h
  ·exact ih _ (st _) {w with drawn:=w.drawn+1} _ hw _ _ _ h
 |sys c k ih=>intro w es hw x w' es' h;exact ih _ (st.2 _) _ _ (lf hw c) _ _ _ h
 |program k ih=>intro w es hw x w' es' h;exact ih _ st _ _ hw _ _ _ h
 |mark m k ih=>intro w es hw x w' es' h;exact ih st.2 _ _ hw _ _ _ h
end
section
variable[aJ]
theorem Hv(c:Sys)(w:AS):(∃m,(w.sys c).2.tape=w.tape∧(w.sys c).2.drawn=w.drawn+m∧∀τ d,Agree m w τ d→(af w τ d).sys c=((w.sys c).1,af (w.sys c).2 τ (d+m)))∨(w.sys c).1= .wouldBlock:=by
 obtain⟨k,h1,h2,h3,h4,h5,h6⟩:=nL (Q5 c w.os) w;unfold World.sys;cases hr:w.ask (Q5 c w.os)with
 |mk a w1=>
  obtain⟨r,os⟩:=a;rw[hr]at h1 h2 h3 h4 h5 h6;cases r;case wouldBlock=>exact .inr rfl
  all_goals
   refine .inl ⟨k,h1,h2,fun τ d ha=> ?_⟩;have:=h6 τ d ha;simp only[LI,this];rfl
section
variable{α:Type}{p:AI}
def EJ(f:AS→Result α×Array IT)(w:AS):Prop:=(∃m,Loc f w m m)∨∃h w',(f w).1= .halt h w'∧Dead h
theorem fX{f g:AS→Result α×Array IT}{w w1:AS}(h:EJ g w1)(e0:f w=g w1)(e1:∀τ d,f (af w τ d)=g (af w1 τ d))(ht:w1.tape=w.tape)(hd:w1.drawn=w.drawn):EJ f w:=by
 rcases h with⟨m,h⟩|⟨x,w',h,hx⟩
 ·exact .inl ⟨m,LV h e0 e1 ht hd⟩
 ·exact .inr ⟨x,w',by rw[e0];exact h,hx⟩
theorem gM{f:AS→Result α×Array IT}{w:AS}(h:Loc f w 0 0):EJ f w:=.inl ⟨0,h⟩
theorem HJ(p:AI)(s:Sem α):∀(w:AS)(es:Array IT),jW p s→am w→EJ (fun w=>s.runT p w es) w:=by
 induction s with
 |pure a=>exact fun w es _ _=>gM ⟨rfl,rfl,fun τ d _=>rfl⟩
 |load m a k ih=>
  intro w es hs hw;cases hc:w.cell? a with
  |some v=>exact fX (ih v w (es.push ⟨.cell a,false,m== .atomic⟩) (hs v) hw) (by simp only[AT,hc]) (fun τ d=>by simp only[AT,jm,hc]) rfl rfl
  |none=>
   cases hf:w.farLoad p a (m== .atomic)with
   |ok r=>
    obtain⟨v,l⟩:=r;exact fX (ih v w (es++l.toArray.map (⟨.cell ·,false,m== .atomic⟩)) (hs v) hw) (by simp only[AT,hc,hf]) (fun τ d=>by simp only[AT,jm,hc,Ap,hf]) rfl rfl
   |error e=>exact gM ⟨by simp only[AT,hc,hf];rfl,by simp only[AT,hc,hf];rfl,fun τ d _=>by simp only[AT,jm,hc,Ap,hf];rfl⟩
 |store m a v k ih=>
  intro w es hs hw;by_cases hv:v.oneCell'=true
  ·have e0:∀u:AS,(Sem.store m a v k).runT p u es=(match u.cell? a with
    |some _=>if u.frozen? a then(.halt (.unsupported (.unsafePointer "a write to bytes that a string shares")) u,es)else k.runT p (u.setCell a v) (es.push ⟨.cell a,true,m== .atomic⟩)
    |none=>match u.farStore p a v (m== .atomic)with
     | .ok (u,touched)=>k.runT p u (es++touched.toArray.map (⟨.cell ·,true,m== .atomic⟩))
     | .error h=>(.halt h u,es)):=fun u=>by
    cases v<;>first |rfl|(exact absurd hv (by decide))|(simp[Value.oneCell']at hv)
   cases hc:w.cell? a with
   |some o=>
    by_cases hz:w.frozen? a=true
    ·exact gM ⟨by simp only[e0,hc,hz,if_true];rfl,by simp only[e0,hc,hz,if_true];rfl,fun τ d _=>by simp only[e0,jm,vo,hc,hz,if_true];rfl⟩
    ·exact fX (ih (w.setCell a v) (es.push ⟨.cell a,true,m== .atomic⟩) hs (ik hw _ _)) (by simp only[e0,hc,hz];rfl) (fun τ d=>by simp only[e0,jm,vo,hc,hz];rfl) rfl rfl
   |none=>
    cases hf:w.farStore p a v (m== .atomic)with
    |ok r=>
     obtain⟨w1,l⟩:=r;obtain⟨t1,t2⟩:=xg p w a v _ hf;exact fX (ih w1 (es++l.toArray.map (⟨.cell ·,true,m== .atomic⟩)) hs (gF hw hf)) (by simp only[e0,hc,hf]) (fun τ d=>by simp only[e0,jm,hc,sC,hf]) t1 t2
    |error e=>exact gM ⟨by simp only[e0,hc,hf];rfl,by simp only[e0,hc,hf];rfl,fun τ d _=>by simp only[e0,jm,hc,sC,hf];rfl⟩
  ·have e0:∀u:AS,(Sem.store m a v k).runT p u es=(.halt (.stuck "store: not the value of one cell") u,es):=fun u=>by
    cases v<;>first |rfl|(exact absurd rfl hv)
   exact gM ⟨by rw[e0];rfl,by rw[e0];rfl,fun τ d _=>by rw[e0,e0];rfl⟩
 |new o k ih=>exact fun w es hs hw=>fX (ih w.heap.size {w with heap:=w.heap.push o} es (hs.2 _) (jV hw hs.1)) rfl (fun τ d=>rfl) rfl rfl
 |shape r k ih=>exact fun w es hs hw=>fX (ih (w.shape? r) w es (hs _) hw) rfl (fun τ d=>rfl) rfl rfl
 |freeze a n k ih=>
  intro w es hs hw;refine fX (ih (w.freeze a n) es hs (iW hw _ _)) rfl (fun τ d=> ?_) ?_ ?_
  ·simp only[AT,Qa];split <;>rfl
  ·simp only[Qa];split <;>rfl
  ·simp only[Qa];split <;>rfl
 |frozen a k ih=>exact fun w es hs hw=>fX (ih (w.frozen? a) w es (hs _) hw) rfl (fun τ d=>rfl) rfl rfl
 |getObj r k ih=>
  intro w es hs hw;cases hr:w.heap[r]? with
  |none=>exact gM ⟨by simp only[AT,hr];rfl,by simp only[AT,hr];rfl,fun τ d _=>by simp only[AT,dm,hr];rfl⟩
  |some o=>
   by_cases hc:∃c e z,o= .cells c e z
   ·obtain⟨c,e,z,rfl⟩:=hc;exact gM ⟨by simp only[AT,hr];rfl,by simp only[AT,hr];rfl,fun τ d _=>by simp only[AT,dm,hr];rfl⟩
   ·have e0:∀u:AS,u.heap[r]?=some o→(Sem.getObj r k).runT p u es=(k o).runT p u (es.push ⟨.obj r,false,o.isChan⟩):=fun u hu=>by
     simp only[AT,hu];cases o<;>first |rfl|exact absurd ⟨_,_,_,rfl⟩ hc
    exact fX (ih o w (es.push ⟨.obj r,false,o.isChan⟩) (hs.1 o (hw _ _ hr).i) hw) (e0 w hr) (fun τ d=>e0 _ hr) rfl rfl
 |setObj r o k ih=>
  intro w es hs hw;cases hr:w.heap[r]? with
  |none=>exact gM ⟨by simp only[AT,hr];rfl,by simp only[AT,hr];rfl,fun τ d _=>by simp only[AT,dm,hr];rfl⟩
  |some o1=>
   by_cases hc:∃c e z,o1= .cells c e z
   ·obtain⟨c,e,z,rfl⟩:=hc;exact gM ⟨by simp only[AT,hr];rfl,by simp only[AT,hr];rfl,fun τ d _=>by simp only[AT,dm,hr];rfl⟩
   ·have e0:∀u:AS,u.heap[r]?=some o1→(Sem.setObj r o k).runT p u es=k.runT p {u with heap:=u.heap.setIfInBounds r o} (es.push ⟨.obj r,true,o.isChan⟩):=fun u hu=>by
     simp only[AT,hu];cases o1<;>first |rfl|exact absurd ⟨_,_,_,rfl⟩ hc
    exact fX (ih {w with heap:=w.heap.setIfInBounds r o} (es.push ⟨.obj r,true,o.isChan⟩) hs.2 (eH hw hs.1)) (e0 w hr) (fun τ d=>e0 _ hr) rfl rfl
 |choose q k ih=>
  intro w es hs hw;by_cases hf:q.forced=true
  ·exact fX (ih 0 w es (hs _) hw) (by simp only[AT,hf,if_true]) (fun τ d=>by simp only[AT,hf,if_true]) rfl rfl
  ·have e0:∀v:AS,(Sem.choose q k).runT p v es=(k (q.cut (v.tape v.drawn q))).runT p (af v v.tape (v.drawn+1)) es:=fun v=>by
    rw[AT];exact if_neg hf
   rcases ih (q.cut (w.tape w.drawn q)) (af w w.tape (w.drawn+1)) es (hs _) hw with⟨y,h⟩|⟨x,w',h,hx⟩
   ·refine .inl ⟨1+y,?_,?_,fun τ d ha=> ?_⟩
    ·rw[e0];exact h.tape
    ·rw[e0,h.drawn];simp[BY]
    ·have e:=ha 0 (by omega) q;simp only[Nat.add_zero]at e;have:=h.shift τ (d+1) (Agree.tail (w:=w) (k:=1) ha (PV _) rfl rfl);rw[e0,e0];simp only[zH,xL,e,t7];rw[← BY];exact this
   ·exact .inr ⟨x,w',(congrArg Prod.fst (e0 w)).trans h,hx⟩
 |sys c k ih=>
  intro w es hs hw;have e0:∀u:AS,(Sem.sys c k).runT p u es=(k (u.sys c).1).runT p (u.sys c).2 (es.push ⟨.output,true,false⟩):=fun u=>rfl
  rcases Hv c w with⟨b,h1,h2,h3⟩|hb
  ·rcases ih (w.sys c).1 (w.sys c).2 (es.push ⟨.output,true,false⟩) (hs.2 _) (lf hw c)with⟨y,h⟩|⟨x,w',h,hx⟩
   ·refine .inl ⟨b+y,?_,?_,fun τ d ha=> ?_⟩
    ·rw[e0];exact h.tape.trans h1
    ·rw[e0,h.drawn,h2,BY]
    ·rw[e0,e0,h3 τ d (ha.le (by omega))];rw[← BY];exact h.shift τ (d+b) (Agree.tail (w:=w) (k:=b) ha (by omega) h1 h2)
   ·exact .inr ⟨x,w',(congrArg Prod.fst (e0 w)).trans h,hx⟩
  ·obtain⟨x,hx,hd⟩:=hs.1;exact .inr ⟨x,(w.sys c).2,(congrArg Prod.fst (e0 w)).trans (by rw[hb,hx];rfl),hd⟩
 |program k ih=>exact fun w es hs hw=>fX (ih p w es hs hw) rfl (fun τ d=>rfl) rfl rfl
 |mark m k ih=>exact fun w es hs hw=>fX (ih w (es.push ⟨.mark m,false,true⟩) hs.2 hw) rfl (fun τ d=>rfl) rfl rfl
 |halt h=>exact fun w es _ _=>gM ⟨rfl,rfl,fun τ d _=>rfl⟩
end
end
section
variable[aJ]
structure jQ(f:AS→GStep)(w:AS)(g':If)(w':AS)(es:Array IT)(k m:Nat):Prop where
 le:k≤m
 tape:w'.tape=w.tape
 drawn:w'.drawn=w.drawn+m
 shift:∀τ d,Agree k w τ d→f (af w τ d)= .go g' (af w' τ (d+m)) es
theorem ij{c:Prop}[Decidable c]{A B X:GStep}(h:(if c then A else B)=X):(c∧A=X)∨(¬ c∧B=X):=by
 by_cases hc:c
 ·rw[if_pos hc]at h;exact .inl ⟨hc,h⟩
 ·rw[if_neg hc]at h;exact .inr ⟨hc,h⟩
theorem ba{es es':Array IT}{s:GStep}{g:If}{w:AS}(h:PW es s= .go g w es'):∃e2,s= .go g w e2∧es'=es++e2:=by
 cases s<;>simp only[PW]at h<;>first |cases h|skip
 exact⟨_,rfl,rfl⟩
theorem Gy(P:AI)(w:AS)(τ:Nat→IS→Nat)(d:Nat):∀n f,P.found (af w τ d) n f=P.found w n f:=by
 intro n;induction n with
 |zero=>intro f;rfl
 |succ n ih=>intro f;simp only[Program.found,ih];rfl
theorem Cd(P:AI)(w:AS)(τ:Nat→IS→Nat)(d:Nat):∀n l s,P.brought (af w τ d) n l s=P.brought w n l s:=by
 intro n;induction n with
 |zero=>intro l s;rfl
 |succ n ih=>
  intro l s;cases l with
  |nil=>rfl
  |cons f todo=>simp only[Program.brought,ih];rfl
theorem bM{f:AS→GStep}{w w':AS}{g':If}{es:Array IT}(ht:w'.tape=w.tape)(hd:w'.drawn=w.drawn)(h:∀τ d,f (af w τ d)= .go g' (af w' τ d) es):∃k m,jQ f w g' w' es k m:=
 ⟨0,0,PV _,ht,hd,fun τ d _=>h τ d⟩
theorem dJ{α:Type}{P:AI}{s:Sem α}[hs:St P s]{w:AS}(hw:am w)(es:Array IT):(∃k m,k≤m∧Loc (fun w=>s.runT P w es) w k m)∨∃h w',(s.runT P w es).1= .halt h w'∧Dead h:=by
 rcases HJ P s w es hs.st hw with⟨m,h⟩|h
 ·exact .inl ⟨m,m,PV _,h⟩
 ·exact .inr h
theorem GK{P:AI}{fr:PD}{callers:List PD}{dying:Option Dying}{g:Nat}{w w':AS}{g':If}{es:Array IT}(h:early P fr callers dying g w= .go g' w' es):
 ∃k m,jQ (fun w=>early P fr callers dying g w) w g' w' es k m:=by
 unfold early at h;dsimp only at h;have fr0:=Gy P;have br0:=Cd P;have sh0:∀τ d,(af w τ d).shape?=w.shape?:=fun _ _=>rfl
 have ch0:∀v:AS,(choose (.early g)).run P v= .ok ((Qf g).cut (v.tape v.drawn (.early g))) (af v v.tape (v.drawn+1)):=fun v=>by
  simp only[choose,Sem.run,Qu];rfl
 rw[ch0]at h;have hc0:∀τ d,Agree 1 w τ d→τ d (.early g)=w.tape w.drawn (.early g):=fun τ d ha=>ha 0 (by omega) _
 rcases Nat.eq_zero_or_pos ((Qf g).cut (w.tape w.drawn (.early g)))with hz|hz
 ·rw[hz]at h;repeat' split at h
  all_goals first
   |(cases h;done)
   |(
    cases h;refine bM rfl rfl fun τ d=> ?_
    unfold early;dsimp only;simp[*]<;>rfl)
   |(
    have hq:(PO 0 (af w w.tape (w.drawn+1)):Result Nat)=_:= ‹(PO 0 (af w w.tape (w.drawn+1)):Result Nat)=_›;cases hq;done)
   |(
    have hq:(PO 0 (af w w.tape (w.drawn+1)):Result Nat)=_:= ‹(PO 0 (af w w.tape (w.drawn+1)):Result Nat)=_›;simp only[Result.ok.injEq,true_and]at hq;subst hq;have hp:w.heap[g]?=_:= ‹(af w w.tape (w.drawn+1)).heap[g]?=_›;cases h;refine⟨1,1,PV _,rfl,rfl,fun τ d ha=> ?_⟩;have hc:=hc0 τ d ha;unfold early;dsimp only;simp[*]<;>rfl)
   |(
    have hq:(PO 0 (af w w.tape (w.drawn+1)):Result Nat)=_:= ‹(PO 0 (af w w.tape (w.drawn+1)):Result Nat)=_›;cases hq;exact absurd rfl ‹0=0→False›)
 ·obtain⟨n,hz⟩:∃n,(Qf g).cut (w.tape w.drawn (.early g))=n+1:=⟨_,(Nat.succ_pred_eq_of_pos hz).symm⟩;rw[hz]at h;repeat' split at h
  all_goals first
   |(cases h;done)
   |(
    cases h;refine bM rfl rfl fun τ d=> ?_
    unfold early;dsimp only;simp[*]<;>rfl)
   |(
    have hq:(PO (n+1) (af w w.tape (w.drawn+1)):Result Nat)=_:= ‹(PO (n+1) (af w w.tape (w.drawn+1)):Result Nat)=_›;cases hq;done)
   |(
    have hq:(PO (n+1) (af w w.tape (w.drawn+1)):Result Nat)=_:= ‹(PO (n+1) (af w w.tape (w.drawn+1)):Result Nat)=_›;cases hq;cases h;refine⟨1,1,PV _,rfl,rfl,fun τ d ha=> ?_⟩;have hc:=hc0 τ d ha;unfold early;dsimp only;simp[*]<;>rfl)
   |trace_state
theorem sZ{α:Type}{P:AI}{s:Sem α}{w:AS}{k m:Nat}(h:Loc (fun w=>s.runT P w #[]) w k m){r:Result α}(hr:s.run P w=r):(di r).tape=w.tape∧(di r).drawn=w.drawn+m∧∀τ d,Agree k w τ d→s.run P (af w τ d)=cr r τ (d+m):=by
 subst hr;have e:∀u,(s.runT P u #[]).1=s.run P u:=fun u=>PX P s u #[]
 refine⟨by rw[← e];exact h.tape,by rw[← e];exact h.drawn,fun τ d ha=> ?_⟩;rw[← e,← e,h.shift τ d ha]
instance wL{dy mk:Bool}(P:AI)(s:ByteArray):bN P dy mk (withAddress s):=by
 unfold withAddress;exact zq2
instance wM{dy mk:Bool}{P:AI}:∀(c:List PanicEntry)(b:Bool),bN P dy mk (reportChain c b):=by
 intro c;induction c with
 |nil=>intro b;unfold reportChain;exact zq2
 |cons e c ih=>
  intro b;unfold reportChain;repeat' (first
   |exact zq2
   |exact ih _
   |(refine @aS _ _ _ _ _ _ _ _ ?_ (fun _=> ?_))
   |(refine @kT _ _ _ _ _ _ _ _ _ ?_ ?_)
   |split
   |(intro _)
   |dsimp only)
theorem sH{P:AI}{fr:PD}{callers:List PD}{dy:Option Dying}{msg:String}{w w':AS}{g':If}{es:Array IT}(hw:am w)(h:endFatal P fr callers dy msg w= .go g' w' es):
 ∃k m,jQ (fun w=>endFatal P fr callers dy msg w) w g' w' es k m:=by
 have H:∀(shown:Sem (List (ByteArray×String)×List ByteArray))(F:AS→GStep),St P shown→(∀w,F w=(match shown.run P w with
  | .ok (texts,tabs) w=>dieOf fr (panicPieces texts++tabs) msg true w
  | .halt (.unsupported u) w=>.ended (.unsupported u "") w
  | .halt _ w=>.ended (.stuck "the report of a panic" "") w))→F w= .go g' w' es→∃k m,jQ F w g' w' es k m:=by
  intro s F hs hF h;rw[hF]at h;rcases dJ (P:=P) (s:=s) hw #[]with⟨k,m,hk,hL⟩|⟨x0,wx,hx,hdd⟩
  ·generalize hr:s.run P w=r at h;obtain⟨h1,h2,h3⟩:=sZ hL hr;cases r with
   |ok a v=>
    obtain⟨texts,tabs⟩:=a;cases h;exact⟨k,m,hk,h1,h2,fun τ d ha=>by rw[hF,h3 τ d ha];rfl⟩
   |halt x v=>cases x<;>cases h
  ·rw[PX]at hx;rw[hx]at h;cases x0<;>cases h
 have hraw:∀vs:List (By×String),St P (vs.mapM fun(v,mark)=>match panicText P true v with
  | .text s=>pure (s,mark)
  | .address s=>do pure (← withAddress s,mark)
  |_=>(unsupported (.noEntry "a fatal error during a panic whose value the report cannot show"):Sem (ByteArray×String))):=by
  intro vs;refine @px _ _ _ _ _ _ _ (fun x=> ?_) _;dsimp only;split <;>exact zq2
 refine H _ _ ?_ (fun w=>rfl) h;split
 ·exact zq2
 ·refine @aS _ _ _ _ _ _ _ _ zq2 fun _=> ?_
  exact @aS _ _ _ _ _ _ _ _ (hraw _) fun _=>zq2
 ·exact @aS _ _ _ _ _ _ _ _ (hraw _) fun _=>zq2
 ·exact zq2
theorem ED{P:AI}{fr:PD}{callers:List PD}{dy:Option Dying}{s:Sem Next}{w w' wx:AS}{g':If}{es:Array IT}{x:Halt}(h:stepG.apply P true fr callers dy s w= .go g' w' es)(hx:(s.runT P w #[]).1= .halt x wx)(hd:Dead x)(hst:g'.status= .running):False:=by
 unfold stepG.apply at h;simp only[if_true]at h;generalize s.runT P w #[]=y at h hx;obtain⟨r,e0⟩:=y;dsimp only at hx;subst hx;cases x;case unsupported u=>
  cases u<;>first
   |exact hd.elim
   |(obtain⟨e2,h4,_⟩:=ba h;cases h4;done)
 all_goals first
  |exact hd.elim
  |(
   obtain⟨e2,h4,_⟩:=ba h;first
    |(cases h4;done)
    |(cases h4;cases hst))
theorem pg{P:AI}{fr:PD}{callers:List PD}{dy:Option Dying}{s:Sem Next}[hs:St P s]{w w':AS}{g':If}{es:Array IT}(hw:am w)(h:stepG.apply P true fr callers dy s w= .go g' w' es)(hst:g'.status= .running):
 ∃k m,jQ (fun w=>stepG.apply P true fr callers dy s w) w g' w' es k m:=by
 obtain⟨k,m,hk,hL⟩:=(dJ (P:=P) (s:=s) hw #[]).resolve_right fun⟨x,wx,hx,hdd⟩=>ED h hx hdd hst
 have h1:=hL.tape;have h2:=hL.drawn;have h3:=hL.shift;clear hL;have hH:=ca hs.st w #[] hw;unfold stepG.apply at h;simp only[if_true]at h;generalize hr:s.runT P w #[]=x at h h1 h2 h3 hH;obtain⟨r,e0⟩:=x;cases r with
 |ok n v=>
  cases n;all_goals dsimp only at h h1 h2 h3
  case value u=>
   obtain⟨e2,h4,rfl⟩:=ba h;cases h4;exact⟨k,m,hk,h1,h2,fun τ d ha=>by simp only[stepG.apply,if_true,h3 τ d ha,cr];rfl⟩
  case skip=>
   obtain⟨e2,h4,rfl⟩:=ba h;cases h4;exact⟨k,m,hk,h1,h2,fun τ d ha=>by simp only[stepG.apply,if_true,h3 τ d ha,cr];rfl⟩
  case enter f args=>
   obtain⟨e2,h4,rfl⟩:=ba h;cases h4;exact⟨k,m,hk,h1,h2,fun τ d ha=>by simp only[stepG.apply,if_true,h3 τ d ha,cr];rfl⟩
  case round l f tmps assign body=>
   obtain⟨e2,h4,rfl⟩:=ba h;cases h4;exact⟨k,m,hk,h1,h2,fun τ d ha=>by simp only[stepG.apply,if_true,h3 τ d ha,cr];rfl⟩
  case defer x=>
   obtain⟨e2,h4,rfl⟩:=ba h;cases h4;exact⟨k,m,hk,h1,h2,fun τ d ha=>by simp only[stepG.apply,if_true,h3 τ d ha,cr];rfl⟩
  case recover=>
   obtain⟨e2,h4,rfl⟩:=ba h;refine⟨k,m,?_⟩;cases hro:fr.roundOf with
   |none=>
    simp only[hro]at h4;cases hx:tryRecover fr callers with
    |none=>
     simp only[hx]at h4;cases h4;exact⟨hk,h1,h2,fun τ d ha=>by simp only[stepG.apply,if_true,h3 τ d ha,cr,hro,hx];rfl⟩
    |some y=>
     simp only[hx]at h4;cases h4;exact⟨hk,h1,h2,fun τ d ha=>by simp only[stepG.apply,if_true,h3 τ d ha,cr,hro,hx];rfl⟩
   |some l=>
    simp only[hro]at h4;cases hx:(if P.follows .rangeFuncRecover then tryRecover fr callers else tryRecoverLoop l callers)with
    |none=>
     simp only[hx]at h4;cases h4;exact⟨hk,h1,h2,fun τ d ha=>by simp only[stepG.apply,if_true,h3 τ d ha,cr,hro,hx];rfl⟩
    |some y=>
     simp only[hx]at h4;cases h4;exact⟨hk,h1,h2,fun τ d ha=>by simp only[stepG.apply,if_true,h3 τ d ha,cr,hro,hx];rfl⟩
  case spawn x=>
   obtain⟨e2,h4,rfl⟩:=ba h;rcases ij h4 with⟨hc,h5⟩|⟨hc,h5⟩
   ·cases h5;refine⟨k,m,hk,h1,h2,fun τ d ha=> ?_⟩;simp only[stepG.apply,if_true,h3 τ d ha,cr];refine(congrArg (PW _) (if_pos hc)).trans ?_;rfl
   ·cases h5
  case callThen x resume saved wrapper=>
   obtain⟨e2,h4,rfl⟩:=ba h;cases hfd:fr.todo with
   |nil=>
    simp only[hfd]at h4;cases h4;exact⟨k,m,hk,h1,h2,fun τ d ha=>by simp only[stepG.apply,if_true,h3 τ d ha,cr,hfd];rfl⟩
   |cons it k'=>
    cases it<;>simp only[hfd]at h4<;>cases h4<;>exact⟨k,m,hk,h1,h2,fun τ d ha=>by simp only[stepG.apply,if_true,h3 τ d ha,cr,hfd];rfl⟩
  case row x args=>
   obtain⟨e2,h4,rfl⟩:=ba h;cases hfd:fr.todo with
   |nil=>
    simp only[hfd]at h4;cases h4;exact⟨k,m,hk,h1,h2,fun τ d ha=>by simp only[stepG.apply,if_true,h3 τ d ha,cr,hfd];rfl⟩
   |cons it k'=>
    cases it<;>simp only[hfd]at h4<;>cases h4<;>exact⟨k,m,hk,h1,h2,fun τ d ha=>by simp only[stepG.apply,if_true,h3 τ d ha,cr,hfd];rfl⟩
  case stack resume saved=>
   obtain⟨e2,h4,rfl⟩:=ba h;cases hfd:fr.todo with
   |nil=>
    simp only[hfd]at h4;cases h4;exact⟨k,m,hk,h1,h2,fun τ d ha=>by simp only[stepG.apply,if_true,h3 τ d ha,cr,hfd];rfl⟩
   |cons it k'=>
    cases it<;>simp only[hfd]at h4<;>cases h4<;>exact⟨k,m,hk,h1,h2,fun τ d ha=>by simp only[stepG.apply,if_true,h3 τ d ha,cr,hfd];rfl⟩
  case sleep till=>
   obtain⟨e2,h4,rfl⟩:=ba h;cases h4;exact⟨k,m,hk,h1,h2,fun τ d ha=>by simp only[stepG.apply,if_true,h3 τ d ha,cr];rfl⟩
  all_goals
   obtain⟨e2,h4,rfl⟩:=ba h;cases h4
 |halt x v=>
  cases x;all_goals dsimp only at h h1 h2 h3
  case panic u=>
   obtain⟨e2,h4,rfl⟩:=ba h;cases h4;exact⟨k,m,hk,h1,h2,fun τ d ha=>by simp only[stepG.apply,if_true,h3 τ d ha,cr];rfl⟩
  case goexit=>
   obtain⟨e2,h4,rfl⟩:=ba h;cases h4;exact⟨k,m,hk,h1,h2,fun τ d ha=>by simp only[stepG.apply,if_true,h3 τ d ha,cr];rfl⟩
  case blocked=>
   obtain⟨e2,h4,rfl⟩:=ba h;cases h4;exact⟨k,m,hk,h1,h2,fun τ d ha=>by simp only[stepG.apply,if_true,h3 τ d ha,cr];rfl⟩
  case waiting=>
   obtain⟨e2,h4,rfl⟩:=ba h;cases h4;exact⟨k,m,hk,h1,h2,fun τ d ha=>by simp only[stepG.apply,if_true,h3 τ d ha,cr];rfl⟩
  case exit c=>
   obtain⟨e2,h4,rfl⟩:=ba h;cases h4
  case stuck c=>
   obtain⟨e2,h4,rfl⟩:=ba h;cases h4
  case throw c=>
   obtain⟨e2,h4,rfl⟩:=ba h;cases h4;exact⟨k,m,hk,h1,h2,fun τ d ha=>by simp only[stepG.apply,if_true,h3 τ d ha,cr];rfl⟩
  case fatal c=>
   obtain⟨e2,h4,rfl⟩:=ba h;obtain⟨k',m',hL⟩:=sH (w:=v) hH h4;have hle:=hL.le;have h0:v.drawn=w.drawn+m:=h2;refine⟨m+k',m+m',by omega,hL.tape.trans h1,hL.drawn.trans (by rw[h0,BY]),fun τ d ha=> ?_⟩;have e3:=hL.shift τ (d+m) (Agree.tail (w:=w) (k:=m) ha (by omega) h1 h2);simp only[stepG.apply,if_true,h3 τ d (ha.le (by omega)),cr];refine(congrArg (PW _) e3).trans ?_;rw[BY];rfl
  case unsupported u=>
   obtain⟨e2,h4,rfl⟩:=ba h;cases u;case initOrder x=>
    dsimp only at h4;obtain⟨k',m',hL⟩:=GK h4;have hle:=hL.le;refine⟨m+k',m+m',by omega,hL.tape.trans h1,by rw[hL.drawn];dsimp only[di]at h2;rw[h2,BY],fun τ d ha=> ?_⟩;have e3:=hL.shift τ (d+m) (Agree.tail (w:=w) (k:=m) ha (by omega) h1 h2);simp only[stepG.apply,if_true,h3 τ d (ha.le (by omega)),cr,e3];rw[BY];rfl
   all_goals cases h4
end
section
variable[aJ]
instance CZ(P:AI)(fn:Func)(tmps:Array By):St P (results fn tmps):=by
 unfold results;refine @aS _ _ _ _ _ _ _ _ (@sY _ _ _ _ _ _ _ (fun r=> ?_) _) (fun _=>zq2);cases r<;>exact zq2
theorem pQ{P:AI}{main:Bool}{fr:PD}{callers:List PD}{dy:Option Dying}{v:By}{w w':AS}{g':If}{es:Array IT}(h:doReturn P main fr callers dy v w= .go g' w' es):
 w'=w∧∀u,doReturn P main fr callers dy v u= .go g' u es:=by
 unfold doReturn at h;cases callers with
 |cons c cs=>
  dsimp only at h;cases hk:fr.kind<;>simp only[hk]at h<;>cases h<;>exact⟨rfl,fun u=>by unfold doReturn;simp only[hk]⟩
 |nil=>
  dsimp only at h;have hn:∀(F:AS→GStep),(∀u,F u=(if(!main)=true then(.go {frame:=fr,callers:=[],status:=.finished,dying:=none} u:GStep)
   else match P.inits.idxOf? fr.fn with
    |some k=>.go {frame:=Frame.enter P (P.initFrom (k+1)) #[] .normal,callers:=[],status:=.running,dying:=none} u
    |none=>.ended (.done v) u))→F w= .go g' w' es→w'=w∧∀u,F u= .go g' u es:=by
   intro F hF h;rw[hF]at h;rcases ij h with⟨hm,h⟩|⟨hm,h⟩
   ·cases h;exact⟨rfl,fun u=>by rw[hF,if_pos hm]⟩
   ·cases hi:P.inits.idxOf? fr.fn with
    |none=>rw[hi]at h;cases h
    |some k=>
     rw[hi]at h;cases h;exact⟨rfl,fun u=>by rw[hF,if_neg hm,hi]⟩
  cases hk:fr.kind<;>simp only[hk]at h;case report=>
   cases dy with
   |none=>cases h
   |some d=>cases v<;>first
    |(cases h;done)
    |(cases h;exact⟨rfl,fun u=>by unfold doReturn;simp only[hk]⟩)
  all_goals exact hn (fun u=>doReturn P main fr [] dy v u) (fun u=>by unfold doReturn;simp only[hk];rfl) (by unfold doReturn;simp only[hk];exact h)
theorem uH{P:AI}{fr:PD}{callers:List PD}{dy:Option Dying}{d:Q6}{w w':AS}{g':If}{es:Array IT}(T:bw P)(hw:am w)(h:PG P fr callers dy d w= .go g' w' es)(hst:g'.status= .running):
 ∃k m,jQ (fun w=>PG P fr callers dy d w) w g' w' es k m:=by
 unfold PG at h;rcases ij h with⟨hc,h⟩|⟨hc,h⟩
 ·cases h
 have hs:=eL T.toei d.target d.args;rcases dJ (P:=P) (s:=invoke d.target d.args) hw #[]with⟨k,m,hk,hL⟩|⟨x0,wx,hx,hdd⟩
 rotate_left
 ·exfalso;generalize (invoke d.target d.args).runT P w #[]=y at h hx;obtain⟨r,e0⟩:=y;dsimp only at hx;subst hx;cases x0;all_goals first
   |exact hdd.elim
   |(
    obtain⟨e2,h4,_⟩:=ba h;first
     |(cases h4;done)
     |(cases h4;cases hst))
 have h1:=hL.tape;have h2:=hL.drawn;have h3:=hL.shift;clear hL;have hH:=ca hs.st w #[] hw;generalize hr:(invoke d.target d.args).runT P w #[]=x at h h1 h2 h3 hH;obtain⟨r,e0⟩:=x;cases r with
 |ok n v=>
  cases n;all_goals dsimp only at h h1 h2 h3
  case recover=>
   obtain⟨e2,h4,rfl⟩:=ba h;refine⟨k,m,?_⟩;cases hm:fr.mode with
   |returning=>
    simp only[hm]at h4;cases hx:tryRecover fr callers with
    |none=>
     simp only[hx]at h4;cases h4;exact⟨hk,h1,h2,fun τ d' ha=>by unfold PG;rw[if_neg hc];simp only[h3 τ d' ha,cr,hm,hx];rfl⟩
    |some y=>
     simp only[hx]at h4;cases h4;exact⟨hk,h1,h2,fun τ d' ha=>by unfold PG;rw[if_neg hc];simp only[h3 τ d' ha,cr,hm,hx];rfl⟩
   |run=>
    simp only[hm]at h4;cases h4;exact⟨hk,h1,h2,fun τ d' ha=>by unfold PG;rw[if_neg hc];simp only[h3 τ d' ha,cr,hm];rfl⟩
   |panicking c=>
    simp only[hm]at h4;cases h4;exact⟨hk,h1,h2,fun τ d' ha=>by unfold PG;rw[if_neg hc];simp only[h3 τ d' ha,cr,hm];rfl⟩
  case alone on u=>
   obtain⟨e2,h4,rfl⟩:=ba h;cases on<;>cases h4
  case coroswitch c ex=>
   obtain⟨e2,h4,rfl⟩:=ba h;cases ex<;>cases h4
  all_goals
   obtain⟨e2,h4,rfl⟩:=ba h;first
    |(cases h4;done)
    |(
     cases h4;exact⟨k,m,hk,h1,h2,fun τ d' ha=>by unfold PG;rw[if_neg hc];simp only[h3 τ d' ha,cr];rfl⟩)
 |halt x v=>
  cases x;all_goals dsimp only at h h1 h2 h3
  case fatal c=>
   obtain⟨e2,h4,rfl⟩:=ba h;obtain⟨k',m',hL⟩:=sH (w:=v) hH h4;have hle:=hL.le;have h0:v.drawn=w.drawn+m:=h2;refine⟨m+k',m+m',by omega,hL.tape.trans h1,hL.drawn.trans (by rw[h0,BY]),fun τ d' ha=> ?_⟩;have e3:=hL.shift τ (d'+m) (Agree.tail (w:=w) (k:=m) ha (by omega) h1 h2);unfold PG;rw[if_neg hc];simp only[h3 τ d' (ha.le (by omega)),cr];refine(congrArg (PW _) e3).trans ?_;rw[BY];rfl
  all_goals
   obtain⟨e2,h4,rfl⟩:=ba h;first
    |(cases h4;done)
    |(
     cases h4;exact⟨k,m,hk,h1,h2,fun τ d' ha=>by unfold PG;rw[if_neg hc];simp only[h3 τ d' ha,cr];rfl⟩)
theorem uR{P:AI}{main:Bool}{fr:PD}{callers:List PD}{dy:Option Dying}{w w':AS}{g':If}{es:Array IT}(T:bw P)(hw:am w)(h:unwind P main fr callers dy w= .go g' w' es)(hst:g'.status= .running):
 ∃k m,jQ (fun w=>unwind P main fr callers dy w) w g' w' es k m:=by
 unfold unwind at h;cases hd:fr.defers with
 |cons d ds=>
  obtain⟨tg,ar⟩:=d;cases tg with
  |collected block=>
   simp only[hd]at h;rcases dJ (P:=P) (s:=PL block) hw #[]with⟨k,m,hk,hL⟩|⟨x0,wx,hx,hdd⟩
   rotate_left
   ·exfalso;generalize (PL block).runT P w #[]=y at h hx;obtain⟨r,e0⟩:=y;dsimp only at hx;subst hx;obtain⟨e2,h4,_⟩:=ba h;cases x0<;>first
     |exact hdd.elim
     |(dsimp only at h4;cases h4;done)
     |(cases h4;done)
   have h1:=hL.tape;have h2:=hL.drawn;have h3:=hL.shift;clear hL;generalize hr:(PL block).runT P w #[]=x at h h1 h2 h3;obtain⟨r,e0⟩:=x;obtain⟨e2,h4,rfl⟩:=ba h;cases r with
   |ok a v=>
    dsimp only at h4 h1 h2 h3;cases h4;exact⟨k,m,hk,h1,h2,fun τ d' ha=>by unfold unwind;simp only[hd,h3 τ d' ha,cr];rfl⟩
   |halt x v=>
    dsimp only at h4;cases h4
  |_=>
   simp only[hd]at h;obtain⟨k,m,l,a,b,c⟩:=uH T hw h hst;exact⟨k,m,l,a,b,fun τ d' ha=>by unfold unwind;simp only[hd];exact c τ d' ha⟩
 |nil=>
  simp only[hd]at h;cases hm:fr.mode with
  |run=>simp only[hm]at h;cases h
  |panicking chain=>
   simp only[hm]at h;rcases ij h with⟨hc,h⟩|⟨hc,h⟩
   ·cases h
   cases callers with
   |cons c cs=>
    dsimp only at h;cases h;exact bM rfl rfl fun τ d'=>by unfold unwind;simp only[hd,hm];rw[if_neg hc]
   |nil=>
    cases dy with
    |none=>
     dsimp only at h;rcases ij h with⟨hc2,h⟩|⟨hc2,h⟩
     ·cases h;exact bM rfl rfl fun τ d'=>by unfold unwind;simp only[hd,hm];rw[if_neg hc,if_pos hc2]
     ·rcases dJ (P:=P) (s:=reportChain chain false) hw #[]with⟨k,m,hk,hL⟩|⟨x0,wx,hx,hdd⟩
      ·generalize hr:(reportChain chain false).run P w=r at h;obtain⟨h1,h2,h3⟩:=sZ hL hr;cases r with
       |ok a v=>
        cases h;exact⟨k,m,hk,h1,h2,fun τ d' ha=>by unfold unwind;simp only[hd,hm];rw[if_neg hc,if_neg hc2,h3 τ d' ha];rfl⟩
       |halt x v=>cases x<;>cases h
      ·rw[PX]at hx;rw[hx]at h;cases x0<;>cases h
    |some dd=>
     dsimp only at h;have he:∀v:By,endPrinting P fr v w= .go g' w' es→w'=w∧∀u,endPrinting P fr v u= .go g' u es:=by
      intro v h;unfold endPrinting at h;dsimp only at h;split at h
      ·rename_i hs;cases h;exact⟨rfl,fun u=>by unfold endPrinting;dsimp only;rw[hs];rfl⟩
      ·cases h
     cases chain with
     |nil=>cases h
     |cons e older=>
      obtain⟨v,rc,gx⟩:=e;cases gx with
      |true=>cases h
      |false=>
       obtain⟨rfl,hU⟩:=he v h;exact bM rfl rfl fun τ d'=>by unfold unwind;simp only[hd,hm];rw[if_neg hc];exact hU _
  |returning=>
   simp only[hm]at h;cases hf:P.funcs[fr.fn]? with
   |none=>
    simp only[hf]at h;obtain⟨rfl,hU⟩:=pQ h;exact bM rfl rfl fun τ d'=>by unfold unwind;simp only[hd,hm,hf];exact hU _
   |some fn=>
    simp only[hf]at h;rcases dJ (P:=P) (s:=results fn fr.tmps) hw #[]with⟨k,m,hk,hL⟩|⟨x0,wx,hx,hdd⟩
    rotate_left
    ·exfalso;generalize (results fn fr.tmps).runT P w #[]=y at h hx;obtain⟨r,e0⟩:=y;dsimp only at hx;subst hx;obtain⟨e2,h4,_⟩:=ba h;cases x0<;>first
      |exact hdd.elim
      |(dsimp only at h4;cases h4;done)
      |(cases h4;done)
    have h1:=hL.tape;have h2:=hL.drawn;have h3:=hL.shift;clear hL;generalize hr:(results fn fr.tmps).runT P w #[]=x at h h1 h2 h3;obtain⟨r,e0⟩:=x;obtain⟨e2,h4,rfl⟩:=ba h;cases r with
    |ok a v=>
     dsimp only at h4 h1 h2 h3;obtain⟨rfl,hU⟩:=pQ h4;exact⟨k,m,hk,h1,h2,fun τ d' ha=>by unfold unwind;simp only[hd,hm,hf,h3 τ d' ha,cr,hU];rfl⟩
    |halt x v=>
     exfalso;cases x<;>dsimp only at h4<;>cases h4
end
section
variable[aJ]
theorem zg{α β:Type}{P:AI}{Q:α→Prop}{s:Sem α}{f:α→Sem β}(hs:jW P s)(hl:Leaf P Q s)(hf:∀a,Q a→jW P (f a)):jW P (s>>=f):=by
 show jW P (s.bind f);induction s with
 |pure a=>exact hf a hl
 |halt h=>trivial
 |load m a k ih=>exact fun v=>ih v (hs v) (hl v)
 |store m a v k ih=>exact ih hs hl
 |new o k ih=>exact⟨hs.1,fun v=>ih v (hs.2 v) (hl v)⟩
 |shape r k ih=>exact fun v=>ih v (hs v) (hl v)
 |freeze a n k ih=>exact ih hs hl
 |frozen a k ih=>exact fun v=>ih v (hs v) (hl v)
 |getObj r k ih=>exact⟨fun v hv=>ih v (hs.1 v hv) (hl v hv),uA hs.2⟩
 |setObj r o k ih=>exact⟨hs.1,ih hs.2 hl⟩
 |choose q k ih=>exact fun v=>ih v (hs v) (hl v)
 |sys c k ih=>exact⟨let⟨h,e,d⟩:=hs.1;⟨h,(congrArg (fun x=>PP x f) e).trans rfl,d⟩,fun v=>ih v (hs.2 v) (hl v)⟩
 |program k ih=>exact ih P hs hl
 |mark m k ih=>exact⟨hs.1,ih hs.2 hl⟩
theorem ec{P:AI}(ρ:Q9→By)(c:Call)(t:PJ)(l:Nat):St P (do PM l (← resolve ρ c t);pure Next.skip):=
 ⟨zg (Bo ρ c t).st (jk ρ c t) fun d hd=>(@aS _ _ _ _ _ _ _ _ (kz P l d hd) fun _=>zq2).st⟩
def jz:Item→Prop
 | .call _ _ _ _=>False
 | .extern r _=>r=printRow
 | .code c=>cW c=true
 | .inLoop b=>cW b=true
 | .inScope b=>cW b=true
 | .inRegion ops is=>∀i∈is,∀o,ops[i]?=some o→JC o.op=true
 |_=>True
theorem vA{id:Nat}{ops:Array Oper}{draw:Bool}(h:cW (.region id ops draw)=true)(is:List Nat):jz (.inRegion ops is):=fun i _ o ho=>by
 simp only[cW,Array.all_eq_true]at h;obtain⟨hlt,rfl⟩:=Array.getElem?_eq_some_iff.1 ho;exact h i hlt
def dc(fr:PD):Prop:=(∀it∈fr.todo,jz it)∧∀d∈fr.defers,oG d
theorem l8:Extern.next printRow=some (Extern.PrintPieces.piece #[] #[]):=by rfl
theorem Il{P:AI}{fr:PD}{callers:List PD}{dy:Option Dying}{w w':AS}{g':If}{es:Array IT}(T:bw P)(hw:am w)(hst:g'.status= .running)(h:stepG.oper P true fr callers dy w= .go g' w' es):
 ∃k m,jQ (fun w=>stepG.oper P true fr callers dy w) w g' w' es k m:=by
 unfold stepG.oper at h;cases ho:fr.oper? with
 |none=>rw[ho]at h;cases h
 |some o=>
  simp only[ho]at h;suffices H:∀s:Sem Next,St P s→stepG.apply P true fr callers dy s w= .go g' w' es→(∀u,stepG.oper P true fr callers dy u=stepG.apply P true fr callers dy s u)→∃k m,jQ (fun w=>stepG.oper P true fr callers dy w) w g' w' es k m by
   cases hr:fr.roundOf with
   |none=>
    simp only[hr]at h;exact H _ (by first |exact gq T.toei _ _|exact ec _ _ _ _) h fun u=>by unfold stepG.oper;simp only[ho,hr]
   |some l=>
    cases hop:o.op with
    |defer c=>
     simp only[hr,hop]at h;exact H _ (by first |exact gq T.toei _ _|exact ec _ _ _ _) h fun u=>by unfold stepG.oper;simp only[ho,hr,hop]
    |_=>
     simp only[hr,hop]at h;exact H _ (by first |exact gq T.toei _ _|exact ec _ _ _ _) h fun u=>by unfold stepG.oper;simp only[ho,hr,hop]
  intro s hS hs hu;obtain⟨k,m,l,a,b,c⟩:=pg (hs:=hS) hw hs hst;exact⟨k,m,l,a,b,fun τ d ha=>(hu _).trans (c τ d ha)⟩
theorem oN{P:AI}{main:Bool}{fr:PD}{callers:List PD}{dy:Option Dying}{l:Nat}{jump:Option Code}{w w':AS}{g':If}{es:Array IT}{F:AS→GStep}
 (hF:∀u,F u=PW (seen P fr.fn ((No l jump).runT P u #[]).2) (match((No l jump).runT P u #[]).1 with
  | .ok v w=>doReturn P main fr callers dy v w
  | .halt _ w=>.ended (.stuck "range over a function: no such loop" (fr.pos P)) w)) (h0:∀c,jump=some c→cW c=true) (hw:am w) (h:F w= .go g' w' es):
 ∃k m,jQ F w g' w' es k m:=by
 rw[hF]at h;rcases dJ (P:=P) (s:=No l jump) (hs:=jP P l jump h0) hw #[]with⟨k,m,hk,hL⟩|⟨x0,wx,hx,hdd⟩
 rotate_left
 ·exfalso;generalize (No l jump).runT P w #[]=y at h hx;obtain⟨r,e0⟩:=y;dsimp only at hx;subst hx;obtain⟨e2,h4,_⟩:=ba h;cases h4
 have h1:=hL.tape;have h2:=hL.drawn;have h3:=hL.shift;clear hL;generalize hx:(No l jump).runT P w #[]=x at h h1 h2 h3;obtain⟨r,e0⟩:=x;obtain⟨e2,h4,rfl⟩:=ba h;cases r with
 |ok a v=>
  dsimp only at h4 h1 h2 h3;obtain⟨rfl,hU⟩:=pQ h4;exact⟨k,m,hk,h1,h2,fun τ d' ha=>by rw[hF];simp only[h3 τ d' ha,cr,hU];rfl⟩
 |halt x v=>dsimp only at h4;cases h4
theorem IZ{P:AI}{main:Bool}{fr:PD}{callers:List PD}{dy:Option Dying}{w w':AS}{g':If}{es:Array IT}(T:bw P)(hw:am w)(hj:dc fr)(hst:g'.status= .running)(h:stepG.exec P main true fr callers dy w= .go g' w' es):
 ∃k m,jQ (fun w=>stepG.exec P main true fr callers dy w) w g' w' es k m:=by
 cases ht:fr.todo with
 |nil=>
  unfold stepG.exec at h;simp only[ht]at h;cases hr:fr.roundOf with
  |none=>
   simp only[hr]at h;cases h;exact bM rfl rfl fun τ d'=>by unfold stepG.exec;simp only[ht,hr];rfl
  |some l=>
   simp only[hr]at h;exact oN (P:=P) (main:=main) (fr:=fr) (callers:=callers) (F:=fun w=>stepG.exec P main true fr callers dy w) (jump:=none) (l:=l) (fun u=>by unfold stepG.exec;simp only[ht,hr];rfl) nofun hw (by unfold stepG.exec;simp only[ht,hr];exact h)
 |cons it rest=>
  cases it with
  |code c=>
   cases c with
   |skip=>
    unfold stepG.exec at h;simp only[ht]at h;cases h;exact bM rfl rfl fun τ d'=>by unfold stepG.exec;simp only[ht]
   |label l=>
    unfold stepG.exec at h;simp only[ht]at h;cases h;exact bM rfl rfl fun τ d'=>by unfold stepG.exec;simp only[ht]
   |seq a b=>
    unfold stepG.exec at h;simp only[ht]at h;cases h;exact bM rfl rfl fun τ d'=>by unfold stepG.exec;simp only[ht]
   |block id body=>
    unfold stepG.exec at h;simp only[ht]at h;cases h;exact bM rfl rfl fun τ d'=>by unfold stepG.exec;simp only[ht]
   |loop body=>
    unfold stepG.exec at h;simp only[ht]at h;cases h;exact bM rfl rfl fun τ d'=>by unfold stepG.exec;simp only[ht]
   |scope body=>
    unfold stepG.exec at h;simp only[ht]at h;cases h;exact bM rfl rfl fun τ d'=>by unfold stepG.exec;simp only[ht]
   |refuse why=>
    unfold stepG.exec at h;simp only[ht]at h;cases h
   |cond c thn els=>
    unfold stepG.exec at h;simp only[ht]at h;cases hv:fr.eval c;case bool b=>
     simp only[hv]at h;cases h;exact bM rfl rfl fun τ d'=>by unfold stepG.exec;simp only[ht,hv]
    all_goals
     simp only[hv]at h;cases h
   |ret=>
    unfold stepG.exec at h;simp only[ht]at h;cases hr:fr.roundOf with
    |none=>
     simp only[hr]at h;cases h;exact bM rfl rfl fun τ d'=>by unfold stepG.exec;simp only[ht,hr];rfl
    |some l=>
     simp only[hr]at h;exact oN (P:=P) (main:=main) (fr:=fr) (callers:=callers) (F:=fun w=>stepG.exec P main true fr callers dy w) (jump:=some .ret) (l:=l) (fun u=>by unfold stepG.exec;simp only[ht,hr];rfl) (by rintro c hc;cases hc;rfl) hw (by unfold stepG.exec;simp only[ht,hr];exact h)
   |exit id=>
    unfold stepG.exec at h;simp only[ht]at h;cases he:exitTo id rest with
    |some k=>
     simp only[he,OF]at h;cases h;exact bM rfl rfl fun τ d'=>by unfold stepG.exec;simp only[ht,he,OF]
    |none=>
     simp only[he,OF]at h;cases hr:fr.roundOf with
     |none=>
      simp only[hr]at h;cases h
     |some l=>
      simp only[hr]at h;exact oN (P:=P) (main:=main) (fr:=fr) (callers:=callers) (F:=fun w=>stepG.exec P main true fr callers dy w) (jump:=some (.exit id)) (l:=l) (fun u=>by unfold stepG.exec;simp only[ht,hr,he,OF];rfl) (by rintro c hc;cases hc;rfl) hw (by unfold stepG.exec;simp only[ht,hr,he,OF];exact h)
   |goto id=>
    unfold stepG.exec at h;simp only[ht]at h;cases he:gotoIn id rest with
    |some k=>
     simp only[he,OF]at h;cases h;exact bM rfl rfl fun τ d'=>by unfold stepG.exec;simp only[ht,he,OF]
    |none=>
     simp only[he,OF]at h;cases hr:fr.roundOf with
     |none=>
      simp only[hr]at h;cases h
     |some l=>
      simp only[hr]at h;exact oN (P:=P) (main:=main) (fr:=fr) (callers:=callers) (F:=fun w=>stepG.exec P main true fr callers dy w) (jump:=some (.goto id)) (l:=l) (fun u=>by unfold stepG.exec;simp only[ht,hr,he,OF];rfl) (by rintro c hc;cases hc;rfl) hw (by unfold stepG.exec;simp only[ht,hr,he,OF];exact h)
   |rangeFunc f params assign body=>
    unfold stepG.exec at h;simp only[ht]at h;have h0:cW assign=true∧cW body=true:=by
     have:=hj.1 (.code (.rangeFunc f params assign body)) (by rw[ht];exact Q7 ..);simpa[jz,cW]using this
    have hH:=ca (cT P fr.fn fr.tmps params assign body fr.roundOf h0.1 h0.2).st w #[] hw;rcases dJ (P:=P) (s:=PN fr.fn fr.tmps params assign body fr.roundOf) (hs:=cT P fr.fn fr.tmps params assign body fr.roundOf h0.1 h0.2) hw #[]with⟨k,m,hk,hL⟩|⟨x0,wx,hx,hdd⟩
    rotate_left
    ·exfalso;generalize (PN fr.fn fr.tmps params assign body fr.roundOf).runT P w #[]=y at h hx;obtain⟨r,e0⟩:=y;dsimp only at hx;subst hx;obtain⟨e2,h4,_⟩:=ba h;cases h4
    have h1:=hL.tape;have h2:=hL.drawn;have h3:=hL.shift;clear hL;generalize hx:(PN fr.fn fr.tmps params assign body fr.roundOf).runT P w #[]=x at h h1 h2 h3 hH;obtain⟨r,e0⟩:=x;obtain⟨e2,h4,rfl⟩:=ba h;cases r with
    |halt x v=>dsimp only at h4;cases h4
    |ok a v=>
     obtain⟨l,mark⟩:=a;dsimp only at h4 h1 h2 h3;obtain⟨k2,m2,l2,a2,b2,c2⟩:=pg (hs:= @aS _ _ _ _ _ _ _ _ zq2 fun d=>eL T.toei _ _) hH h4 hst;refine⟨m+k2,m+m2,by omega,a2.trans h1,by rw[b2,← BY];exact congrArg (· +m2) h2,fun τ d' ha=> ?_⟩;unfold stepG.exec;simp only[ht,h3 τ d' (ha.le (by omega)),cr];have:=c2 τ (d'+m) (Agree.tail (w:=w) (k:=m) ha (by omega) h1 h2);dsimp only[di]at this;rw[this,← BY];rfl
   |region id ops draw=>
    unfold stepG.exec at h;simp only[ht]at h;cases draw with
    |false=>
     simp only[Bool.not_false,if_true]at h;cases h;exact bM rfl rfl fun τ d'=>by unfold stepG.exec;simp only[ht,Bool.not_false,if_true]
    |true=>
     have ch0:∀v:AS,(choose (.order fr.fn id)).run P v= .ok ((Question.order fr.fn id).cut (v.tape v.drawn (.order fr.fn id))) (af v v.tape (v.drawn+1)):=fun v=>by
      simp only[choose,Sem.run,Qu];rfl
     simp only[Qg,IN,if_false,ch0]at h;cases h;refine⟨1,1,PV _,rfl,rfl,fun τ d' ha=> ?_⟩;have hc:τ d' (.order fr.fn id)=w.tape w.drawn (.order fr.fn id):=ha 0 (by omega) _;unfold stepG.exec;simp only[ht,Qg,IN,if_false,ch0,zH,xL,hc];rfl
  |inBlock id=>
   unfold stepG.exec at h;simp only[ht]at h;cases h;exact bM rfl rfl fun τ d'=>by unfold stepG.exec;simp only[ht]
  |inScope id=>
   unfold stepG.exec at h;simp only[ht]at h;cases h;exact bM rfl rfl fun τ d'=>by unfold stepG.exec;simp only[ht]
  |inLoop id=>
   unfold stepG.exec at h;simp only[ht]at h;cases h;exact bM rfl rfl fun τ d'=>by unfold stepG.exec;simp only[ht]
  |inRangeFunc id=>
   unfold stepG.exec at h;simp only[ht]at h;cases h
  |beginRound=>
   have hU:∀u,stepG.exec P main true fr callers dy u=stepG.apply P true fr callers dy (do fr.roundOf.elim (stuck "beginRound: no round") PR;pure .skip) u:=fun u=>by unfold stepG.exec;simp only[ht]
   rw[hU]at h;obtain⟨k,m,l,a,b,c⟩:=pg (hs:= @aS _ _ _ _ _ _ _ _ (by cases fr.roundOf with |none=>exact qx P _|some l=>exact dW P l) fun _=>zq2) hw h hst;exact⟨k,m,l,a,b,fun τ d ha=>(hU _).trans (c τ d ha)⟩
  |call d a b c=>exact(hj.1 (.call d a b c) (by rw[ht];exact Q7 ..)).elim
  |extern row args=>
   cases he:Extern.next row with
   |none=>
    unfold stepG.exec at h;simp only[ht,he,OF]at h;cases h
   |some e=>
    have hU:∀u,stepG.exec P main true fr callers dy u=stepG.apply P true fr callers dy (e args) u:=fun u=>by unfold stepG.exec;simp only[ht,he,OF]
    rw[hU]at h;have hrow:row=printRow:=hj.1 (.extern row args) (by rw[ht];exact Q7 ..);subst hrow;rw[l8]at he;cases he;obtain⟨k,m,l,a,b,c⟩:=pg (hs:=ly P _ _ _) hw h hst;exact⟨k,m,l,a,b,fun τ d ha=>(hU _).trans (c τ d ha)⟩
  |endRangeFunc l=>
   unfold stepG.exec at h;simp only[ht]at h;rcases dJ (P:=P) (s:=PU l) hw #[]with⟨k,m,hk,hL⟩|⟨x0,wx,hx,hdd⟩
   rotate_left
   ·exfalso;generalize (PU l).runT P w #[]=y at h hx;obtain⟨r,e0⟩:=y;dsimp only at hx;subst hx;obtain⟨e2,h4,_⟩:=ba h;cases x0<;>first
     |exact hdd.elim
     |(dsimp only at h4;cases h4;done)
     |(cases h4;done)
   have h1:=hL.tape;have h2:=hL.drawn;have h3:=hL.shift;clear hL;generalize hx:(PU l).runT P w #[]=x at h h1 h2 h3;obtain⟨r,e0⟩:=x;obtain⟨e2,h4,rfl⟩:=ba h;cases r with
   |ok a v=>
    dsimp only at h4 h1 h2 h3;cases h4;exact⟨k,m,hk,h1,h2,fun τ d' ha=>by unfold stepG.exec;simp only[ht,h3 τ d' ha,cr];rfl⟩
   |halt x v=>
    cases x<;>dsimp only at h4 h1 h2 h3<;>cases h4;exact⟨k,m,hk,h1,h2,fun τ d' ha=>by unfold stepG.exec;simp only[ht,h3 τ d' ha,cr];rfl⟩
  |inRegion ops todo=>
   cases todo with
   |nil=>
    unfold stepG.exec at h;simp only[ht]at h;cases h;exact bM rfl rfl fun τ d'=>by unfold stepG.exec;simp only[ht]
   |cons i is=>
    cases hwn:((ops[i]?).map (Region.wanted · (yielded ops fr.tmps))).getD false with
    |true=>
     have hU:∀u,stepG.exec P main true fr callers dy u=stepG.oper P true fr callers dy u:=fun u=>by unfold stepG.exec;simp only[ht,hwn,if_true]
     rw[hU]at h;obtain⟨k,m,l,a,b,c⟩:=Il T hw hst h;exact⟨k,m,l,a,b,fun τ d ha=>(hU _).trans (c τ d ha)⟩
    |false=>
     unfold stepG.exec at h;simp only[ht,hwn,IN,if_false]at h;cases h;exact bM rfl rfl fun τ d'=>by unfold stepG.exec;simp only[ht,hwn,IN,if_false]
theorem vU{P:AI}{fr:PD}{v:By}{w w':AS}{g':If}{es:Array IT}(h:endPrinting P fr v w= .go g' w' es):w'=w∧∀u,endPrinting P fr v u= .go g' u es:=by
 unfold endPrinting at h;dsimp only at h;split at h
 ·rename_i hs;cases h;exact⟨rfl,fun u=>by unfold endPrinting;dsimp only;rw[hs];rfl⟩
 ·cases h
theorem Bd{P:AI}{fr:PD}{d:Dying}{f:Fatal}{w w':AS}{g':If}{es:Array IT}(hw:am w)(hst:g'.status= .running)(h:writeOn P fr d f w= .go g' w' es):
 ∃k m,jQ (fun w=>writeOn P fr d f w) w g' w' es k m:=by
 unfold writeOn at h;cases hp:f.pieces with
 |nil=>rw[hp]at h;cases h
 |cons piece rest=>
  rw[hp]at h;dsimp only at h;have H:∀(s:Sem Unit)(F:AS→GStep),St P s→(∀w,F w=(match s.runT P w #[]with
   |(.ok _ w,es)=>.go {frame:=fr,callers:=[],status:=.running,dying:=some {d with fatal:=some {f with pieces:=rest,begun:=true}}} w es
   |(.halt .blocked w,_)=>.go {frame:=fr,callers:=[],status:=.blocked,dying:=some {d with fatal:=some f}} w #[]
   |(.halt (.unsupported u) w,_)=>.ended (.unsupported u "") w
   |(.halt _ w,_)=>.ended (.stuck "the report of a fatal error" "") w))→F w= .go g' w' es→∃k m,jQ F w g' w' es k m:=by
   intro s F hs hF h;rw[hF]at h;rcases dJ (P:=P) (s:=s) hw #[]with⟨k,m,hk,hL⟩|⟨x0,wx,hx,hdd⟩
   ·have h1:=hL.tape;have h2:=hL.drawn;have h3:=hL.shift;generalize hr:s.runT P w #[]=x at h h1 h2 h3;obtain⟨r,e0⟩:=x;cases r with
    |ok a v=>
     cases h;exact⟨k,m,hk,h1,h2,fun τ d ha=>by rw[hF];dsimp only at h3;rw[h3 τ d ha];rfl⟩
    |halt x v=>cases x<;>first |(cases h;done)|(cases h;cases hst)
   ·generalize s.runT P w #[]=x at h hx;obtain⟨r,e0⟩:=x;dsimp only at hx;subst hx;cases x0<;>first |(cases h;done)|(cases h;cases hst)
  refine H _ _ ?_ (fun u=>by unfold writeOn;rw[hp];rfl) (by unfold writeOn;rw[hp];exact h);have h0:∀b:ByteArray,St P (do
   match← sys (.write 2 b)with
   | .int n=>if n !=b.size then unsupported (.noEntry "a report that its descriptor cannot take whole")
   | .err _=>pure ()
   |_=>unsupported (.noEntry "a report that its descriptor cannot take whole"):Sem Unit):=by
   intro b;refine⟨⟨⟨_,rfl,trivial⟩,fun v=> ?_⟩⟩;cases v<;>first
    |trivial
    |(
     show jW P (if _ then _ else _);split <;>trivial)
  repeat' (first
   |exact zq2
   |exact h0 _
   |(refine @aS _ _ _ _ _ _ _ _ ?_ (fun _=> ?_))
   |(refine @kT _ _ _ _ _ _ _ _ _ ?_ ?_)
   |split
   |(intro _)
   |dsimp only)
theorem C7{w w':AS}{fd:Nat}{t:ByteArray}{o:Outcome}{g':If}{es:Array IT}(h:endWith w fd t o= .go g' w' es):False:=by
 unfold endWith at h;dsimp only at h;split at h
 ·split at h<;>cases h
 ·cases h
 ·cases h
theorem Lb{P:AI}{fr:PD}{d:Dying}{w w':AS}{g':If}{es:Array IT}(T:bw P)(hw:am w)(hst:g'.status= .running)(h:die P fr d w= .go g' w' es):
 ∃k m,jQ (fun w=>die P fr d w) w g' w' es k m:=by
 unfold die at h;cases hf:d.fatal with
 |some f=>
  rw[hf]at h;obtain⟨k,m,l,a,b,c⟩:=Bd hw hst h;exact⟨k,m,l,a,b,fun τ d' ha=>by unfold die;rw[hf];exact c τ d' ha⟩
 |none=>
  rw[hf]at h;dsimp only at h;cases ht:d.todo with
  |nil=>
   rw[ht]at h;dsimp only at h;rcases ij h with⟨hc,h⟩|⟨hc,h⟩
   ·cases h;cases hst
   ·exact(C7 h).elim
  |cons e rest=>
   obtain⟨v,mark⟩:=e;rw[ht]at h;dsimp only at h;cases hp:panicText P false v with
   |text s=>
    rw[hp]at h;cases h;exact bM rfl rfl fun τ d'=>by unfold die;rw[hf,ht];dsimp only;rw[hp]
   |no u=>rw[hp]at h;cases h
   |address s=>
    rw[hp]at h;dsimp only at h;rcases dJ (P:=P) (s:=withAddress s) hw #[]with⟨k,m,hk,hL⟩|⟨x0,wx,hx,hdd⟩
    ·generalize hr:(withAddress s).run P w=r at h;obtain⟨h1,h2,h3⟩:=sZ hL hr;cases r with
     |ok a u=>
      cases h;exact⟨k,m,hk,h1,h2,fun τ d' ha=>by unfold die;rw[hf,ht];dsimp only;rw[hp];dsimp only;rw[h3 τ d' ha];rfl⟩
     |halt x u=>cases h
    ·rw[PX]at hx;rw[hx]at h;cases h
   |call t recv name=>
    rw[hp]at h;dsimp only at h;have hs:=eL T.toei (.fn (.method name) #[]) #[.iface t recv];rcases dJ (P:=P) (s:=invoke (.fn (.method name) #[]) #[.iface t recv]) hw #[]with⟨k,m,hk,hL⟩|⟨x0,wx,hx,hdd⟩
    ·have h1:=hL.tape;have h2:=hL.drawn;have h3:=hL.shift;generalize hr:(invoke (.fn (.method name) #[]) #[.iface t recv]).runT P w #[]=x at h h1 h2 h3;obtain⟨r,e0⟩:=x;dsimp only at h3;obtain⟨e2,h4,rfl⟩:=ba h;cases r with
     |ok n u=>
      cases n;case enter f args=>
       cases h4;exact⟨k,m,hk,h1,h2,fun τ d' ha=>by unfold die;rw[hf,ht];dsimp only;rw[hp];dsimp only;rw[h3 τ d' ha];rfl⟩
      case value v2=>
       cases v2;case string s=>
        cases h4;exact⟨k,m,hk,h1,h2,fun τ d' ha=>by unfold die;rw[hf,ht];dsimp only;rw[hp];dsimp only;rw[h3 τ d' ha];rfl⟩
       all_goals cases h4
      all_goals cases h4
     |halt x u=>
      cases x;case panic pv=>
       obtain⟨rfl,hU⟩:=vU h4;exact⟨k,m,hk,h1,h2,fun τ d' ha=>by unfold die;rw[hf,ht];dsimp only;rw[hp];dsimp only;rw[h3 τ d' ha];exact congrArg (PW _) (hU _)⟩
      all_goals cases h4
    ·exfalso;generalize (invoke (.fn (.method name) #[]) #[.iface t recv]).runT P w #[]=x at h hx;obtain⟨r,e0⟩:=x;dsimp only at hx;subst hx;obtain⟨e2,h4,_⟩:=ba h;cases x0<;>first
      |exact hdd.elim
      |(cases h4;done)
theorem F1{P:AI}{main:Bool}{g:If}{w w':AS}{g':If}{es:Array IT}(T:bw P)(hw:am w)(hj:(∀d,g.dying=some d→d.calling=true)→dc g.frame)(hst:g'.status= .running)(h:stepG P main g w= .go g' w' es):
 ∃k m,jQ (fun w=>stepG P main g w) w g' w' es k m:=by
 obtain⟨fr,cs,st,dy,off⟩:=g;dsimp only at hj;have h0:(∀d,dy=some d→d.calling=true)→∃k m,jQ (fun w=>stepG P main ⟨fr,cs,st,dy,off⟩ w) w g' w' es k m:=by
  intro hl;have hj:=hj hl;cases hm:fr.mode with
  |run=>
   have hU:∀u,stepG P main ⟨fr,cs,st,dy,off⟩ u=stepG.exec P main true fr cs dy u:=fun u=>by
    unfold stepG;simp only[hm];split
    ·have:=hl _ rfl;cases this
    ·rfl
    ·rename_i hn;exact(hn rfl).elim
   rw[hU]at h;obtain⟨k,m,l,a,b,c⟩:=IZ T hw hj hst h;exact⟨k,m,l,a,b,fun τ d ha=>(hU _).trans (c τ d ha)⟩
  |returning=>
   have hU:∀u,stepG P main ⟨fr,cs,st,dy,off⟩ u=unwind P main fr cs dy u:=fun u=>by
    unfold stepG;simp only[hm];split
    ·have:=hl _ rfl;cases this
    ·rename_i hn;cases hn
    ·rfl
   rw[hU]at h;obtain⟨k,m,l,a,b,c⟩:=uR T hw h hst;exact⟨k,m,l,a,b,fun τ d ha=>(hU _).trans (c τ d ha)⟩
  |panicking chain=>
   have hU:∀u,stepG P main ⟨fr,cs,st,dy,off⟩ u=unwind P main fr cs dy u:=fun u=>by
    unfold stepG;simp only[hm];split
    ·have:=hl _ rfl;cases this
    ·rename_i hn;cases hn
    ·rfl
   rw[hU]at h;obtain⟨k,m,l,a,b,c⟩:=uR T hw h hst;exact⟨k,m,l,a,b,fun τ d ha=>(hU _).trans (c τ d ha)⟩
 cases dy with
 |none=>exact h0 fun d hd=>by cases hd
 |some d=>
  cases hc:d.calling with
  |true=>exact h0 fun d' hd=>by cases hd;exact hc
  |false=>
   obtain⟨a,b,c,e,f,i,j⟩:=d;dsimp only at hc;subst hc;exact Lb (P:=P) T hw hst h
end
end Go.Proofs.YtkgohmcmmcpigaaGreatDoor
