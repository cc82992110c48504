/- A part of the proof that Folded holds; no condition. -/
import Derived.DyingOn
import Derived.Conc.CrowdComm
import Derived.Test.YtkgohmcmmcpigabGreatDoorW01
set_option linter.all false
set_option maxHeartbeats 8000000
namespace Go.Proofs.YtkgohmcmmcpigabGreatDoor
open Go
open _root_.Classical renaming choose_spec->AI,choose->Sw,byContradiction->SK
open _root_.List renaming mem_cons_self->AS,mem_cons->Sz,mem_cons_of_mem->SE,range_succ->SO,map_cons->SV,mem_append->SW,mem_singleton->T6
open Go renaming Goroutine->Su,communicate->Sx,World->Sy,Program->SF,Question->SL,Frame->SP,callDeferred->T7,Event->T8
open Go.Instr renaming enterLoop->SC,endRound->SH,takeDeferred->SU,endLoop->T5
open _root_.Option renaming map_eq_some_iff->SG,elim->SQ
open _root_.Nat renaming add_assoc->SI,le_refl->SX
open Go.Goroutine renaming canRun->SN
open Go.GStep renaming after->SR,es->Tl,comm->SD,ended->SM
open Go.Frame renaming enter->SY,round->Ta,ofRow->Tb
open Go.Sem renaming run->SZ
open Go.MemOp renaming ofEvents->T0
open _root_.Bool renaming and_eq_true->Tc
open Go.Stepped renaming next->SJ
open Go.GoStatus renaming running->Sv,sleeping->SS
open Go.Result renaming halt->T4
section
variable[aD]
def LK(b:Option Dying)(a:SP)(cs:List SP):Prop:=b.isSome=true->(cs.map (·.kind)).getLastD a.kind= .report
def JG(g:Su):Prop:=dg g.frame/\(∀c∈g.callers,dg c)/\(∀t,g.status≠SS t)/\LK g.dying g.frame g.callers
def Ol(g:Su):Prop:=(∃d,g.dying=some d/\d.calling=false)/\∀t,g.status≠SS t
def ir(a:Option Dying):GStep->Prop
 | .go g w _=>an w/\((g.dying=a/\JG g)\/Ol g)
 |SD g _ _ _ w _=>aD.cm/\an w/\g.dying=a/\g.status=Sv/\JG g
 |SM _ _ _=>True
 |_=>False
def fH{a b s}(h:ir a s):ir a (SR b s):=by
 cases s<;>first |exact h
section
variable{P:SF}{fr:SP}{callers:List SP}{dy:Option Dying}
def aq{a}(c:a.kind=fr.kind)(h:LK dy fr callers):LK dy a callers:=λb=>by rw[c];exact h b
def cZ{a}(h:LK dy fr callers):LK dy a (fr::callers):=λb=>by rw[SV,List.getLastD_cons];exact h b
def NB{c cs}(h:LK dy fr (c::cs)):LK dy c cs:=λa=>by have:=h a;rwa [SV,List.getLastD_cons]at this
def ai{c c' cs}(a:c'.kind=c.kind)(h:LK dy fr (c::cs)):LK dy c' cs:=aq a (NB h)
def Be{a cs}(c:a.kind=fr.kind)(d:cs.map (·.kind)=callers.map (·.kind))(h:LK dy fr callers):LK dy a cs:=λb=>by rw[d,c];exact h b
def ap(fr:SP)(v):(fr.finish v).kind=fr.kind:=by
 grind [Frame.finish]
def aw(fr:SP)(vs):(fr.raise vs).kind=fr.kind:=by
 grind [Frame.raise]
def jO:∀callers fr v cs,tryRecover fr callers=some (v,cs)->cs.map (·.kind)=callers.map (·.kind):=by
 intro callers;induction callers with
 |nil=>
  intro fr v cs h;simp_all[tryRecover]
 |cons x a e=>
  intro fr v cs h;unfold tryRecover at h;split at h<;>first |grind|have⟨⟨c,b⟩,d,f⟩:=SG.1 h<;>grind|cases h
def tT:∀callers l v cs,tryRecoverLoop l callers=some (v,cs)->cs.map (·.kind)=callers.map (·.kind):=by
 intro callers;induction callers with
 |nil=>intro l v cs h;cases h
 |cons x b c=>
  intro l v cs h;unfold tryRecoverLoop at h;have⟨⟨f,d⟩,a,e⟩:=SG.1 h;obtain⟨_,rfl⟩:=e;have:=by
   split at a;exact c _ _ _ a;split at a;exact jO _ _ _ _ a;grind
   grind
  rw[SV,SV,this]
def r8{todo}(h:dg fr)(b:∀c∈todo,jM c):dg {fr with todo}:=⟨b,h.2⟩
def eV(h:dg fr)(v):dg (fr.finish v):=by
 have⟨b,d⟩:=h;unfold Frame.finish;split <;>first |(rename_i f;exact⟨λc a=>(Sz.1 a).elim (λe=>e▸by have j:=b _ (by rw[f];exact AS ..);exactλi a o g=>j i (SE _ a) o g) λa=>b c (by grind),d⟩)|exact⟨λc a=>(Sz.1 a).elim λe=>e▸by first |trivial λa=>b c (by grind),d⟩|exact⟨λc a=>b c (by grind),d⟩|(rename_i f;exact(b (.call ..) (by rw[f];exact AS ..)).elim)|exact⟨b,d⟩
def gZ(h:dg fr)(vs):dg (fr.raise vs):=by
 unfold Frame.raise;split <;>exact h
def Ko(T:bz P)(f:FuncId):cT ((P.funcs[f]?.bind (·.body)).getD (.refuse "unsupported: a function without a Go body is entered"))=true:=by
 cases d:P.funcs[f]? with
 |none=>rfl
 |some b=>
  cases a:b.body with
  |none=>simp[a,cT]
  |some c=>simpa[a]using T.nogo f b c d a
def mi(T:bz P)(f args k):dg (SY P f args k):=
 ⟨λc a=>by simp[SY]at a;subst a;exact Ko T f,λd b=>by simp[SY]at b⟩
def yC(l f tmps a b k)(h:cT a=true)(g:cT b=true):dg (Ta l f tmps a b k):=
 ⟨λi c=>by simp[Ta]at c;rcases c with rfl|rfl|rfl<;>first |trivial,λd e=>by simp[Ta]at e⟩
def DL(args k):dg (Tb P printRow args k):=
 ⟨λc a=>by simp[Tb]at a;subst a;rfl,λd b=>by simp[Tb]at b⟩
def lW:∀callers fr v cs,(∀c∈callers,dg c)->tryRecover fr callers=some (v,cs)->∀c∈cs,dg c:=by
 intro callers;induction callers with
 |nil=>
  intro fr v cs e h;simp_all[tryRecover]
 |cons x d j=>
  intro fr v cs e h;unfold tryRecover at h;split at h;rename_i b;cases b;split at h;obtain⟨_,rfl⟩:=h;intro c a;rcases Sz.1 a with rfl|a
  exact e x (AS ..);grind
  cases h;have⟨⟨i,f⟩,g,k⟩:=SG.1 h<;>grind;cases h
def wq:∀callers l v cs,(∀c∈callers,dg c)->tryRecoverLoop l callers=some (v,cs)->∀c∈cs,dg c:=by
 intro callers;induction callers with
 |nil=>intro l v cs f h;cases h
 |cons x a j=>
  intro l v cs f h;unfold tryRecoverLoop at h;have⟨⟨k,e⟩,b,g⟩:=SG.1 h;simp only[Prod.mk.injEq]at g;have⟨_,rfl⟩:=g;have i:∀c∈a,dg c:=λc d=>f c (SE _ d)
  have:∀c∈e,dg c:=by
   split at b;exact j _ _ _ i b;split at b;exact lW _ _ _ _ i b;grind
   grind
  grind
def Fi{w}(h:an w)(a d):an (ah w a d):=h
def gE{c}[Decidable c]{A B}(d:ir dy A)(b:ir dy B):ir dy (if c then A else B):=by
 by_cases a:c;rw[if_pos a];omega;grind
def rm(fr a m b){w}(c:an w):ir dy (dieOf fr a m b w):=⟨c,.inr ⟨⟨_,rfl,rfl⟩,nofun⟩⟩
def nZ{a}{s:Sem a}(hs:St P s){w}(b:an w):an (dh (s.run P w)):=by
 rw[<- Sem.runT_fst P s w #[]];exact cf hs.st w #[] b
def ux{m w}(i:an w):ir dy (endFatal P fr callers dy m w):=by
 have H:∀(b:Sem (List (ByteArray×String)×List ByteArray)),St P b->ir dy (match b.run P w with
  | .ok (e,f) w=>dieOf fr (panicPieces e++f) m true w
  |T4 (.unsupported u) w=>SM (.unsupported u "") w
  |T4 _ w=>SM (.stuck "the report of a panic" "") w):=by
  intro s h;have:=nZ h i;generalize s.run P w=r at this ⊢;cases r with
  |ok a v=>exact rm _ _ _ _ this
  |halt x v=>cases x<;>trivial
 have d:∀g:List (Value×String),St P (g.mapM λ(v,c)=>match panicText P true v with
  | .text s=>pure (s,c)
  | .address s=>do pure (<- withAddress s,c)
  |_=>unsupported (.noEntry "a fatal error during a panic whose value the report cannot show")):=by
  intro g;refine @pL _ _ _ _ _ _ _ (λx=> ?_) _;dsimp only;split <;>exact zq2
 refine H _ ?_;split <;>first |exact zq2|exact @aX _ _ _ _ _ _ _ _ zq2 λ_=> @aX _ _ _ _ _ _ _ _ (d _) λ_=>zq2|exact @aX _ _ _ _ _ _ _ _ (d _) λ_=>zq2
def oG{s w}(T:bz P)(hs:St P s)(L:Leaf P uC s)(B:an w)(k:dg fr)(j:∀c∈callers,dg c)(h:LK dy fr callers):ir dy (stepG.apply P true fr callers dy s w):=by
 unfold stepG.apply;simp only[if_true];have i:=cf hs.st w #[] B;have D:=rh hs.st L w #[] B;have F:=pQ hs.st w #[] B;generalize s.runT P w #[]=x at i D F ⊢;have⟨r,N⟩:=x;have q:∀c∈fr::callers,dg c:=λc A=>(Sz.1 A).elim (λe=>e▸k) (j c)
 cases r with
 |ok n v=>
  have t:=D n v N rfl;clear D;cases n;all_goals dsimp only
  all_goals refine fH ?_
  case value u=>exact⟨i,.inl ⟨rfl,eV k _,j,nofun,by first |exact h|exact aq (ap ..) h|exact aq (aw ..) h|exact cZ h|exact ai (ap ..) h|exact ai (aw ..) h|exact ai rfl h|exact aq rfl h⟩⟩
  case skip=>exact⟨i,.inl ⟨rfl,eV k _,j,nofun,by first |exact h|exact aq (ap ..) h|exact aq (aw ..) h|exact cZ h|exact ai (ap ..) h|exact ai (aw ..) h|exact ai rfl h|exact aq rfl h⟩⟩
  case enter f I=>exact⟨i,.inl ⟨rfl,mi T ..,q,nofun,by first |exact h|exact aq (ap ..) h|exact aq (aw ..) h|exact cZ h|exact ai (ap ..) h|exact ai (aw ..) h|exact ai rfl h|exact aq rfl h⟩⟩
  case round l f K z H=>exact⟨i,.inl ⟨rfl,yC _ _ _ _ _ _ t.1 t.2,q,nofun,by first |exact h|exact aq (ap ..) h|exact aq (aw ..) h|exact cZ h|exact ai (ap ..) h|exact ai (aw ..) h|exact ai rfl h|exact aq rfl h⟩⟩
  case defer d=>
   have C:dg {fr with defers:=d::fr.defers}:=⟨k.1,λx p=>by
    rcases Sz.1 p with rfl|p<;>first |exact t|exact k.2 x p⟩
   exact⟨i,.inl ⟨rfl,eV C _,j,nofun,by first |exact h|exact aq (ap ..) h|exact aq (aw ..) h|exact cZ h|exact ai (ap ..) h|exact ai (aw ..) h|exact ai rfl h|exact aq rfl h⟩⟩
  case recover=>
   split;rename_i Q y p;have E:(∀c∈y,dg c)/\y.map (·.kind)=callers.map (·.kind):=by
    split at p;split at p<;>first |exact⟨lW _ _ _ _ j p,jO _ _ _ _ p⟩|exact⟨wq _ _ _ _ j p,tT _ _ _ _ p⟩
    exact⟨lW _ _ _ _ j p,jO _ _ _ _ p⟩
   exact⟨i,.inl ⟨rfl,eV k _,E.1,nofun,Be (ap ..) E.2 h⟩⟩;exact⟨i,.inl ⟨rfl,eV k _,j,nofun,by first |exact h|exact aq (ap ..) h|exact aq (aw ..) h|exact cZ h|exact ai (ap ..) h|exact ai (aw ..) h|exact ai rfl h|exact aq rfl h⟩⟩
  case comm a b c=>exact⟨t,i,rfl,rfl,k,j,nofun,h⟩
  case row r a=>
   cases t;split <;>first |exact⟨i,.inl ⟨rfl,r8 k λM G=>(Sz.1 G).elim (λe=>e▸rfl) λG=>k.1 M (by grind),j,nofun,by first |exact h|exact aq (ap ..) h|exact aq (aw ..) h|exact cZ h|exact ai (ap ..) h|exact ai (aw ..) h|exact ai rfl h|exact aq rfl h⟩⟩|exact⟨i,.inl ⟨rfl,DL ..,q,nofun,by first |exact h|exact aq (ap ..) h|exact aq (aw ..) h|exact cZ h|exact ai (ap ..) h|exact ai (aw ..) h|exact ai rfl h|exact aq rfl h⟩⟩
  all_goals exact t.elim
 |halt x v=>
  cases x;case unsupported u=>
   refine fH ?_;cases u;case initOrder g=>dsimp only;rw[oy T.todY (F _ _ _ rfl)];trivial
   all_goals trivial
  all_goals refine fH ?_
  case panic v=>exact⟨i,.inl ⟨rfl,gZ k _,j,nofun,by first |exact h|exact aq (ap ..) h|exact aq (aw ..) h|exact cZ h|exact ai (ap ..) h|exact ai (aw ..) h|exact ai rfl h|exact aq rfl h⟩⟩
  case goexit=>exact⟨i,.inl ⟨rfl,gZ k _,j,nofun,by first |exact h|exact aq (ap ..) h|exact aq (aw ..) h|exact cZ h|exact ai (ap ..) h|exact ai (aw ..) h|exact ai rfl h|exact aq rfl h⟩⟩
  case blocked=>exact⟨i,.inl ⟨rfl,k,j,nofun,by first |exact h|exact aq (ap ..) h|exact aq (aw ..) h|exact cZ h|exact ai (ap ..) h|exact ai (aw ..) h|exact ai rfl h|exact aq rfl h⟩⟩
  case waiting=>exact⟨i,.inl ⟨rfl,k,j,nofun,by first |exact h|exact aq (ap ..) h|exact aq (aw ..) h|exact cZ h|exact ai (ap ..) h|exact ai (aw ..) h|exact ai rfl h|exact aq rfl h⟩⟩
  case fatal m=>exact ux i
  case throw m=>exact rm _ _ _ _ i
  all_goals trivial
def xa{d w}(T:bz P)(u:oK d)(y:an w)(h:dg fr)(i:∀c∈callers,dg c)(b:LK dy fr callers):ir dy (T7 P fr callers dy d w):=by
 refine gE trivial ?_;have g:=cf (eH T.todY d.target d.args).st w #[] y;have C:=rh (eH T.todY d.target d.args).st (pY T u d.args) w #[] y;generalize (invoke d.target d.args).runT P w #[]=x at g C ⊢;have⟨r,D⟩:=x;have j:∀c∈fr::callers,dg c:=λc t=>(Sz.1 t).elim (λe=>e▸h) (i c)
 have p:dg {fr with defers:=d::fr.defers}:=⟨h.1,λx k=>by
  rcases Sz.1 k with rfl|k
  exact u;exact h.2 x k⟩
 cases r with
 |ok n v=>
  have s:=C n v D rfl;cases n;all_goals dsimp only
  case enter f A=>exact⟨g,.inl ⟨rfl,mi T ..,j,nofun,by first |exact b|exact aq (ap ..) b|exact aq (aw ..) b|exact cZ b|exact ai (ap ..) b|exact ai (aw ..) b|exact ai rfl b|exact aq rfl b⟩⟩
  case round l f B q z=>exact⟨g,.inl ⟨rfl,yC _ _ _ _ _ _ s.1 s.2,j,nofun,by first |exact b|exact aq (ap ..) b|exact aq (aw ..) b|exact cZ b|exact ai (ap ..) b|exact ai (aw ..) b|exact ai rfl b|exact aq rfl b⟩⟩
  case recover=>
   split <;>first |(rename_i k;exact⟨g,.inl ⟨rfl,h,lW _ _ _ _ i k,nofun,Be rfl (jO _ _ _ _ k) b⟩⟩)|exact⟨g,.inl ⟨rfl,h,i,nofun,by first |exact b|exact aq (ap ..) b|exact aq (aw ..) b|exact cZ b|exact ai (ap ..) b|exact ai (aw ..) b|exact ai rfl b|exact aq rfl b⟩⟩
  case row r a=>
   cases s;exact⟨g,.inl ⟨rfl,DL ..,j,nofun,by first |exact b|exact aq (ap ..) b|exact aq (aw ..) b|exact cZ b|exact ai (ap ..) b|exact ai (aw ..) b|exact ai rfl b|exact aq rfl b⟩⟩
  all_goals first
   |exact s.elim
   |exact⟨g,.inl ⟨rfl,h,i,nofun,by first |exact b|exact aq (ap ..) b|exact aq (aw ..) b|exact cZ b|exact ai (ap ..) b|exact ai (aw ..) b|exact ai rfl b|exact aq rfl b⟩⟩
 |halt x v=>
  cases x;all_goals refine fH ?_
  case panic v=>exact⟨g,.inl ⟨rfl,gZ h _,i,nofun,by first |exact b|exact aq (ap ..) b|exact aq (aw ..) b|exact cZ b|exact ai (ap ..) b|exact ai (aw ..) b|exact ai rfl b|exact aq rfl b⟩⟩
  case goexit=>exact⟨g,.inl ⟨rfl,gZ h _,i,nofun,by first |exact b|exact aq (ap ..) b|exact aq (aw ..) b|exact cZ b|exact ai (ap ..) b|exact ai (aw ..) b|exact ai rfl b|exact aq rfl b⟩⟩
  case blocked=>exact⟨g,.inl ⟨rfl,p,i,nofun,by first |exact b|exact aq (ap ..) b⟩⟩
  case waiting=>exact⟨g,.inl ⟨rfl,p,i,nofun,by first |exact b⟩⟩
  case fatal m=>exact ux g
  case throw m=>exact rm _ _ _ _ g
  all_goals trivial
end
section
variable{P:SF}{main:Bool}{fr:SP}{callers:List SP}{dy:Option Dying}
def q7{v w}(T:bz P)(b:an w)(j:dg fr)(g:∀c∈callers,dg c)(a:LK dy fr callers):ir dy (doReturn P main fr callers dy v w):=by
 unfold doReturn;cases callers with
 |cons c m=>
  have e:=g c (AS ..);have f:=λx i=>g x (SE _ i)
  dsimp only;split;exact⟨b,.inl ⟨rfl,eV e _,f,nofun,ai (ap ..) a⟩⟩;exact⟨b,.inl ⟨rfl,eV e _,f,nofun,ai (ap ..) a⟩⟩;exact⟨b,.inl ⟨rfl,e,f,nofun,ai rfl a⟩⟩;refine⟨b,.inl ⟨rfl,?_,f,nofun,?_⟩⟩;split;split <;>exact e;omega;refine ai ?_ a;grind
 |nil=>
  cases dy with
  |some d=>
   have h:fr.kind= .report:=a rfl;rw[h];cases v<;>first
    |trivial
    |exact⟨b,.inr ⟨⟨_,rfl,rfl⟩,nofun⟩⟩
  |none=>
   have l:ir none (if(!main)=true then .go {frame:=fr,callers:=[],status:= .finished,dying:=none} w
    else match P.inits.idxOf? fr.fn with|some k=>.go {frame:=SY P (P.initFrom (k+1)) #[] .normal,callers:=[],status:=Sv,dying:=none} w|none=>SM (.done v) w):=by
    refine gE ⟨b,.inl ⟨rfl,j,nofun,nofun,nofun⟩⟩ ?_;split <;>first |exact⟨b,.inl ⟨rfl,mi T ..,nofun,nofun,nofun⟩⟩|trivial
   cases fr.kind<;>first
    |trivial
def vD{b w v ds es}(e:an w)(h:(SU b).runT P w #[]=(.ok ds v,es)):∀d∈ds,oK d:=by
 simp only[SU,getObj,setObj,bind,Sem.bind,Sem.runT]at h;cases a:w.heap[b]? with
 |none=>grind
 |some o=>
  have c:=e b o a;simp only[a]at h;cases o;case deferred l=>
   cases l with
   |none=>cases h
   |some l=>
    simp[Sem.runT,a]at h;have⟨⟨rfl,_⟩,_⟩:=h;exact c.i.ds
  all_goals cases h
def Ga{w}(T:bz P)(i:an w)(k:dg fr)(m:∀c∈callers,dg c)(e:LK dy fr callers):ir dy (unwind P main fr callers dy w):=by
 unfold unwind;cases z:fr.defers with
 |cons d q=>
  have p:dg {fr with defers:=q}:=⟨k.1,λx j=>k.2 x (by rw[z];grind)⟩;have s:oK d:=k.2 d (by rw[z];simp);have⟨B,F⟩:=d;cases B with
  |collected f=>
   dsimp only;have n:=cf (ql P f).st w #[] i;have t:=λq v A h=>vD (P:=P) (b:=f) (w:=w) (v:=v) (ds:=q) (es:=A) i h
   generalize (SU f).runT P w #[]=x at n t ⊢;have⟨r,u⟩:=x;dsimp only;refine fH ?_;cases r with
   |ok l v=>
    refine⟨n,.inl ⟨rfl,⟨k.1,λx j=> ?_⟩,m,nofun,aq rfl e⟩⟩;rcases SW.1 j with j|j<;>first |exact(t l v u rfl) x j|exact p.2 x j
   |halt x v=>trivial
  |_=>exact xa T s i p m (aq rfl e)
 |nil=>
  dsimp only;cases D:fr.mode with
  |run=>trivial
  |panicking g=>
   refine gE trivial ?_;cases callers with
   |cons c E=>exact⟨i,.inl ⟨rfl,gZ (m c (AS ..)) _,λx j=>m x (SE _ j),nofun,by first |exact e|exact aq (ap ..) e|exact aq (aw ..) e|exact cZ e|exact ai (ap ..) e|exact ai (aw ..) e|exact ai rfl e|exact aq rfl e⟩⟩
   |nil=>
    cases dy with
    |none=>
     refine gE ⟨i,.inl ⟨rfl,k,nofun,nofun,nofun⟩⟩ ?_;have:=nZ (xz (P:=P) g false) i;generalize (reportChain g false).run P w=r at this ⊢;cases r with
     |ok a v=>exact⟨this,.inr ⟨⟨_,rfl,rfl⟩,nofun⟩⟩
     |halt x v=>cases x<;>trivial
    |some d=>
     dsimp only;split <;>first |(unfold endPrinting;dsimp only;split <;>first |exact rm _ _ _ _ i|trivial)|trivial
  |returning=>
   cases C:P.funcs[fr.fn]? with
   |none=>exact q7 T i k m e
   |some y=>
    dsimp only;have n:=cf (Ey P y fr.tmps).st w #[] i;generalize (results y fr.tmps).runT P w #[]=x at n ⊢;have⟨r,u⟩:=x;refine fH ?_;cases r with
    |ok l v=>exact q7 T n k m e
    |halt x v=>cases x<;>trivial
def Ef{rest b}(a:dg fr)(d:fr.todo=b::rest):∀x∈rest,jM x:=λx c=>a.1 x (by grind)
def dK{a l}(h:jM a)(c:∀x∈l,jM x):∀x∈a::l,jM x:=λx b=>(Sz.1 b).elim (λe=>e▸h) (c x)
def Ie{a}:∀{k l},(∀x∈k,jM x)->exitTo a k=some l->∀x∈l,jM x:=by
 intro k;induction k with
 |nil=>intro l _ h;cases h
 |cons c k d=>
  intro l b h;unfold exitTo at h;grind
def Bw:∀b l c,cT b=true->findLabel b l=some c->cT c=true:=by
 intro b;induction b<;>intro l c h d<;>first
  |(simp[findLabel]at d;done)
  |skip
 case seq a b f e=>
  simp[cT]at h;simp[findLabel]at d;cases g:findLabel a l with
  |some r=>
   rw[g]at d;cases d;simp[cT];grind
  |none=>
   grind
 case label i=>
  simp only[findLabel]at d;split at d;cases d;rfl;grind
def HQ{g}:∀{k l},(∀x∈k,jM x)->gotoIn g k=some l->∀x∈l,jM x:=by
 intro k;induction k with
 |nil=>intro l _ h;cases h
 |cons i k j=>
  intro l d h;unfold gotoIn at h;split at h;rename_i e;simp[List.cons.injEq]at e;have⟨c,rfl⟩:=e;split at h;rename_i a;have b:=d _ (AS ..);rw[c]at b;cases h;exact dK (Bw _ _ _ b a) (dK b λx f=>d x (SE _ f));grind
  grind
  cases h
def rf{w}(T:bz P)(h:an w)(g:dg fr)(f:∀c∈callers,dg c)(b:LK dy fr callers)(l a)(d:∀c,a=some c->cT c=true):ir dy (SR (seen P fr.fn ((SH l a).runT P w #[]).2) (match((SH l a).runT P w #[]).1 with
 | .ok v w=>doReturn P main fr callers dy v w
 |T4 _ w=>SM (.stuck "range over a function: no such loop" (fr.pos P)) w)):=by
 have e:=cf (jx P l a d).st w #[] h;generalize (SH l a).runT P w #[]=x at e ⊢;have⟨r,i⟩:=x;refine fH ?_;cases r with
 |ok l v=>exact q7 T e g f b
 |halt x v=>trivial
def Me{o}(d:dg fr)(b:fr.oper?=some o):Lf o.op=true:=by
 unfold Frame.oper? at b;split at b;rename_i a i r k c;exact(d.1 (.inRegion a (i::r)) (by simp[c])) i (AS ..) o b;grind
def Md{w}(T:bz P)(e:an w)(b:dg fr)(d:∀c∈callers,dg c)(a:LK dy fr callers):ir dy (stepG.oper P true fr callers dy w):=by
 unfold stepG.oper;split;trivial;rename_i o f;split;exact oG T (ga ..) (eW (iY ..) λ_ _=>bX λ_=>trivial) e b d a;exact oG T (gY T.todY ..) (De T _ _ (Me b f)) e b d a
def BC(l):Leaf P (λj=>∀c,j=some c->cT c=true) (T5 l):=by
 refine eW (sR l) λr a=> ?_
 split;exact eW (Q:=λ_=>True) (mV _) λ_ _=>bX λ_=>a.2.2
 exact bX λ_=>a.2.2
def Mw{w}(T:bz P)(C:an w)(z:dg fr)(y:∀c∈callers,dg c)(e:LK dy fr callers):ir dy (stepG.exec P main true fr callers dy w):=by
 have I:∀(todo:List Item)(ro:Option Nat),(∀x∈todo,jM x)->ir dy (.go {frame:= {fn:=fr.fn,tmps:=fr.tmps,todo,defers:=fr.defers,mode:= .returning,kind:=fr.kind,roundOf:=ro},callers,status:=Sv,dying:=dy} w):=λtodo ro h=>⟨C,.inl ⟨rfl,⟨h,z.2⟩,y,nofun,aq rfl e⟩⟩
 have p:∀todo:List Item,(∀x∈todo,jM x)->ir dy (.go {frame:= {fr with todo},callers,status:=Sv,dying:=dy} w):=λtodo h=>⟨C,.inl ⟨rfl,r8 z h,y,nofun,aq rfl e⟩⟩
 unfold stepG.exec;dsimp only;cases W:fr.todo with
 |nil=>
  dsimp only;cases K:fr.roundOf with
  |none=>exact gE (I _ _ λx E=>by cases E) trivial
  |some l=>exact rf T C z y e _ _ (by simp)
 |cons it G=>
  have B:=Ef z W;have g:∀x∈it::G,jM x:=by rw[<- W];exact z.1
  cases it with
  |code c=>
   cases c with
   |ret=>
    dsimp only;cases K:fr.roundOf with
    |none=>exact gE (I _ _ g) trivial
    |some l=>exact rf T C z y e _ _ (by rintro c y;cases y;rfl)
   |skip=>exact p _ B
   |label l=>exact p _ B
   |seq a b=>
    have u:=g _ (AS ..);simp only[jM,cT,Tc]at u;exact p _ (dK u.1 (dK u.2 B))
   |block F q=>exact p _ (dK (by have u:=g _ (AS ..);exact u) (dK trivial B))
   |loop q=>exact p _ (dK (by have u:=g _ (AS ..);exact u) (dK (by have u:=g _ (AS ..);exact u) B))
   |scope q=>exact p _ (dK (by have u:=g _ (AS ..);exact u) (dK (by have u:=g _ (AS ..);exact u) B))
   |refuse why=>trivial
   |cond c a b=>
    have u:=g _ (AS ..);simp only[jM,cT,Tc]at u;dsimp only;split <;>first |exact p _ (dK (by split <;>first |exact u.1|exact u.2) B)|trivial
   |exit F=>
    dsimp only;cases X:exitTo F G with
    |some k=>exact p _ (Ie B X)
    |none=>
     dsimp only[SQ];cases K:fr.roundOf with
     |none=>exact gE (I _ _ g) trivial
     |some l=>exact rf T C z y e _ _ (by rintro c y;cases y;rfl)
   |goto F=>
    dsimp only;cases X:gotoIn F G with
    |some k=>exact p _ (HQ B X)
    |none=>
     dsimp only[SQ];cases K:fr.roundOf with
     |none=>exact gE (I _ _ g) trivial
     |some l=>exact rf T C z y e _ _ (by rintro c y;cases y;rfl)
   |rangeFunc f n m q=>
    dsimp only;have H:cT m=true/\cT q=true:=by
     simpa[jM,cT]using g _ (AS ..)
    have L:=cf (cP P fr.fn fr.tmps n m q fr.roundOf H.1 H.2).st w #[] C;have hM:∀l A v es,(SC fr.fn fr.tmps n m q fr.roundOf).runT P w #[]=(.ok (l,A) v,es)->∀d∈A,oK d:=by
     intro l A v es h;have hl:Leaf P (λx:Nat×List Deferred=>∀d∈x.2,oK d) (SC fr.fn fr.tmps n m q fr.roundOf):=by
      unfold SC;cases fr.roundOf with
      |some l=>
       dsimp only;exact bX λr=>eW (Q:=λx:Nat×List Deferred=>∀d∈x.2,oK d) (λd D=>by cases D) λx E=>bX λ_=>E
      |none=>
       dsimp only;exact bX λr=>eW (Q:=λx:Nat×List Deferred=>∀d∈x.2,oK d) λd D=>by simp only[T6]at D;subst D;trivial λx E=>bX λ_=>E
     exact rh (cP P fr.fn fr.tmps n m q fr.roundOf H.1 H.2).st hl _ _ C _ _ _ h
    generalize (SC fr.fn fr.tmps n m q fr.roundOf).runT P w #[]=x at L hM ⊢;have⟨r,e0⟩:=x;refine fH ?_;cases r with
    |halt x v=>trivial
    |ok a v=>
     have⟨l,A⟩:=a;refine oG T (@aX _ _ _ _ _ _ _ _ zq2 λd=>eH T.todY ..) (eW (iY ..) λd D=>pY T D _) L ⟨dK trivial B,λd D=> ?_⟩ y (aq rfl e);rcases SW.1 D with D|D<;>first |exact(hM l A v e0 rfl) d D|exact z.2 d D
   |region F Z draw=>
    dsimp only;have u:=ws (g _ (AS ..));refine gE (p _ (dK (u _) B)) ?_;have N:an (dh ((choose (.order fr.fn F)).run P w)):=by
     simp only[choose,SZ,Question.forced];exact C
    generalize (choose (.order fr.fn F)).run P w=r at N ⊢;cases r with
    |ok t v=>exact⟨N,.inl ⟨rfl,r8 z (dK (u _) B),y,nofun,by first |exact e|exact aq (ap ..) e|exact aq (aw ..) e|exact cZ e|exact ai (ap ..) e|exact ai (aw ..) e|exact ai rfl e|exact aq rfl e⟩⟩
    |halt x v=>trivial
  |inBlock F=>exact p _ B
  |inScope F=>exact p _ B
  |inLoop F=>exact p _ (dK (by have u:=g _ (AS ..);exact u) (dK (by have u:=g _ (AS ..);omega) B))
  |inRangeFunc F=>trivial
  |beginRound=>
   exact oG T (@aX _ _ _ _ _ _ _ _ (by cases fr.roundOf with |none=>exact qN P _|some l=>exact dR P l) λ_=>zq2) (bX λ_=>trivial) C z y e
  |call d a b c=>exact(z.1 (.call d a b c) (by rw[W];simp)).elim
  |extern R M=>
   have S:R=printRow:=z.1 (.extern R M) (by rw[W];simp);subst S;dsimp only;rw[nk];exact oG T (lj P ..) (wj ..) C z y e
  |endRangeFunc l=>
   dsimp only;have L:=cf (nW P l).st w #[] C;have hJ:=rh (nW P l).st (BC (P:=P) l) w #[] C;generalize (T5 l).runT P w #[]=x at L hJ ⊢;have⟨r,e0⟩:=x;refine fH ?_;cases r with
   |ok j v=>
    refine⟨L,.inl ⟨rfl,r8 z λx E=> ?_,y,nofun,by first |exact e|exact aq (ap ..) e|exact aq (aw ..) e|exact cZ e|exact ai (ap ..) e|exact ai (aw ..) e|exact ai rfl e|exact aq rfl e⟩⟩;rcases SW.1 E with E|E
    cases j with
    |none=>cases E
    |some j=>simp only[Option.map_some,Option.toList_some,T6]at E;subst E;exact hJ _ _ _ rfl _ rfl
    grind
   |halt x v=>
    cases x<;>first
     |trivial
     |exact⟨L,.inl ⟨rfl,gZ z _,y,nofun,by first |exact e|exact aq (ap ..) e|exact aq (aw ..) e|exact cZ e|exact ai (ap ..) e|exact ai (aw ..) e|exact ai rfl e|exact aq rfl e⟩⟩
  |inRegion Z todo=>
   cases todo with
   |nil=>exact p _ B
   |cons i is=>
    exact gE (Md T C z y e) ⟨C,.inl ⟨rfl,eV z _,y,nofun,by first |exact e|exact aq (ap ..) e|exact aq (aw ..) e|exact cZ e|exact ai (ap ..) e|exact ai (aw ..) e|exact ai rfl e|exact aq rfl e⟩⟩
def A8{g w}(T:bz P)(c:an w)(f:JG g)(i:∀d,g.dying=some d->d.calling=true):ir g.dying (stepG P main g w):=by
 have⟨fr,j,l,dy,h⟩:=g;have⟨b,e,k,a⟩:=f;simp[stepG];split;cases i _ rfl;exact Mw T c b e a;exact Ga T c b e a
def Dz(g:Su):Prop:=Ol g\/(JG g/\∃d,g.dying=some d/\d.calling=true)
def ld:GStep->Prop
 | .go g w _=>an w/\Dz g
 |SD g _ _ _ w _=>an w/\g.dying.isSome=true
 |SM _ _ _=>True
 |_=>False
def BG{a s}(h:ld s):ld (SR a s):=by
 cases s<;>first |exact h
def FF(fr a m b){w}(c:an w):ld (dieOf fr a m b w):=⟨c,.inl ⟨⟨_,rfl,rfl⟩,nofun⟩⟩
def BB{w}(b:an w)(a t o):ld (endWith w a t o):=by
 simp[endWith];split <;>first |split <;>trivial|trivial
def vd{v w}(a:an w):ld (endPrinting P fr v w):=by
 simp[endPrinting];split;exact FF _ _ _ _ a;trivial
def zH{d}(h:d.calling=false)(f){w}(k:an w):ld (writeOn P fr d f w):=by
 unfold writeOn;split;trivial;rename_i e c _;have H:∀s:Sem Unit,St P s->ld (match s.runT P w #[]with
  |(.ok _ w,j)=>.go {frame:=fr,callers:=[],status:=Sv,dying:=some {d with fatal:=some {f with pieces:=c,begun:=true}}} w j
  |(T4 .blocked w,_)=>.go {frame:=fr,callers:=[],status:= .blocked,dying:=some {d with fatal:=some f}} w #[]
  |(T4 (.unsupported u) w,_)=>SM (.unsupported u "") w
  |(T4 _ w,_)=>SM (.stuck "the report of a fatal error" "") w):=by
  intro s i;have:=cf i.st w #[] k;generalize s.runT P w #[]=x at this ⊢;have⟨r,l⟩:=x;cases r with
  |ok a v=>exact⟨this,.inl ⟨⟨_,rfl,h⟩,nofun⟩⟩
  |halt x v=>
   cases x<;>first
    |trivial
    |exact⟨this,.inl ⟨⟨_,rfl,h⟩,nofun⟩⟩
 refine H _ ?_;have g:∀b:ByteArray,St P (do
  match<- sys (.write 2 b)with
  | .int n=>if n !=b.size then unsupported (.noEntry "a report that its descriptor cannot take whole")
  | .err _=>pure ()
  |_=>unsupported (.noEntry "a report that its descriptor cannot take whole"):Sem Unit):=by
  intro b;refine⟨⟨⟨_,rfl,trivial⟩,λv=> ?_⟩⟩;cases v<;>first
   |trivial
   |(
    show l6 P (if _ then _ else _);split <;>trivial)
 repeat' (first
  |exact zq2
  |(refine @aX _ _ _ _ _ _ _ _ ?_ λ_=> ?_)
  |(refine @vI _ _ _ _ _ _ _ _ _ ?_ ?_))
def Kv{d}(T:bz P)(f:d.calling=false){w}(e:an w):ld (die P fr d w):=by
 unfold die;split;exact zH f _ e;split;split <;>first |exact⟨e,.inl ⟨⟨_,rfl,f⟩,nofun⟩⟩|exact BB e ..
 split;exact⟨e,.inl ⟨⟨_,rfl,f⟩,nofun⟩⟩;rename_i s _;have:=nZ (xy (P:=P) s) e;generalize (withAddress s).run P w=r at this ⊢;cases r with
 |ok a u=>exact⟨this,.inl ⟨⟨_,rfl,f⟩,nofun⟩⟩
 |halt x u=>trivial
 rename_i t b c _;have g:=cf (eH T.todY (.fn (.method c) #[]) #[.iface t b]).st w #[] e;generalize (invoke (.fn (.method c) #[]) #[.iface t b]).runT P w #[]=x at g ⊢;have⟨r,h⟩:=x;refine BG ?_;split <;>first |exact⟨g,.inr ⟨⟨mi T ..,nofun,nofun,λ_=>rfl⟩,_,rfl,rfl⟩⟩|exact⟨g,.inl ⟨⟨_,rfl,f⟩,nofun⟩⟩|trivial|exact vd g
 trivial
def Ew{g w}(T:bz P)(p:an w)(s:Dz g):ld (stepG P main g w):=by
 rcases s with⟨⟨d,m,n⟩,l⟩|⟨t,d,m,n⟩
 have⟨fr,y,z,dy,v⟩:=g;subst m;have⟨a,b,c,e,f,i,j⟩:=d;subst n;exact Kv (P:=P) T rfl p;have:=A8 (main:=main) T p t λA h=>by grind
 revert this;rw[m];cases stepG P main g w with
 |go u r q=>
  rintro⟨k,⟨l,x⟩|l⟩<;>first |exact⟨k,.inr ⟨x,d,l,n⟩⟩|exact⟨k,.inl l⟩
 |comm u a b c r q=>rintro⟨_,k,l,_,_⟩;exact⟨k,by simp[l]⟩
 |_=>exactλh=>h
end
end
section
open Go.Conc
variable[aD]
def dV:Rest:= {timers:=#[],alone:=none,slice:=none}
def cE(P h k v):finishPartner P #[ph] h k v=#[ph]:=by
 unfold finishPartner;apply Array.ext_getElem?;intro i;rw[Array.getElem?_modify];split;cases a: #[ph][i]? with
 |none=>rfl
 |some x=>
  have:x=ph:=by
   grind
  subst this;rfl
 rfl
def cV(r b):partners #[ph] r b=[]:=partners_nil λj g a=>by
 cases j with
 |zero=>simp at a;subst a;rfl
 |succ j=>simp at a
def Hx{g}(h:JG g)(v):JG {g with frame:=g.frame.finish v,status:=Sv,offers:=none}:=
 ⟨eV h.1 v,h.2.1,nofun,aq (ap ..) h.2.2.2⟩
def K4{g}(h:JG g)(vs)(hs:g.status=Sv):JG {g with frame:=g.frame.raise vs}:=
 ⟨gZ h.1 vs,h.2.1,h.2.2.1,aq (aw ..) h.2.2.2⟩
def IV(g:Su)(w:Sy)(s:Stepped):Prop:=
 match s with
 |SJ m=>∃a b,m=oneG a b/\a.dying=g.dying/\(a.status=Sv\/a.status= .blocked)/\(JG g->JG a)/\(an w->an b)
 | .ended _ _=>True
def BL{P g}(m:g.status=Sv)(b d f w):IV g w (Sx P dV #[ph] 0 g b d f w).1:=by
 have a:∀(l s:Sy)(v:Value),(an w->an s)->IV g w (SJ {world:=s,gs:=(#[ph]:Array Su).setIfInBounds 0 {g with frame:=g.frame.finish v,status:=Sv,offers:=none},rest:=dV}):=
  λl s v h=>⟨_,s,rfl,rfl,.inl rfl,λi=>Hx i v,h⟩
 unfold Sx;dsimp only;split;trivial;split;split;split;rename_i l n;have:l=w:=by
  unfold waitingAt at n;have y:timerAhead dV w.os.mono b=false:=timerAhead_crowd #[] w none w.os.mono b;rw[y]at n;grind
 subst this;exact⟨_,_,rfl,rfl,.inr rfl,λi=>⟨i.1,i.2.1,nofun,i.2.2.2⟩,id⟩;trivial;exact a w _ _ id;split;trivial;rename_i k c x l t;have j:an w->an l:=λe=>by
  have q:=congrArg (λr=>an (dh r)) t;dsimp only[dh]at q;rw[<- q];refine nZ (P:=P) ?_ e;repeat' (first
   |exact zq2
   |(refine @aX _ _ _ _ _ _ _ _ ?_ λ_=> ?_)
   |split
   |dsimp only)
 split;split;rename_i p;have u:an w->an _:=λe=>by
  have q:an (dh (SZ P (runtimePanic (.plain "send on closed channel"):Sem Unit) l)):=nZ (P:=P) zq2 (j e);rw[p]at q;exact q
 exact⟨_,_,rfl,rfl,.inl m,λi=>K4 i _ m,u⟩;trivial;exact a w _ _ j;exact a w _ _ λe=>eE (j e) trivial
 simp only[cV];exact a w _ _ λe=>eE (j e) trivial
 simp only[cE];exact a w _ _ λe=>eE (j e) trivial
 simp only[cE];exact a w _ _ λe=>eE (j e) trivial
 trivial
section
variable{P:SF}
def F6{g w}(hs:g.status≠Sv)(d:∀t,g.status≠SS t):∀m,step P (oneG g w)=SJ m->m=oneG g w:=by
 have⟨j,k,i,l,f⟩:=g;intro m h;dsimp only at hs d;cases i with
 |running=>exact absurd rfl hs
 |sleeping t=>exact absurd rfl (d t)
 |waiting=>
  simp[step,stepT,move,ask,askOn,oneG,runnable_eq,due,ahead,SN,SO,pure,SZ]at h;exact h.symm
 |blocked=>
  exfalso;have⟨c,b,a,e⟩:=endWith_ended w 2 (bytes "fatal error: all goroutines are asleep - deadlock!\n") (.fatal "all goroutines are asleep - deadlock!");simp[step,stepT,move,ask,askOn,oneG,runnable_eq,due,ahead,SN,SO,pure,SZ]at h;rw[a]at h;cases h
 |parked=>
  exfalso;have⟨c,b,a,e⟩:=endWith_ended w 2 (bytes "fatal error: all goroutines are asleep - deadlock!\n") (.fatal "all goroutines are asleep - deadlock!");simp[step,stepT,move,ask,askOn,oneG,runnable_eq,due,ahead,SN,SO,pure,SZ]at h;rw[a]at h;cases h
 |finished=>
  exfalso;have⟨c,b,a,e⟩:=endWith_ended w 2 (bytes "fatal error: no goroutines (main called runtime.Goexit) - deadlock!\n") (.fatal "no goroutines (main called runtime.Goexit) - deadlock!");simp[step,stepT,move,ask,askOn,oneG,runnable_eq,due,ahead,SN,SO,pure,SZ]at h;rw[a]at h;cases h
def Ha{g w}(hs:g.status≠Sv)(c:∀t,g.status≠SS t):∀n m,runN P n (oneG g w)=SJ m->m=oneG g w:=by
 intro n;induction n with
 |zero=>simp[runN]
 |succ n e=>
  intro m h;simp[runN]at h;cases a:step P (oneG g w)with
  |next b=>
   have:=F6 hs c b a;grind
  |ended o d=>rw[a]at h;cases h
end
structure ya(f:Sy->GStep)(w:Sy)(g':Su)(cs:Array CommCase)(bl:Bool)(sh:CommShape)(w':Sy)(es:Array T8)(k m:Nat):Prop where
 le:k<=m
 tape:w'.tape=w.tape
 drawn:w'.drawn=w.drawn+m
 shift:∀Y d,Agree k w Y d->f (ah w Y d)=SD g' cs bl sh (ah w' Y (d+m)) es
section
variable{P:SF}{main:Bool}{fr:SP}{callers:List SP}{dy:Option Dying}{w w':Sy}{g':Su}{cs:Array CommCase}{bl:Bool}{sh:CommShape}{es:Array T8}
def bC{e s}(h:SR e s=SD g' cs bl sh w' es):∃a,s=SD g' cs bl sh w' a/\es=e++a:=by
 cases s<;>first |cases h
 simp
def wW{g}(h:early P fr callers dy g w=SD g' cs bl sh w' es):False:=by
 unfold early at h;grind
def mM{m}(h:endFatal P fr callers dy m w=SD g' cs bl sh w' es):False:=by
 simp[endFatal]at h;split at h<;>cases h
def mN{v}(h:doReturn P main fr callers dy v w=SD g' cs bl sh w' es):False:=by
 unfold doReturn at h;grind
def ny{s}[hs:St P s](D:an w)(h:stepG.apply P true fr callers dy s w=SD g' cs bl sh w' es):
 ∃k m,ya (λw=>stepG.apply P true fr callers dy s w) w g' cs bl sh w' es k m:=by
 rcases dx (P:=P) (s:=s) D #[]with⟨k,m,z,j⟩|⟨E,G,t,i⟩
 have l:=j.tape;have q:=j.drawn;have p:=j.shift;clear j;unfold stepG.apply at h;simp only[if_true]at h;generalize F:s.runT P w #[]=x at h l q p;obtain⟨r,B⟩:=x;cases r with
 |ok n v=>
  cases n;case comm a b c=>
   dsimp only at h l q p;obtain⟨f,e,rfl⟩:=bC h;cases e;exact⟨k,m,z,l,q,λA d C=>by simp only[stepG.apply,if_true,p A d C,cK];rfl⟩
  all_goals
   dsimp only at h;obtain⟨f,e,_⟩:=bC h;exfalso;first
    |(cases e;done)
    |(
     repeat' split at e
     all_goals cases e)
 |halt x v=>
  exfalso;cases x;case unsupported u=>
   cases u;case initOrder g=>
    dsimp only at h;have⟨f,e,_⟩:=bC h;exact wW e
   all_goals
    have⟨f,e,_⟩:=bC h;cases e
  case fatal c=>
   have⟨f,e,_⟩:=bC h;exact mM e
  all_goals
   have⟨f,e,_⟩:=bC h;cases e
 unfold stepG.apply at h;generalize s.runT P w #[]=y at h t;have⟨r,B⟩:=y;subst t;cases E;case unsupported u=>
  cases u<;>first
   |exact i.elim
   |(have⟨f,e,_⟩:=bC h;cases e)
 all_goals first
  |exact i.elim
  |(have⟨f,e,_⟩:=bC h;cases e)
def tW{d}(h:T7 P fr callers dy d w=SD g' cs bl sh w' es):False:=by
 unfold T7 at h;rcases kt h with⟨g,h⟩|⟨g,h⟩
 cases h;generalize (invoke d.target d.args).runT P w #[]=x at h;have⟨r,i⟩:=x;cases r with
 |ok n v=>
  cases n;case alone e u=>cases e<;>(have⟨b,a,_⟩:=bC h;cases a)
  case coroswitch c f=>cases f<;>(have⟨b,a,_⟩:=bC h;cases a)
  all_goals
   dsimp only at h;have⟨b,a,_⟩:=bC h;first
    |(cases a;done)
    |(grind)
 |halt x v=>
  cases x;case fatal c=>
   have⟨b,a,_⟩:=bC h;exact mM a
  all_goals
   have⟨b,a,_⟩:=bC h;cases a
def pJ(h:unwind P main fr callers dy w=SD g' cs bl sh w' es):False:=by
 unfold unwind at h;split at h;have⟨d,b,_⟩:=bC h<;>grind;exact tW h;split at h;cases h;rcases kt h with⟨c,h⟩|⟨c,h⟩<;>first |cases h|split at h<;>first |cases h|split at h<;>first |grind|split at h<;>first |(simp[endPrinting]at h;split at h<;>cases h)|cases h
 split at h;exact mN h;generalize (results ..).runT P w #[]=x at h;have⟨r,e⟩:=x;have⟨d,b,_⟩:=bC h;cases r with
 |ok a v=>exact mN b
 |halt x v=>cases x<;>cases b
def H8(T:bz P)(r:an w)(h:stepG.oper P true fr callers dy w=SD g' cs bl sh w' es):
 ∃k m,ya (λw=>stepG.oper P true fr callers dy w) w g' cs bl sh w' es k m:=by
 unfold stepG.oper at h;cases f:fr.oper? with
 |none=>rw[f]at h;cases h
 |some o=>
  simp[f]at h;suffices H:∀s,St P s->stepG.apply P true fr callers dy s w=SD g' cs bl sh w' es->(∀u,stepG.oper P true fr callers dy u=stepG.apply P true fr callers dy s u)->∃k m,ya (λw=>stepG.oper P true fr callers dy w) w g' cs bl sh w' es k m by
   cases g:fr.roundOf with
   |none=>
    simp[g]at h;exact H _ (by first |exact gY T.todY ..) h λu=>by simp_all[stepG.oper]
   |some l=>
    cases e:o.op with
    |defer c=>
     simp[g,e]at h;exact H _ (by first |exact ga ..) h λu=>by simp_all[stepG.oper]
    |_=>
     simp[e]at h;exact H _ (by first |exact gY T.todY ..) h λu=>by simp[stepG.oper,f,e]
  intro s n q i;have⟨k,m,l,a,b,c⟩:=ny (hs:=n) r q;exact⟨k,m,l,a,b,λp d j=>(i _).trans (c p d j)⟩
def nj{l b}(h:SR (seen P fr.fn ((SH l b).runT P w #[]).2) (match((SH l b).runT P w #[]).1 with
 | .ok v w=>doReturn P main fr callers dy v w
 |T4 _ w=>SM (.stuck "range over a function: no such loop" (fr.pos P)) w)=SD g' cs bl sh w' es):False:=by
 generalize (SH l b).runT P w #[]=x at h;have⟨r,d⟩:=x;have⟨e,c,_⟩:=bC h;cases r with
 |ok a v=>exact mN c
 |halt x v=>cases c
def Ig(T:bz P)(E:an w)(W:dg fr)(h:stepG.exec P main true fr callers dy w=SD g' cs bl sh w' es):
 ∃k m,ya (λw=>stepG.exec P main true fr callers dy w) w g' cs bl sh w' es k m:=by
 cases n:fr.todo with
 |nil=>
  exfalso;unfold stepG.exec at h;simp only[n]at h;cases C:fr.roundOf with
  |none=>grind
  |some l=>simp only[C]at h;exact nj h
 |cons it B=>
  cases it with
  |code c=>
   cases c with
   |rangeFunc f g e j=>
    unfold stepG.exec at h;simp only[n]at h;have p:cT e=true/\cT j=true:=by
     have:=W.1 (.code (.rangeFunc f g e j)) (by rw[n];simp);simpa[jM,cT]using this
    have hH:=cf (cP P fr.fn fr.tmps g e j fr.roundOf p.1 p.2).st w #[] E;rcases dx (P:=P) (s:=SC fr.fn fr.tmps g e j fr.roundOf) (hs:=cP P fr.fn fr.tmps g e j fr.roundOf p.1 p.2) E #[]with⟨k,m,hk,K⟩|⟨x0,wx,M,hdd⟩
    rotate_left
    exfalso;generalize (SC fr.fn fr.tmps g e j fr.roundOf).runT P w #[]=y at h M;have⟨r,e0⟩:=y;dsimp only at M;subst M;have⟨e2,L,_⟩:=bC h<;>grind;have N:=K.tape;have R:=K.drawn;have Q:=K.shift;clear K;generalize M:(SC fr.fn fr.tmps g e j fr.roundOf).runT P w #[]=x at h N R Q hH;have⟨r,e0⟩:=x;obtain⟨e2,L,rfl⟩:=bC h;cases r with
    |halt x v=>grind
    |ok a v=>
     have⟨l,Z⟩:=a;dsimp only at L N R Q;have⟨k2,m2,l2,a2,b2,c2⟩:=ny (hs:= @aX _ _ _ _ _ _ _ _ zq2 λd=>eH T.todY ..) hH L;refine⟨m+k2,m+m2,by omega,a2.trans N,by rw[b2,<- SI];grind,λq d' z=> ?_⟩;unfold stepG.exec;simp only[n,Q q d' (z.le (by omega)),cK];have:=c2 q (d'+m) (Agree.tail (w:=w) (k:=m) z (by omega) N R);dsimp only[dh]at this;rw[this,<- SI];rfl
   |region I D X=>
    exfalso;unfold stepG.exec at h;grind
   |ret=>
    exfalso;unfold stepG.exec at h;simp only[n]at h;cases C:fr.roundOf with
    |none=>grind
    |some l=>simp only[C]at h;exact nj h
   |exit I=>
    exfalso;unfold stepG.exec at h;simp only[n]at h;cases S:exitTo I B with
    |some k=>grind
    |none=>
     simp only[S,SQ]at h;cases C:fr.roundOf with
     |none=>grind
     |some l=>simp only[C]at h;exact nj h
   |goto I=>
    exfalso;unfold stepG.exec at h;simp only[n]at h;cases S:gotoIn I B with
    |some k=>grind
    |none=>
     simp only[S,SQ]at h;cases C:fr.roundOf with
     |none=>grind
     |some l=>simp only[C]at h;exact nj h
   |cond c thn els=>
    exfalso;unfold stepG.exec at h;grind
   |_=>
    exfalso;unfold stepG.exec at h;simp only[n]at h;cases h
  |beginRound=>
   have t:∀u,stepG.exec P main true fr callers dy u=stepG.apply P true fr callers dy (do fr.roundOf.elim (stuck "beginRound: no round") Instr.beginRound;pure .skip) u:=λu=>by simp_all[stepG.exec]
   rw[t]at h;have⟨k,m,l,a,b,c⟩:=ny (hs:= @aX _ _ _ _ _ _ _ _ (by cases fr.roundOf with |none=>exact qN P _|some l=>exact dR P l) λ_=>zq2) E h;exact⟨k,m,l,a,b,λq d z=>(t _).trans (c q d z)⟩
  |call d a b c=>exact(W.1 (.call d a b c) (by rw[n];simp)).elim
  |extern F A=>
   have G:F=printRow:=W.1 (.extern F A) (by rw[n];simp);subst G;have t:∀u,stepG.exec P main true fr callers dy u=stepG.apply P true fr callers dy (Extern.PrintPieces.piece #[] #[] A) u:=λu=>by simp_all[nk,SQ,stepG.exec]
   rw[t]at h;have⟨k,m,l,a,b,c⟩:=ny (hs:=lj P ..) E h;exact⟨k,m,l,a,b,λq d z=>(t _).trans (c q d z)⟩
  |endRangeFunc l=>
   exfalso;unfold stepG.exec at h;simp only[n]at h;generalize (T5 l).runT P w #[]=x at h;have⟨r,e0⟩:=x;have⟨e2,L,_⟩:=bC h<;>grind
  |inRegion D H=>
   cases H with
   |nil=>
    simp_all[stepG.exec,h]
   |cons i is=>
    cases hwn:(D[i]?.map (Region.wanted · (yielded D fr.tmps))).getD false with
    |true=>
     have t:∀u,stepG.exec P main true fr callers dy u=stepG.oper P true fr callers dy u:=λu=>by simp_all[if_true,stepG.exec]
     rw[t]at h;have⟨k,m,l,a,b,c⟩:=H8 T E h;exact⟨k,m,l,a,b,λq d z=>(t _).trans (c q d z)⟩
    |false=>
     simp_all[Bool.false_eq_true,if_false,stepG.exec,h]
  |_=>
   exfalso;unfold stepG.exec at h;simp only[n]at h;cases h
def BH{d}(h:die P fr d w=SD g' cs bl sh w' es):False:=by
 unfold die at h;split at h;unfold writeOn at h;grind
 split at h;rcases kt h with⟨_,h⟩|⟨_,h⟩<;>first |cases h|(unfold endWith at h;grind)
 split at h;cases h;split at h<;>cases h;have⟨b,a,_⟩:=bC h;split at a;cases a;cases a;cases a;simp[endPrinting]at a;split at a<;>cases a;grind
 cases h
def stepG_comm{g}(T:bz P)(x:an w)(C:(∀d,g.dying=some d->d.calling=true)->dg g.frame)(h:stepG P main g w=SD g' cs bl sh w' es):
 ∃k m,ya (λw=>stepG P main g w) w g' cs bl sh w' es k m:=by
 have⟨fr,q,s,dy,p⟩:=g;have n:(∀d,dy=some d->d.calling=true)->∃k m,ya (λw=>stepG P main ⟨fr,q,s,dy,p⟩ w) w g' cs bl sh w' es k m:=by
  intro A;cases D:fr.mode with
  |run=>
   have r:∀u,stepG P main ⟨fr,q,s,dy,p⟩ u=stepG.exec P main true fr q dy u:=λu=>by
    unfold stepG;grind
   rw[r]at h;have⟨k,m,l,a,b,c⟩:=Ig T x (C A) h;exact⟨k,m,l,a,b,λy d B=>(r _).trans (c y d B)⟩
  |returning=>
   exfalso;have r:stepG P main ⟨fr,q,s,dy,p⟩ w=unwind P main fr q dy w:=by
    unfold stepG;grind
   rw[r]at h;exact pJ h
  |panicking t=>
   exfalso;have r:stepG P main ⟨fr,q,s,dy,p⟩ w=unwind P main fr q dy w:=by
    unfold stepG;grind
   rw[r]at h;exact pJ h
 cases dy with
 |none=>exact n λd v=>by cases v
 |some d=>
  cases z:d.calling with
  |true=>exact n λE v=>by grind
  |false=>
   exfalso;have⟨a,b,c,e,f,i,j⟩:=d;subst z;exact BH (P:=P) h
end
def iU(w Y d gs):ways (ah w Y d) gs=ways w gs:=rfl
def tZ(cases w):waitingAt dV cases w=some w:=by
 simp[waitingAt,show timerAhead dV w.os.mono cases=false from timerAhead_crowd #[] w none w.os.mono cases]
def JB{α P}{s:Sem α}{w w1 a}(hs:St P s)(hw:an w)(h:s.run P w= .ok a w1):
 ∃k m,k<=m/\w1.tape=w.tape/\w1.drawn=w.drawn+m/\∀Y d,Agree k w Y d->s.run P (ah w Y d)= .ok a (ah w1 Y (d+m)):=by
 rcases dx (P:=P) (s:=s) hw #[]with⟨k,m,hk,hL⟩|⟨x0,wx,hx,hdd⟩
 .obtain⟨h1,h2,h3⟩:=tD hL h;exact⟨k,m,hk,h1,h2,h3⟩
 simp_all
def BK{P g g2 cases bl sh w w2}(hw:an w)(h:(Sx P dV #[ph] 0 g cases bl sh w).1=SJ (oneG g2 w2)):
 ∃k m,k<=m/\w2.tape=w.tape/\w2.drawn=w.drawn+m/\∀Y d,Agree k w Y d->(Sx P dV #[ph] 0 g cases bl sh (ah w Y d)).1=SJ (oneG g2 (ah w2 Y (d+m))):=by
 have hput:∀(a:Su)(u:Sy)(ops:Array MemOp),((SJ {world:=u,gs:=(#[ph]:Array Su).setIfInBounds 0 a,rest:=dV},ops):Stepped×Array MemOp).1=SJ (oneG a u):=λa u ops=>rfl
 have hone:∀{a b:Su}{u v:Sy},SJ (oneG a u)=SJ (oneG b v)->a=b/\u=v:=by
  intro a b u v h;simp only[oneG,Stepped.next.injEq,Machine.mk.injEq,Array.mk.injEq,List.cons.injEq,and_true]at h;exact⟨h.2,h.1⟩
 unfold Sx at h;dsimp only at h;split at h
 .cases h
 .rename_i hill;split at h
  .rename_i hr;split at h
   .rename_i hb;rw[tZ]at h;obtain⟨rfl,rfl⟩:=hone h;refine⟨0,0,SX _,rfl,rfl,λY d _=> ?_⟩;unfold Sx;simp only[iU,dq];rw[if_neg hill,if_pos hr,if_pos hb,tZ];rfl
   .rename_i hb;obtain⟨rfl,rfl⟩:=hone h;refine⟨0,0,SX _,rfl,rfl,λY d _=> ?_⟩;unfold Sx;simp only[iU,dq];rw[if_neg hill,if_pos hr,if_neg hb];rfl
  .rename_i hr;split at h
   .cases h
   .rename_i k c way w1 heq;obtain⟨k0,m0,hk,h1,h2,h3⟩:=JB (P:=P) (hs:=by
     repeat' (first
      |exact zq2
      |(refine @aX _ _ _ _ _ _ _ _ ?_ λ_=> ?_)
      |split
      |dsimp only)) hw heq
    have hp0:∀u:Sy,(runtimePanic (.plain "send on closed channel"):Sem Unit).run P u=T4 (.panic (.iface P.rt.plainError (strVal "send on closed channel"))) u:=λu=>rfl
    obtain⟨ch,sd,z⟩:=c;cases ch;case chan oc=>
     cases oc with
     |some r=>
      dsimp only at h;cases ho:w1.heap[r]? with
      |none=>
       cases way<;>cases sd<;>simp only[ho,hp0]at h<;>first
        |(cases h;done)
        |(
         obtain⟨rfl,rfl⟩:=hone h;refine⟨k0,m0,hk,h1,h2,λY d ha=> ?_⟩;unfold Sx;simp only[iU,dq];rw[if_neg hill,if_neg hr,h3 Y d ha];dsimp only[cK];try simp only[dq,ho,hp0,cV,cE]
         rfl)
      |some o=>
       cases o;all_goals
        cases way<;>cases sd<;>simp only[ho,hp0,cV,cE]at h<;>first
         |(cases h;done)
         |(
          obtain⟨rfl,rfl⟩:=hone h;refine⟨k0,m0,hk,h1,h2,λY d ha=> ?_⟩;unfold Sx;simp only[iU,dq];rw[if_neg hill,if_neg hr,h3 Y d ha];dsimp only[cK];try simp only[dq,ho,hp0,cV,cE]
          rfl)
     |none=>
      dsimp only at h;cases ho:w1.heap[0]? with
      |none=>
       cases way<;>cases sd<;>simp only[ho,hp0]at h<;>first
        |(cases h;done)
        |(
         obtain⟨rfl,rfl⟩:=hone h;refine⟨k0,m0,hk,h1,h2,λY d ha=> ?_⟩;unfold Sx;simp only[iU,dq];rw[if_neg hill,if_neg hr,h3 Y d ha];dsimp only[cK];try simp only[dq,ho,hp0,cV,cE]
         rfl)
      |some o=>
       cases o;all_goals
        cases way<;>cases sd<;>simp only[ho,hp0,cV,cE]at h<;>first
         |(cases h;done)
         |(
          obtain⟨rfl,rfl⟩:=hone h;refine⟨k0,m0,hk,h1,h2,λY d ha=> ?_⟩;unfold Sx;simp only[iU,dq];rw[if_neg hill,if_neg hr,h3 Y d ha];dsimp only[cK];try simp only[dq,ho,hp0,cV,cE]
          rfl)
    all_goals
     dsimp only at h;cases ho:w1.heap[0]? with
     |none=>
      cases way<;>cases sd<;>simp only[ho,hp0]at h<;>first
       |(cases h;done)
       |(
        obtain⟨rfl,rfl⟩:=hone h;refine⟨k0,m0,hk,h1,h2,λY d ha=> ?_⟩;unfold Sx;simp only[iU,dq];rw[if_neg hill,if_neg hr,h3 Y d ha];dsimp only[cK];try simp only[dq,ho,hp0,cV,cE]
        rfl)
     |some o=>
      cases o;all_goals
       cases way<;>cases sd<;>simp only[ho,hp0,cV,cE]at h<;>first
        |(cases h;done)
        |(
         obtain⟨rfl,rfl⟩:=hone h;refine⟨k0,m0,hk,h1,h2,λY d ha=> ?_⟩;unfold Sx;simp only[iU,dq];rw[if_neg hill,if_neg hr,h3 Y d ha];dsimp only[cK];try simp only[dq,ho,hp0,cV,cE]
         rfl)
end
section
variable[aD]
section
variable{P:SF}{main:Bool}{fr:SP}{cs:List SP}{dy:Option Dying}{w:Sy}{Y:Nat->SL->Nat}{d:Nat}
def Df(m):(endFatal P fr cs dy m w).es=#[]:=by
 simp[endFatal];split <;>rfl
def FD(a t o):(endWith w a t o).es=#[]:=by
 unfold endWith;repeat' split
 all_goals rfl
end
end
section
open Go.Conc
variable[aD]
def Big(_:Array T8):Prop:=False
inductive gT(P:SF)(g:Su)(w:Sy):Su->Sy->Array T8->Prop
 |go {g' w' es}:stepG P true g w= .go g' w' es->gT P g w g' w' es
 |comm {g1 cs bl sh w1 es g' w'}:stepG P true g w=SD g1 cs bl sh w1 es->(Sx P dV #[ph] 0 g1 cs bl sh w1).1=SJ (oneG g' w')->gT P g w g' w' es
inductive Tree(P:SF)(K:Su->Sy->Prop):Su->Sy->Prop
 |stop {g w}:K g w->Tree P K g w
 |step {g w} (G:(Nat->SL->Nat)->Nat->Su) (W:(Nat->SL->Nat)->Nat->Sy) (E:(Nat->SL->Nat)->Nat->Array T8):g.status=Sv->
  (∀Y d,¬ Big (stepG P true g (ah w Y d)).es->gT P g (ah w Y d) (G Y d) (W Y d) (E Y d))->(∀Y d,¬ Big (stepG P true g (ah w Y d)).es->Tree P K (G Y d) (W Y d))->Tree P K g w
def Iv(g:Su)(w:Sy):Prop:=an w/\(Ol g\/(JG g/\∀d,g.dying=some d->d.calling=true))
def C8(P:SF)(K:Su->Sy->Prop)(n:Nat)(g:Su)(w:Sy):Prop:=∃b a,runN P n (oneG g w)=SJ (oneG b a)/\K b a
def yZ(P:SF)(K:Su->Sy->Prop)(g:Su)(w:Sy):Prop:=∃n,C8 P K n g w
section
variable{P:SF}
def A7{g b w c a}(hs:g.status=Sv)(h:stepG P true g w= .go b c a):stepT P (oneG g w)=(SJ (oneG b c),T0 0 g.frame.fn g.frame.place a):=by
 rw[stepT,move_oneG hs];simp[runT,oneG,h,Tl]
def vH{g a w c cs b sh d}(hs:g.status=Sv)(h:stepG P true g w=SD a cs b sh c d):
 stepT P (oneG g w)=((Sx P dV #[ph] 0 a cs b sh c).1,T0 0 g.frame.fn g.frame.place d++(Sx P dV #[ph] 0 a cs b sh c).2):=by
 rw[stepT,move_oneG hs];simp[runT,oneG,h,Tl,dV,ph]
def Cn{g w b o a}(hs:g.status=Sv)(h:stepG P true g w=SM o b a):
 stepT P (oneG g w)=(.ended o b,T0 0 g.frame.fn g.frame.place a):=by
 rw[stepT,move_oneG hs];simp[runT,oneG,h,Tl]
def yz{g c w b d}(hs:g.status=Sv)(h:gT P g w c b d):∃a,stepT P (oneG g w)=(SJ (oneG c b),a):=by
 cases h with
 |go h=>exact⟨_,A7 hs h⟩
 |comm h e=>exact⟨_,(vH hs h).trans (by rw[e])⟩
def uS{a b u v}(h:oneG a u=oneG b v):a=b/\u=v:=by
 simp_all[oneG]
def wI{g w}(hI:Iv g w):(∀d,g.dying=some d->d.calling=true)->dg g.frame:=λh=>by
 rcases hI.2 with⟨⟨d,a,b⟩,_⟩|⟨c,_⟩
 have:=h d a;rw[b]at this;cases this;exact c.1
def ou(T:bz P){g w}(hI:Iv g w):(∃m p k,stepG P true g w= .go m p k/\Iv m p/\∀t,m.status≠SS t)\/(∃q cs u sh l k,stepG P true g w=SD q cs u sh l k/\(Iv q l/\q.status=Sv)/\aD.cm)\/∃o l k,stepG P true g w=SM o l k:=by
 have⟨A,hI⟩:=hI;rcases hI with s|⟨z,x⟩
 have h:=Ew (P:=P) (main:=true) T A (.inl s);cases n:stepG P true g w with
 |go m p k=>
  rw[n]at h;refine .inl ⟨m,p,k,rfl,⟨h.1,h.2.imp id λ⟨z,d,s,x⟩=>⟨z,λG D=>by grind⟩⟩,?_⟩;rcases h.2 with h|h<;>first |exact h.2|exact h.1.2.2.1
 |ended o l k=>exact .inr (.inr ⟨o,l,k,rfl⟩)
 |comm q cs u sh l k=>
  exfalso;have⟨⟨d,y,v⟩,_⟩:=s;have⟨F,I,H,E,B⟩:=g;subst y;have⟨a,b,c,e,f,i,j⟩:=d;subst v;exact BH (P:=P) n
 |_=>rw[n]at h;exact h.elim
 have h:=A8 (P:=P) (main:=true) T A z x;cases n:stepG P true g w with
 |go m p k=>
  rw[n]at h;refine .inl ⟨m,p,k,rfl,⟨h.1,?_⟩,?_⟩<;>first |rcases h.2 with⟨C,r⟩|r<;>grind|rcases h.2 with⟨C,r⟩|r<;>first |exact r.2.2.1|exact r.2
 |ended o l k=>exact .inr (.inr ⟨o,l,k,rfl⟩)
 |comm q cs u sh l k=>
  rw[n]at h;exact .inr (.inl ⟨q,cs,u,sh,l,k,rfl,⟨⟨h.2.1,.inr ⟨h.2.2.2.2,λd s=>x d (h.2.2.1▸s)⟩⟩,h.2.2.2.1⟩,h.1⟩)
 |_=>rw[n]at h;exact h.elim
def MF{g c w e}(hI:Iv g w)(hs:g.status=Sv){cs i sh}(h:(Sx P dV #[ph] 0 g cs i sh w).1=SJ (oneG c e)):
 an e/\(c.status=Sv\/c.status= .blocked)/\c.dying=g.dying/\(JG g->JG c):=by
 have f:=BL (P:=P) hs cs i sh w;rw[h]at f;have⟨a,b,d,l,m,j,k⟩:=f;have⟨rfl,rfl⟩:=uS d;exact⟨k hI.1,m,l,j⟩
def nI(T:bz P){g m w l q}(hI:Iv g w)(h:gT P g w m l q):Iv m l:=by
 rcases ou T hI with⟨a,b,c,f,j,_⟩|⟨C,B,A,D,u,e,f,⟨j,p⟩,_⟩|⟨o,u,e,f⟩
 cases h with
 |go h=>grind
 |comm h _=>rw[f]at h;cases h
 cases h with
 |go h=>rw[f]at h;cases h
 |comm h s=>
  rw[f]at h;cases h;have⟨v,n,r,y⟩:=MF j p s;refine⟨v,?_⟩;rcases j.2 with⟨⟨d,k,i⟩,x⟩|⟨z,k⟩
  refine .inl ⟨⟨d,r.trans k,i⟩,λt=> ?_⟩;rcases n with e|e<;>rw[e]<;>exact nofun
  grind
 cases h with
 |go h=>rw[f]at h;cases h
 |comm h _=>rw[f]at h;cases h
def xR(T:bz P){g l w b r}(hI:Iv g w)(h:gT P g w l b r)(u:l.status=Sv):
 ∃m,b.tape=w.tape/\b.drawn=w.drawn+m/\∀a d,Agree m w a d->gT P g (ah w a d) l (ah b a (d+m)) r:=by
 cases h with
 |go h=>
  have⟨k,m,q,i,c,j⟩:=Gm T hI.1 (wI hI) u h;exact⟨m,i,c,λa d f=>.go (j a d (f.le q))⟩
 |comm h z=>
  have⟨k,m,q,i,c,j⟩:=stepG_comm T hI.1 (wI hI) h;rename_i F H M I x;have n:an x:=by
   rcases ou T hI with⟨_,_,_,e,_⟩|⟨E,G,K,L,D,e,p,⟨t,N⟩,_⟩|⟨_,_,_,e⟩
   rw[h]at e;cases e;rw[h]at p;cases p;exact t.1;grind
  have⟨C,y,A,B,s,v⟩:=BK n z;refine⟨m+y,B.trans i,by rw[s,c,SI],λa d f=> ?_⟩;have:=v a (d+m) (Agree.tail (w:=w) (k:=m) (f.le (by omega)) (SX _) i c);rw[SI]at this;exact .comm (j a d (f.le (by omega))) this
end
def From(b:Nat->SL->Nat)(d:Nat)(a:Nat->SL->Nat):Prop:=∀j q,b (d+j) q=a j q
section
variable{P:SF}{K:Su->Sy->Prop}
def rG(P:SF)(K:Su->Sy->Prop)(s:Su×Sy):Prop:=Iv s.1 s.2/\s.1.status=Sv/\¬ Tree P K s.1 s.2
def ti(P:SF)(K:Su->Sy->Prop)(s:Su×Sy):Prop:=∃b,∀a d,From a d b->¬ yZ P K s.1 (ah s.2 a d)
def fE{g w}(h:Iv g w)(a d):Iv g (ah w a d):=⟨Fi h.1 a d,h.2⟩
def uW{g w}(h:C8 P K 0 g w):K g w:=by
 have⟨a,b,c,d⟩:=h;simp[runN]at c;have⟨rfl,rfl⟩:=uS c;omega
def uX{n g f w d c}(h:stepT P (oneG g w)=(SJ (oneG f d),c))(j:C8 P K (n+1) g w):C8 P K n f d:=by
 have⟨a,b,e,i⟩:=j;simp[runN,step,h]at e;exact⟨a,b,e,i⟩
def JW(T:bz P)(E:∀g w u d,K g (ah w u d)->K g w)(hKr:∀g w,K g w->g.status=Sv){s}(hs:rG P K s){r D}
 (hn:∀f i C,gT P s.1 (ah s.2 r D) f i C->f.status≠Sv):ti P K s:=by
 have⟨g,w⟩:=s;have⟨R,I,Z⟩:=hs;refine⟨λj q=>r (D+j) q,λu d W hh=> ?_⟩;have y:∀f i C,gT P g (ah w u d) f i C->f.status≠Sv:=λf i C h A=>by
  have⟨m,_,_,z⟩:=xR T (fE R u d) h A;have:=z r D λj _ q=>(W j q).symm
  rw[xO]at this;grind
 have⟨n,G⟩:=hh;cases n with
 |zero=>exact Z (.stop (E _ _ _ _ (uW G)))
 |succ n=>
  have v:∀(f:Su)(i:Sy)(k:Array MemOp),stepT P (oneG g (ah w u d))=(SJ (oneG f i),k)->f.status≠Sv->(∀t,f.status≠SS t)->False:=λf i k l p L=>by
   have⟨a,b,x,hk⟩:=uX l G;have:=Ha p L _ _ x;have⟨rfl,rfl⟩:=uS this<;>grind
  have B:∀(o:Outcome)(i:Sy)(k:Array MemOp),stepT P (oneG g (ah w u d))=(.ended o i,k)->False:=λo i k l=>by
   have⟨a,b,x,hk⟩:=G;simp_all[runN,step]
  rcases ou T (fE R u d)with⟨a,b,c,p,L,z⟩|⟨X,M,S,Q,F,e,p,⟨L,z⟩,_⟩|⟨o,F,e,p⟩
  exact v _ _ _ (A7 I p) (y _ _ _ (.go p)) z;have l:=vH I p;have N:=BL (P:=P) z M S Q F;cases H:(Sx P dV #[ph] 0 X M S Q F).1 with
  |next m=>
   rw[H]at N;obtain⟨f,i,rfl,_,_,_,_⟩:=N;have hnr:=y _ _ _ (.comm p H);grind
  |ended o i=>rw[H]at l;grind
  exact B _ _ _ (Cn I p)
def Hp(T:bz P)(l:∀g w e d,K g (ah w e d)->K g w){s c}(hs:rG P K s)(p:rG P K c){a f A}
 (h:gT P s.1 (ah s.2 a f) c.1 c.2 A) (y:ti P K c):ti P K s:=by
 have⟨D,v,B⟩:=hs;have⟨m,G,F,C⟩:=xR T (fE D a f) h p.2.1;have⟨u,k⟩:=y;refine⟨λj q=>if j<m then a (f+j) q else u (j-m) q,λe d r z=> ?_⟩;have b:=C e d (λj E q=>by
  have:=r j q;simp_all)
 have⟨n,t⟩:=z;cases n with
 |zero=>exact B (.stop (l _ _ _ _ (uW t)))
 |succ n=>
  have⟨x,i⟩:=yz v b;refine k e (d+m) (λj q=> ?_) ⟨n,uX i t⟩;have:=r (m+j) q;grind
structure tu(P:SF)(K:Su->Sy->Prop) where
 s:Nat->Su×Sy
 Y:Nat->Nat->SL->Nat
 d:Nat->Nat
 es:Nat->Array T8
 m:Nat->Nat
 bad:∀k,rG P K (s k)
 one:∀k Y' d',Agree (m k) (ah (s k).2 (Y k) (d k)) Y' d'->gT P (s k).1 (ah (s k).2 Y' d') (s (k+1)).1 (ah (s (k+1)).2 Y' (d'+m k)) (es k)
def upTo(m:Nat->Nat):Nat->Nat
 |0=>0
 |k+1=>upTo m k+m k
def yg(m){a b}(h:a<=b):upTo m a<=upTo m b:=by
 induction h with
 |refl=>exact SX _
 |step _ c=>exact Nat.le_trans c (Nat.le_add_right ..)
open Classical in
noncomputable def JY(W:tu P K)(p:Nat)(q:SL):Nat:=
 if h:∃k,upTo W.m k<=p/\p<upTo W.m (k+1)then W.Y (Sw h) (W.d (Sw h)+(p-upTo W.m (Sw h))) q else 0
def Mp(W:tu P K)(k j)(i:j<W.m k)(q):JY W (upTo W.m k+j) q=W.Y k (W.d k+j) q:=by
 have h:∃b,upTo W.m b<=upTo W.m k+j/\upTo W.m k+j<upTo W.m (b+1):=⟨k,by omega,by show _<upTo W.m k+W.m k;omega⟩;have g:Sw h=k:=by
  have⟨f,l⟩:=AI h;rcases Nat.lt_trichotomy (Sw h) k with d|a|c<;>first |(have:=yg W.m (show Sw h+1<=k by omega);omega)|exact a|(have:=yg W.m (show k+1<=Sw h by omega);have e:upTo W.m (k+1)=upTo W.m k+W.m k:=rfl;omega)
 simp_all[JY]
def JV(c:∀g w b d,K g (ah w b d)->K g w)(W:tu P K):ti P K (W.s 0):=by
 refine⟨JY W,λb d r p=> ?_⟩;have e:∀n k,C8 P K n (W.s k).1 (ah (W.s k).2 b (d+upTo W.m k))->False:=by
  intro n;induction n with
  |zero=>exactλk h=>(W.bad k).2.2 (.stop (c _ _ _ _ (uW h)))
  |succ n l=>
   intro k h;have a:=W.one k b (d+upTo W.m k) (λj s q=>by
    have:=r (upTo W.m k+j) q;rw[Mp W k j s]at this;rw[SI];exact this)
   have⟨m,f⟩:=yz (W.bad k).2.1 a;have:=uX f h;rw[SI]at this;exact l (k+1) this
 have⟨n,i⟩:=p;exact e n 0 (by simpa[upTo]using i)
def KM(T:bz P){s}(hs:rG P K s):∃a d,
 (∃i e,gT P s.1 (ah s.2 a d) i.1 i.2 e/\rG P K i)\/∀c f e,gT P s.1 (ah s.2 a d) c f e->c.status≠Sv:=by
 have⟨g,w⟩:=s;have⟨l,r,p⟩:=hs;refine SK λq=>p ?_
 have b:∀a d,∃c f e,gT P g (ah w a d) c f e/\Tree P K c f:=λa d=>by
  refine SK λm=>q ⟨a,d,?_⟩
  by_cases n:∃c f e,gT P g (ah w a d) c f e/\c.status=Sv;have⟨c,f,e,j,h⟩:=n;refine .inl ⟨(c,f),e,j,nI T (fE l a d) j,h,λk=>m ⟨c,f,e,j,k⟩⟩;grind
 refine .step (λa d=>Sw (b a d)) (λa d=>Sw (AI (b a d))) (λa d=>Sw (AI (AI (b a d)))) r (λa d t=> ?_) λa d t=> ?_
 exact(AI (AI (AI (b a d)))).1;grind
def bar(T:bz P)(c:∀g w b d,K g (ah w b d)->K g w)(u:∀g w,K g w->g.status=Sv){g w}(hI:Iv g w)(L:g.status=Sv)(h:∀b d,yZ P K g (ah w b d)):Tree P K g w:=by
 refine SK λH=> ?_
 have n:¬ ti P K (g,w):=λ⟨v,t⟩=>t v 0 λj q=>by rw[Nat.zero_add] (h v 0)
 have B:∀x: {s:Su×Sy//rG P K s/\¬ ti P K s},∃(y: {s:Su×Sy//rG P K s/\¬ ti P K s})(b:Nat->SL->Nat)(d:Nat)(r:Array T8)(m:Nat),
  ∀a l,Agree m (ah x.1.2 b d) a l->gT P x.1.1 (ah x.1.2 a l) y.1.1 (ah y.1.2 a (l+m)) r:=by
  rintro⟨s,p,z⟩;obtain⟨b,d,⟨C,r,A,e⟩|E⟩:=KM T p<;>first |(have⟨m,_,_,I⟩:=xR T (fE p.1 b d) A e.2.1;refine⟨⟨C,e,λF=>z (Hp T c p e A F)⟩,b,d,r,m,λa l D=> ?_⟩;have:=I a l D;rw[xO]at this;omega)|exact absurd (JW T c u p E) z
 let f:=λx=>Sw (B x)
 let S:Nat->{s:Su×Sy//rG P K s/\¬ ti P K s}:=λk=>Nat.rec ⟨(g,w),⟨hI,L,H⟩,n⟩ (λ_ x=>f x) k
 have i:=λk=>AI (B (S k))
 have W:∃W:tu P K,W.s 0=(g,w):=
  ⟨tu.mk (λk=>(S k).1) (λk=>Sw (i k)) (λk=>Sw (AI (i k))) (λk=>Sw (AI (AI (i k))))
   (λk=>Sw (AI (AI (AI (i k))))) (λk=>(S k).2.1)
   λk=>AI (AI (AI (AI (i k)))),rfl⟩
 have⟨W,G⟩:=W;exact n (G▸JV c W)
end
end
end Go.Proofs.YtkgohmcmmcpigabGreatDoor
