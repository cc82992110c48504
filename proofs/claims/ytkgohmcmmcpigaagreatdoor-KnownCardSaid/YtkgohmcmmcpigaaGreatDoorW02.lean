/- A part of the proof that Within holds; no condition. -/
import Derived.DyingOn
import Derived.Conc.CrowdComm
import Derived.Test.YtkgohmcmmcpigaaGreatDoorW01
set_option linter.unusedSectionVars false
set_option linter.unusedSimpArgs false
set_option linter.unusedVariables false
set_option maxHeartbeats 8000000
namespace Go.Proofs.YtkgohmcmmcpigaaGreatDoor
open Go
open _root_.Classical renaming choose_spec->up,choose->AI,byContradiction->IT
open _root_.List renaming mem_cons_self->x5,mem_cons->BY,mem_cons_of_mem->If,map_cons->Sw,mem_append->Sy,mem_singleton->SE
open Go renaming Goroutine->AS,communicate->AT,World->By,Program->IN,Question->No,Frame->Sx
open _root_.Option renaming map_eq_some_iff->IS
open Go.Instr renaming enterLoop->OF,takeDeferred->Su,endRound->SD
open _root_.Nat renaming add_assoc->Sv
open Go.Frame renaming enter->Sz,round->SG,ofRow->SH
open Go.MemOp renaming ofEvents->SC
open Go.GStep renaming after->SF,es->SM
open _root_.Bool renaming and_eq_true->SI
section
variable[aD]
def LK(dy:Option Dying)(fr:Sx)(cs:List Sx):Prop:=dy.isSome=true->(cs.map (·.kind)).getLastD fr.kind= .report
def JG(g:AS):Prop:=dg g.frame/\(∀c∈g.callers,dg c)/\(∀t,g.status≠.sleeping t)/\LK g.dying g.frame g.callers
def Ol(g:AS):Prop:=(∃d,g.dying=some d/\d.calling=false)/\∀t,g.status≠.sleeping t
def ir(dy:Option Dying):GStep->Prop
 | .go g w _=>an w/\((g.dying=dy/\JG g)\/Ol g)
 | .comm g _ _ _ w _=>aD.cm/\an w/\g.dying=dy/\g.status= .running/\JG g
 | .ended _ _ _=>True
 |_=>False
theorem fH{dy es s}(h:ir dy s):ir dy (SF es s):=by
 cases s<;>first |exact h
section
variable{P:IN}{fr:Sx}{callers:List Sx}{dy:Option Dying}
theorem aq{fr'}(hk:fr'.kind=fr.kind)(h:LK dy fr callers):LK dy fr' callers:=λhd=>by rw[hk];exact h hd
theorem cZ{fr'}(h:LK dy fr callers):LK dy fr' (fr::callers):=λhd=>by rw[Sw,List.getLastD_cons];exact h hd
theorem NB{c cs}(h:LK dy fr (c::cs)):LK dy c cs:=λhd=>by have:=h hd;rwa [Sw,List.getLastD_cons]at this
theorem ai{c c' cs}(hk:c'.kind=c.kind)(h:LK dy fr (c::cs)):LK dy c' cs:=aq hk (NB h)
theorem Be{fr' cs}(hf:fr'.kind=fr.kind)(hk:cs.map (·.kind)=callers.map (·.kind))(h:LK dy fr callers):LK dy fr' cs:=λhd=>by rw[hk,hf];exact h hd
theorem ap(fr:Sx)(v):(fr.finish v).kind=fr.kind:=by
 grind [Frame.finish]
theorem aw(fr:Sx)(vs):(fr.raise vs).kind=fr.kind:=by
 grind [Frame.raise]
theorem jO:∀callers fr v cs,tryRecover fr callers=some (v,cs)->cs.map (·.kind)=callers.map (·.kind):=by
 intro callers;induction callers with
 |nil=>
  intro fr v cs h;simp_all[tryRecover]
 |cons x rest ih=>
  intro fr v cs h;unfold tryRecover at h;split at h
  .grind
  .obtain⟨⟨v',cs'⟩,h1,h2⟩:=IS.1 h<;>grind
  .cases h
theorem tT:∀callers l v cs,tryRecoverLoop l callers=some (v,cs)->cs.map (·.kind)=callers.map (·.kind):=by
 intro callers;induction callers with
 |nil=>intro l v cs h;cases h
 |cons x rest ih=>
  intro l v cs h;unfold tryRecoverLoop at h;obtain⟨⟨v',cs'⟩,h1,h2⟩:=IS.1 h;obtain⟨_,rfl⟩:=h2;have:=by
   split at h1
   .exact ih _ _ _ h1
   .split at h1
    .exact jO _ _ _ _ h1
    grind
   grind
  rw[Sw,Sw,this]
theorem r8{todo}(h:dg fr)(ht:∀it∈todo,jM it):dg {fr with todo}:=⟨ht,h.2⟩
theorem eV(h:dg fr)(v):dg (fr.finish v):=by
 obtain⟨h1,h2⟩:=h;unfold Frame.finish;split
 .rename_i ht;exact⟨λit hi=>(BY.1 hi).elim (λe=>e▸by have h9:=h1 _ (by rw[ht];exact x5 ..);exactλi hi o ho=>h9 i (If _ hi) o ho) λhi=>h1 it (by grind),h2⟩
 .exact⟨λit hi=>(BY.1 hi).elim λe=>e▸by first |trivial λhi=>h1 it (by grind),h2⟩
 .exact⟨λit hi=>h1 it (by grind),h2⟩
 .rename_i ht;exact(h1 (.call _ _ _ _) (by rw[ht];exact x5 ..)).elim
 .exact⟨λit hi=>h1 it (by grind),h2⟩
 .exact⟨h1,h2⟩
theorem gZ(h:dg fr)(vs):dg (fr.raise vs):=by
 unfold Frame.raise;split <;>exact h
theorem Ko(T:bz P)(f:FuncId):cT ((P.funcs[f]?.bind (·.body)).getD (.refuse "unsupported: a function without a Go body is entered"))=true:=by
 cases hf:P.funcs[f]? with
 |none=>rfl
 |some fn=>
  cases hb:fn.body with
  |none=>simp[hb,cT]
  |some c=>simpa[hb]using T.nogo f fn c hf hb
theorem mi(T:bz P)(f args k):dg (Sz P f args k):=
 ⟨λit hi=>by simp[Sz]at hi;subst hi;exact Ko T f,λd hd=>by simp[Sz]at hd⟩
theorem yC(l f tmps a b k)(ha:cT a=true)(hb:cT b=true):dg (SG l f tmps a b k):=
 ⟨λit hi=>by simp[SG]at hi;rcases hi with rfl|rfl|rfl<;>first |trivial,λd hd=>by simp[SG]at hd⟩
theorem DL(args k):dg (SH P printRow args k):=
 ⟨λit hi=>by simp[SH]at hi;subst hi;rfl,λd hd=>by simp[SH]at hd⟩
theorem lW:∀callers fr v cs,(∀c∈callers,dg c)->tryRecover fr callers=some (v,cs)->∀c∈cs,dg c:=by
 intro callers;induction callers with
 |nil=>
  intro fr v cs hc h;simp_all[tryRecover]
 |cons x rest ih=>
  intro fr v cs hc h;unfold tryRecover at h;split at h
  .rename_i heq;cases heq;split at h
   .obtain⟨_,rfl⟩:=h;intro c h0;rcases BY.1 h0 with rfl|h0
    .exact hc x (x5 ..)
    grind
   .cases h
  .obtain⟨⟨v',cs'⟩,h1,h2⟩:=IS.1 h<;>grind
  .cases h
theorem wq:∀callers l v cs,(∀c∈callers,dg c)->tryRecoverLoop l callers=some (v,cs)->∀c∈cs,dg c:=by
 intro callers;induction callers with
 |nil=>intro l v cs hc h;cases h
 |cons x rest ih=>
  intro l v cs hc h;unfold tryRecoverLoop at h;obtain⟨⟨v',cs'⟩,h1,h2⟩:=IS.1 h;simp only[Prod.mk.injEq]at h2;obtain⟨_,rfl⟩:=h2;have hr:∀c∈rest,dg c:=λc h0=>hc c (If _ h0)
  have:∀c∈cs',dg c:=by
   split at h1
   .exact ih _ _ _ hr h1
   .split at h1
    .exact lW _ _ _ _ hr h1
    grind
   grind
  grind
theorem Fi{w}(h:an w)(τ d):an (ah w τ d):=h
theorem gE{c}[Decidable c]{A B}(ha:ir dy A)(hb:ir dy B):ir dy (if c then A else B):=by
 by_cases hc:c
 .rw[if_pos hc];omega
 grind
theorem rm(fr a m b){w}(hw:an w):ir dy (dieOf fr a m b w):=⟨hw,.inr ⟨⟨_,rfl,rfl⟩,nofun⟩⟩
theorem nZ{α}{s:Sem α}(hs:St P s){w}(hw:an w):an (dh (s.run P w)):=by
 rw[<- Sem.runT_fst P s w #[]];exact cf hs.st w #[] hw
theorem ux{m w}(hw:an w):ir dy (endFatal P fr callers dy m w):=by
 have H:∀(shown:Sem (List (ByteArray×String)×List ByteArray)),St P shown->ir dy (match shown.run P w with
  | .ok (texts,tabs) w=>dieOf fr (panicPieces texts++tabs) m true w
  | .halt (.unsupported u) w=>.ended (.unsupported u "") w
  | .halt _ w=>.ended (.stuck "the report of a panic" "") w):=by
  intro s hs;have:=nZ hs hw;generalize s.run P w=r at this ⊢;cases r with
  |ok a v=>exact rm _ _ _ _ this
  |halt x v=>cases x<;>trivial
 have hraw:∀vs:List (Value×String),St P (vs.mapM λ(v,mark)=>match panicText P true v with
  | .text s=>pure (s,mark)
  | .address s=>do pure (<- withAddress s,mark)
  |_=>unsupported (.noEntry "a fatal error during a panic whose value the report cannot show")):=by
  intro vs;refine @pL _ _ _ _ _ _ _ (λx=> ?_) _;dsimp only;split <;>exact zq2
 refine H _ ?_;split
 .exact zq2
 .exact @aX _ _ _ _ _ _ _ _ zq2 λ_=> @aX _ _ _ _ _ _ _ _ (hraw _) λ_=>zq2
 .exact @aX _ _ _ _ _ _ _ _ (hraw _) λ_=>zq2
 .exact zq2
theorem oG{s w}(T:bz P)(hs:St P s)(hl:Leaf P uC s)(hw:an w)(hf:dg fr)(hc:∀c∈callers,dg c)(hlk:LK dy fr callers):ir dy (stepG.apply P true fr callers dy s w):=by
 unfold stepG.apply;simp only[if_true];have hH:=cf hs.st w #[] hw;have hL:=rh hs.st hl w #[] hw;have hI:=pQ hs.st w #[] hw;generalize s.runT P w #[]=x at hH hL hI ⊢;obtain⟨r,e0⟩:=x;have h0:∀c∈fr::callers,dg c:=λc h1=>(BY.1 h1).elim (λe=>e▸hf) (hc c)
 cases r with
 |ok n v=>
  have hn:=hL n v e0 rfl;clear hL;cases n;all_goals dsimp only
  all_goals refine fH ?_
  case value u=>exact⟨hH,.inl ⟨rfl,eV hf _,hc,nofun,by first |exact hlk|exact aq (ap _ _) hlk|exact aq (aw _ _) hlk|exact cZ hlk|exact ai (ap _ _) hlk|exact ai (aw _ _) hlk|exact ai rfl hlk|exact aq rfl hlk⟩⟩
  case skip=>exact⟨hH,.inl ⟨rfl,eV hf _,hc,nofun,by first |exact hlk|exact aq (ap _ _) hlk|exact aq (aw _ _) hlk|exact cZ hlk|exact ai (ap _ _) hlk|exact ai (aw _ _) hlk|exact ai rfl hlk|exact aq rfl hlk⟩⟩
  case enter f args=>exact⟨hH,.inl ⟨rfl,mi T _ _ _,h0,nofun,by first |exact hlk|exact aq (ap _ _) hlk|exact aq (aw _ _) hlk|exact cZ hlk|exact ai (ap _ _) hlk|exact ai (aw _ _) hlk|exact ai rfl hlk|exact aq rfl hlk⟩⟩
  case round l f tmps assign body=>exact⟨hH,.inl ⟨rfl,yC _ _ _ _ _ _ hn.1 hn.2,h0,nofun,by first |exact hlk|exact aq (ap _ _) hlk|exact aq (aw _ _) hlk|exact cZ hlk|exact ai (ap _ _) hlk|exact ai (aw _ _) hlk|exact ai rfl hlk|exact aq rfl hlk⟩⟩
  case defer d=>
   have hfd:dg {fr with defers:=d::fr.defers}:=⟨hf.1,λx hx=>by
    rcases BY.1 hx with rfl|hx
    .exact hn
    .exact hf.2 x hx⟩
   exact⟨hH,.inl ⟨rfl,eV hfd _,hc,nofun,by first |exact hlk|exact aq (ap _ _) hlk|exact aq (aw _ _) hlk|exact cZ hlk|exact ai (ap _ _) hlk|exact ai (aw _ _) hlk|exact ai rfl hlk|exact aq rfl hlk⟩⟩
  case recover=>
   split
   .rename_i v' cs' hx;have hk:(∀c∈cs',dg c)/\cs'.map (·.kind)=callers.map (·.kind):=by
     split at hx
     .split at hx
      .exact⟨lW _ _ _ _ hc hx,jO _ _ _ _ hx⟩
      .exact⟨wq _ _ _ _ hc hx,tT _ _ _ _ hx⟩
     .exact⟨lW _ _ _ _ hc hx,jO _ _ _ _ hx⟩
    exact⟨hH,.inl ⟨rfl,eV hf _,hk.1,nofun,Be (ap _ _) hk.2 hlk⟩⟩
   .exact⟨hH,.inl ⟨rfl,eV hf _,hc,nofun,by first |exact hlk|exact aq (ap _ _) hlk|exact aq (aw _ _) hlk|exact cZ hlk|exact ai (ap _ _) hlk|exact ai (aw _ _) hlk|exact ai rfl hlk|exact aq rfl hlk⟩⟩
  case comm a b c=>exact⟨hn,hH,rfl,rfl,hf,hc,nofun,hlk⟩
  case row r a=>
   cases hn;split
   .exact⟨hH,.inl ⟨rfl,r8 hf λit hi=>(BY.1 hi).elim (λe=>e▸rfl) λhi=>hf.1 it (by grind),hc,nofun,by first |exact hlk|exact aq (ap _ _) hlk|exact aq (aw _ _) hlk|exact cZ hlk|exact ai (ap _ _) hlk|exact ai (aw _ _) hlk|exact ai rfl hlk|exact aq rfl hlk⟩⟩
   .exact⟨hH,.inl ⟨rfl,DL _ _,h0,nofun,by first |exact hlk|exact aq (ap _ _) hlk|exact aq (aw _ _) hlk|exact cZ hlk|exact ai (ap _ _) hlk|exact ai (aw _ _) hlk|exact ai rfl hlk|exact aq rfl hlk⟩⟩
  all_goals exact hn.elim
 |halt x v=>
  cases x;case unsupported u=>
   refine fH ?_;cases u;case initOrder g=>dsimp only;rw[oy T.todY (hI _ _ _ rfl)];trivial
   all_goals trivial
  all_goals refine fH ?_
  case panic v=>exact⟨hH,.inl ⟨rfl,gZ hf _,hc,nofun,by first |exact hlk|exact aq (ap _ _) hlk|exact aq (aw _ _) hlk|exact cZ hlk|exact ai (ap _ _) hlk|exact ai (aw _ _) hlk|exact ai rfl hlk|exact aq rfl hlk⟩⟩
  case goexit=>exact⟨hH,.inl ⟨rfl,gZ hf _,hc,nofun,by first |exact hlk|exact aq (ap _ _) hlk|exact aq (aw _ _) hlk|exact cZ hlk|exact ai (ap _ _) hlk|exact ai (aw _ _) hlk|exact ai rfl hlk|exact aq rfl hlk⟩⟩
  case blocked=>exact⟨hH,.inl ⟨rfl,hf,hc,nofun,by first |exact hlk|exact aq (ap _ _) hlk|exact aq (aw _ _) hlk|exact cZ hlk|exact ai (ap _ _) hlk|exact ai (aw _ _) hlk|exact ai rfl hlk|exact aq rfl hlk⟩⟩
  case waiting=>exact⟨hH,.inl ⟨rfl,hf,hc,nofun,by first |exact hlk|exact aq (ap _ _) hlk|exact aq (aw _ _) hlk|exact cZ hlk|exact ai (ap _ _) hlk|exact ai (aw _ _) hlk|exact ai rfl hlk|exact aq rfl hlk⟩⟩
  case fatal m=>exact ux hH
  case throw m=>exact rm _ _ _ _ hH
  all_goals trivial
theorem xa{d w}(T:bz P)(hd:oK d)(hw:an w)(hf:dg fr)(hc:∀c∈callers,dg c)(hlk:LK dy fr callers):ir dy (callDeferred P fr callers dy d w):=by
 refine gE trivial ?_;have hH:=cf (eH T.todY d.target d.args).st w #[] hw;have hL:=rh (eH T.todY d.target d.args).st (pY T hd d.args) w #[] hw;generalize (invoke d.target d.args).runT P w #[]=x at hH hL ⊢;obtain⟨r,e0⟩:=x;have h0:∀c∈fr::callers,dg c:=λc h1=>(BY.1 h1).elim (λe=>e▸hf) (hc c)
 have hfd:dg {fr with defers:=d::fr.defers}:=⟨hf.1,λx hx=>by
  rcases BY.1 hx with rfl|hx
  .exact hd
  .exact hf.2 x hx⟩
 cases r with
 |ok n v=>
  have hn:=hL n v e0 rfl;cases n;all_goals dsimp only
  case enter f args=>exact⟨hH,.inl ⟨rfl,mi T _ _ _,h0,nofun,by first |exact hlk|exact aq (ap _ _) hlk|exact aq (aw _ _) hlk|exact cZ hlk|exact ai (ap _ _) hlk|exact ai (aw _ _) hlk|exact ai rfl hlk|exact aq rfl hlk⟩⟩
  case round l f tmps assign body=>exact⟨hH,.inl ⟨rfl,yC _ _ _ _ _ _ hn.1 hn.2,h0,nofun,by first |exact hlk|exact aq (ap _ _) hlk|exact aq (aw _ _) hlk|exact cZ hlk|exact ai (ap _ _) hlk|exact ai (aw _ _) hlk|exact ai rfl hlk|exact aq rfl hlk⟩⟩
  case recover=>
   split
   .rename_i hx;exact⟨hH,.inl ⟨rfl,hf,lW _ _ _ _ hc hx,nofun,Be rfl (jO _ _ _ _ hx) hlk⟩⟩
   .exact⟨hH,.inl ⟨rfl,hf,hc,nofun,by first |exact hlk|exact aq (ap _ _) hlk|exact aq (aw _ _) hlk|exact cZ hlk|exact ai (ap _ _) hlk|exact ai (aw _ _) hlk|exact ai rfl hlk|exact aq rfl hlk⟩⟩
  case row r a=>
   cases hn;exact⟨hH,.inl ⟨rfl,DL _ _,h0,nofun,by first |exact hlk|exact aq (ap _ _) hlk|exact aq (aw _ _) hlk|exact cZ hlk|exact ai (ap _ _) hlk|exact ai (aw _ _) hlk|exact ai rfl hlk|exact aq rfl hlk⟩⟩
  all_goals first
   |exact hn.elim
   |exact⟨hH,.inl ⟨rfl,hf,hc,nofun,by first |exact hlk|exact aq (ap _ _) hlk|exact aq (aw _ _) hlk|exact cZ hlk|exact ai (ap _ _) hlk|exact ai (aw _ _) hlk|exact ai rfl hlk|exact aq rfl hlk⟩⟩
 |halt x v=>
  cases x;all_goals refine fH ?_
  case panic v=>exact⟨hH,.inl ⟨rfl,gZ hf _,hc,nofun,by first |exact hlk|exact aq (ap _ _) hlk|exact aq (aw _ _) hlk|exact cZ hlk|exact ai (ap _ _) hlk|exact ai (aw _ _) hlk|exact ai rfl hlk|exact aq rfl hlk⟩⟩
  case goexit=>exact⟨hH,.inl ⟨rfl,gZ hf _,hc,nofun,by first |exact hlk|exact aq (ap _ _) hlk|exact aq (aw _ _) hlk|exact cZ hlk|exact ai (ap _ _) hlk|exact ai (aw _ _) hlk|exact ai rfl hlk|exact aq rfl hlk⟩⟩
  case blocked=>exact⟨hH,.inl ⟨rfl,hfd,hc,nofun,by first |exact hlk|exact aq (ap _ _) hlk⟩⟩
  case waiting=>exact⟨hH,.inl ⟨rfl,hfd,hc,nofun,by first |exact hlk⟩⟩
  case fatal m=>exact ux hH
  case throw m=>exact rm _ _ _ _ hH
  all_goals trivial
end
section
variable{P:IN}{main:Bool}{fr:Sx}{callers:List Sx}{dy:Option Dying}
theorem q7{v w}(T:bz P)(hw:an w)(hf:dg fr)(hc:∀c∈callers,dg c)(hlk:LK dy fr callers):ir dy (doReturn P main fr callers dy v w):=by
 unfold doReturn;cases callers with
 |cons c cs=>
  have h1:=hc c (x5 ..);have h2:=λx hx=>hc x (If _ hx)
  dsimp only;split
  .exact⟨hw,.inl ⟨rfl,eV h1 _,h2,nofun,ai (ap _ _) hlk⟩⟩
  .exact⟨hw,.inl ⟨rfl,eV h1 _,h2,nofun,ai (ap _ _) hlk⟩⟩
  .exact⟨hw,.inl ⟨rfl,h1,h2,nofun,ai rfl hlk⟩⟩
  .refine⟨hw,.inl ⟨rfl,?_,h2,nofun,?_⟩⟩
   .split
    .split <;>exact h1
    omega
   .refine ai ?_ hlk;grind
 |nil=>
  cases dy with
  |some d=>
   have hk:fr.kind= .report:=hlk rfl;rw[hk];cases v<;>first
    |trivial
    |exact⟨hw,.inr ⟨⟨_,rfl,rfl⟩,nofun⟩⟩
  |none=>
   have hn:ir none (if(!main)=true then .go {frame:=fr,callers:=[],status:=.finished,dying:=none} w
    else match P.inits.idxOf? fr.fn with
     |some k=>.go {frame:=Sz P (P.initFrom (k+1)) #[] .normal,callers:=[],status:=.running,dying:=none} w
     |none=>.ended (.done v) w):=by
    refine gE ⟨hw,.inl ⟨rfl,hf,nofun,nofun,nofun⟩⟩ ?_;split
    .exact⟨hw,.inl ⟨rfl,mi T _ _ _,nofun,nofun,nofun⟩⟩
    .trivial
   cases fr.kind<;>first
    |trivial
theorem vD{b w v ds es}(hw:an w)(h:(Su b).runT P w #[]=(.ok ds v,es)):∀d∈ds,oK d:=by
 simp only[Su,getObj,setObj,bind,Sem.bind,Sem.runT]at h;cases ho:w.heap[b]? with
 |none=>grind
 |some o=>
  have h1:=hw b o ho;simp only[ho]at h;cases o;case deferred l=>
   cases l with
   |none=>cases h
   |some l=>
    simp[Sem.runT,ho]at h;obtain⟨⟨rfl,_⟩,_⟩:=h;exact h1.i.ds
  all_goals cases h
theorem Ga{w}(T:bz P)(hw:an w)(hf:dg fr)(hc:∀c∈callers,dg c)(hlk:LK dy fr callers):ir dy (unwind P main fr callers dy w):=by
 unfold unwind;cases hd:fr.defers with
 |cons d ds=>
  have hds:dg {fr with defers:=ds}:=⟨hf.1,λx hx=>hf.2 x (by rw[hd];grind)⟩;have hdd:oK d:=hf.2 d (by rw[hd];simp);obtain⟨tg,ar⟩:=d;cases tg with
  |collected block=>
   dsimp only;have hH:=cf (ql P block).st w #[] hw;have hL:=λds v es h=>vD (P:=P) (b:=block) (w:=w) (v:=v) (ds:=ds) (es:=es) hw h
   generalize (Su block).runT P w #[]=x at hH hL ⊢;obtain⟨r,e0⟩:=x;dsimp only;refine fH ?_;cases r with
   |ok l v=>
    have hl:=hL l v e0 rfl;refine⟨hH,.inl ⟨rfl,⟨hf.1,λx hx=> ?_⟩,hc,nofun,aq rfl hlk⟩⟩;rcases Sy.1 hx with hx|hx
    .exact hl x hx
    .exact hds.2 x hx
   |halt x v=>trivial
  |_=>exact xa T hdd hw hds hc (aq rfl hlk)
 |nil=>
  dsimp only;cases hm:fr.mode with
  |run=>trivial
  |panicking chain=>
   refine gE trivial ?_;cases callers with
   |cons c cs=>exact⟨hw,.inl ⟨rfl,gZ (hc c (x5 ..)) _,λx hx=>hc x (If _ hx),nofun,by first |exact hlk|exact aq (ap _ _) hlk|exact aq (aw _ _) hlk|exact cZ hlk|exact ai (ap _ _) hlk|exact ai (aw _ _) hlk|exact ai rfl hlk|exact aq rfl hlk⟩⟩
   |nil=>
    cases dy with
    |none=>
     refine gE ⟨hw,.inl ⟨rfl,hf,nofun,nofun,nofun⟩⟩ ?_;have:=nZ (xz (P:=P) chain false) hw;generalize (reportChain chain false).run P w=r at this ⊢;cases r with
     |ok a v=>exact⟨this,.inr ⟨⟨_,rfl,rfl⟩,nofun⟩⟩
     |halt x v=>cases x<;>trivial
    |some d=>
     dsimp only;split
     .unfold endPrinting;dsimp only;split
      .exact rm _ _ _ _ hw
      .trivial
     .trivial
  |returning=>
   cases hfn:P.funcs[fr.fn]? with
   |none=>exact q7 T hw hf hc hlk
   |some fn=>
    dsimp only;have hH:=cf (Ey P fn fr.tmps).st w #[] hw;generalize (results fn fr.tmps).runT P w #[]=x at hH ⊢;obtain⟨r,e0⟩:=x;refine fH ?_;cases r with
    |ok l v=>exact q7 T hH hf hc hlk
    |halt x v=>cases x<;>trivial
theorem Ef{rest it}(hf:dg fr)(ht:fr.todo=it::rest):∀x∈rest,jM x:=λx hx=>hf.1 x (by grind)
theorem dK{it l}(h:jM it)(hl:∀x∈l,jM x):∀x∈it::l,jM x:=λx hx=>(BY.1 hx).elim (λe=>e▸h) (hl x)
theorem Ie{id}:∀{k l},(∀x∈k,jM x)->exitTo id k=some l->∀x∈l,jM x:=by
 intro k;induction k with
 |nil=>intro l _ h;cases h
 |cons it k ih=>
  intro l hk h;unfold exitTo at h;grind
theorem Bw:∀b l c,cT b=true->findLabel b l=some c->cT c=true:=by
 intro b;induction b<;>intro l c h hf<;>first
  |(simp[findLabel]at hf;done)
  |skip
 case seq a b iha ihb=>
  simp[cT]at h;simp[findLabel]at hf;cases ha:findLabel a l with
  |some r=>
   rw[ha]at hf;cases hf;simp[cT];grind
  |none=>
   grind
 case label l'=>
  simp only[findLabel]at hf;split at hf
  .cases hf;rfl
  grind
theorem HQ{id}:∀{k l},(∀x∈k,jM x)->gotoIn id k=some l->∀x∈l,jM x:=by
 intro k;induction k with
 |nil=>intro l _ h;cases h
 |cons it k ih=>
  intro l hk h;unfold gotoIn at h;split at h
  .rename_i he;simp[List.cons.injEq]at he;obtain⟨h0,rfl⟩:=he;split at h
   .rename_i hfl;have hb:=hk _ (x5 ..);rw[h0]at hb;cases h;exact dK (Bw _ _ _ hb hfl) (dK hb λx hx=>hk x (If _ hx))
   grind
  .grind
  .cases h
theorem rf{w}(T:bz P)(hw:an w)(hf:dg fr)(hc:∀c∈callers,dg c)(hlk:LK dy fr callers)(l jump)(h0:∀c,jump=some c->cT c=true):ir dy (SF (seen P fr.fn ((SD l jump).runT P w #[]).2) (match((SD l jump).runT P w #[]).1 with
 | .ok v w=>doReturn P main fr callers dy v w
 | .halt _ w=>.ended (.stuck "range over a function: no such loop" (fr.pos P)) w)):=by
 have hH:=cf (jx P l jump h0).st w #[] hw;generalize (SD l jump).runT P w #[]=x at hH ⊢;obtain⟨r,e0⟩:=x;refine fH ?_;cases r with
 |ok l v=>exact q7 T hH hf hc hlk
 |halt x v=>trivial
theorem Me{o}(hf:dg fr)(ho:fr.oper?=some o):Lf o.op=true:=by
 unfold Frame.oper? at ho;split at ho
 .rename_i ops i r k ht;exact(hf.1 (.inRegion ops (i::r)) (by simp[ht])) i (x5 ..) o ho
 grind
theorem Md{w}(T:bz P)(hw:an w)(hf:dg fr)(hc:∀c∈callers,dg c)(hlk:LK dy fr callers):ir dy (stepG.oper P true fr callers dy w):=by
 unfold stepG.oper;split
 .trivial
 .rename_i o ho;split
  .exact oG T (ga _ _ _ _) (eW (iY _ _ _) λ_ _=>bX λ_=>trivial) hw hf hc hlk
  .exact oG T (gY T.todY _ _) (De T _ _ (Me hf ho)) hw hf hc hlk
theorem BC(l):Leaf P (λj=>∀c,j=some c->cT c=true) (Instr.endLoop l):=by
 refine eW (sR l) λr hr=> ?_
 split
 .exact eW (Q:=λ_=>True) (mV _) λ_ _=>bX λ_=>hr.2.2
 .exact bX λ_=>hr.2.2
theorem Mw{w}(T:bz P)(hw:an w)(hf:dg fr)(hc:∀c∈callers,dg c)(hlk:LK dy fr callers):ir dy (stepG.exec P main true fr callers dy w):=by
 have hgo:∀(todo:List Item)(ro:Option Nat),(∀x∈todo,jM x)->ir dy (.go {frame:= {fn:=fr.fn,tmps:=fr.tmps,todo,defers:=fr.defers,mode:=.returning,kind:=fr.kind,roundOf:=ro},callers,status:=.running,dying:=dy} w):=λtodo ro h=>⟨hw,.inl ⟨rfl,⟨h,hf.2⟩,hc,nofun,aq rfl hlk⟩⟩
 have hto:∀todo:List Item,(∀x∈todo,jM x)->ir dy (.go {frame:= {fr with todo},callers,status:=.running,dying:=dy} w):=λtodo h=>⟨hw,.inl ⟨rfl,r8 hf h,hc,nofun,aq rfl hlk⟩⟩
 unfold stepG.exec;dsimp only;cases ht:fr.todo with
 |nil=>
  dsimp only;cases hro:fr.roundOf with
  |none=>exact gE (hgo _ _ λx hx=>by cases hx) trivial
  |some l=>exact rf T hw hf hc hlk _ _ (by simp)
 |cons it rest=>
  have hr:=Ef hf ht;have hall:∀x∈it::rest,jM x:=by rw[<- ht];exact hf.1
  cases it with
  |code c=>
   cases c with
   |ret=>
    dsimp only;cases hro:fr.roundOf with
    |none=>exact gE (hgo _ _ hall) trivial
    |some l=>exact rf T hw hf hc hlk _ _ (by rintro c hc;cases hc;rfl)
   |skip=>exact hto _ hr
   |label l=>exact hto _ hr
   |seq a b=>
    have h0:=hall _ (x5 ..);simp only[jM,cT,SI]at h0;exact hto _ (dK h0.1 (dK h0.2 hr))
   |block id body=>exact hto _ (dK (by have h0:=hall _ (x5 ..);exact h0) (dK trivial hr))
   |loop body=>exact hto _ (dK (by have h0:=hall _ (x5 ..);exact h0) (dK (by have h0:=hall _ (x5 ..);exact h0) hr))
   |scope body=>exact hto _ (dK (by have h0:=hall _ (x5 ..);exact h0) (dK (by have h0:=hall _ (x5 ..);exact h0) hr))
   |refuse why=>trivial
   |cond c a b=>
    have h0:=hall _ (x5 ..);simp only[jM,cT,SI]at h0;dsimp only;split
    .exact hto _ (dK (by split <;>first |exact h0.1|exact h0.2) hr)
    .trivial
   |exit id=>
    dsimp only;cases he:exitTo id rest with
    |some k=>exact hto _ (Ie hr he)
    |none=>
     dsimp only[Option.elim];cases hro:fr.roundOf with
     |none=>exact gE (hgo _ _ hall) trivial
     |some l=>exact rf T hw hf hc hlk _ _ (by rintro c hc;cases hc;rfl)
   |goto id=>
    dsimp only;cases he:gotoIn id rest with
    |some k=>exact hto _ (HQ hr he)
    |none=>
     dsimp only[Option.elim];cases hro:fr.roundOf with
     |none=>exact gE (hgo _ _ hall) trivial
     |some l=>exact rf T hw hf hc hlk _ _ (by rintro c hc;cases hc;rfl)
   |rangeFunc f params assign body=>
    dsimp only;have h1:cT assign=true/\cT body=true:=by
     have h0:=hall _ (x5 ..);simpa[jM,cT]using h0
    have hH:=cf (cP P fr.fn fr.tmps params assign body fr.roundOf h1.1 h1.2).st w #[] hw;have hM:∀l mark v es,(OF fr.fn fr.tmps params assign body fr.roundOf).runT P w #[]=(.ok (l,mark) v,es)->∀d∈mark,oK d:=by
     intro l mark v es h;have hl:Leaf P (λx:Nat×List Deferred=>∀d∈x.2,oK d) (OF fr.fn fr.tmps params assign body fr.roundOf):=by
      unfold OF;cases fr.roundOf with
      |some l=>
       dsimp only;refine bX λr=> ?_
       refine eW (Q:=λx:Nat×List Deferred=>∀d∈x.2,oK d) (λd hd=>by cases hd) λx hx=> ?_
       exact bX λ_=>hx
      |none=>
       dsimp only;refine bX λr=> ?_
       refine eW (Q:=λx:Nat×List Deferred=>∀d∈x.2,oK d) λd hd=>by simp only[SE]at hd;subst hd;trivial λx hx=> ?_
       exact bX λ_=>hx
     exact rh (cP P fr.fn fr.tmps params assign body fr.roundOf h1.1 h1.2).st hl _ _ hw _ _ _ h
    generalize (OF fr.fn fr.tmps params assign body fr.roundOf).runT P w #[]=x at hH hM ⊢;obtain⟨r,e0⟩:=x;refine fH ?_;cases r with
    |halt x v=>trivial
    |ok a v=>
     obtain⟨l,mark⟩:=a;have hm:=hM l mark v e0 rfl;refine oG T (@aX _ _ _ _ _ _ _ _ zq2 λd=>eH T.todY _ _) (eW (iY _ _ _) λd hd=>pY T hd _) hH ⟨dK trivial hr,λd hd=> ?_⟩ hc ?_
     .rcases Sy.1 hd with hd|hd
      .exact hm d hd
      .exact hf.2 d hd
     .exact aq rfl hlk
   |region id ops draw=>
    dsimp only;have h0:=ws (hall _ (x5 ..));refine gE (hto _ (dK (h0 _) hr)) ?_;have hch:an (dh ((choose (.order fr.fn id)).run P w)):=by
     simp only[choose,Sem.run,Question.forced];exact hw
    generalize (choose (.order fr.fn id)).run P w=r at hch ⊢;cases r with
    |ok t v=>exact⟨hch,.inl ⟨rfl,r8 hf (dK (h0 _) hr),hc,nofun,by first |exact hlk|exact aq (ap _ _) hlk|exact aq (aw _ _) hlk|exact cZ hlk|exact ai (ap _ _) hlk|exact ai (aw _ _) hlk|exact ai rfl hlk|exact aq rfl hlk⟩⟩
    |halt x v=>trivial
  |inBlock id=>exact hto _ hr
  |inScope id=>exact hto _ hr
  |inLoop id=>exact hto _ (dK (by have h0:=hall _ (x5 ..);exact h0) (dK (by have h0:=hall _ (x5 ..);omega) hr))
  |inRangeFunc id=>trivial
  |beginRound=>
   exact oG T (@aX _ _ _ _ _ _ _ _ (by cases fr.roundOf with |none=>exact qN P _|some l=>exact dR P l) λ_=>zq2) (bX λ_=>trivial) hw hf hc hlk
  |call d a b c=>exact(hf.1 (.call d a b c) (by rw[ht];simp)).elim
  |extern row args=>
   have hrow:row=printRow:=hf.1 (.extern row args) (by rw[ht];simp);subst hrow;dsimp only;rw[nk];exact oG T (lj P _ _ _) (wj _ _ _) hw hf hc hlk
  |endRangeFunc l=>
   dsimp only;have hH:=cf (nW P l).st w #[] hw;have hJ:=rh (nW P l).st (BC (P:=P) l) w #[] hw;generalize (Instr.endLoop l).runT P w #[]=x at hH hJ ⊢;obtain⟨r,e0⟩:=x;refine fH ?_;cases r with
   |ok j v=>
    refine⟨hH,.inl ⟨rfl,r8 hf λx hx=> ?_,hc,nofun,by first |exact hlk|exact aq (ap _ _) hlk|exact aq (aw _ _) hlk|exact cZ hlk|exact ai (ap _ _) hlk|exact ai (aw _ _) hlk|exact ai rfl hlk|exact aq rfl hlk⟩⟩;rcases Sy.1 hx with hx|hx
    .cases j with
     |none=>cases hx
     |some j=>simp only[Option.map_some,Option.toList_some,SE]at hx;subst hx;exact hJ _ _ _ rfl _ rfl
    grind
   |halt x v=>
    cases x<;>first
     |trivial
     |exact⟨hH,.inl ⟨rfl,gZ hf _,hc,nofun,by first |exact hlk|exact aq (ap _ _) hlk|exact aq (aw _ _) hlk|exact cZ hlk|exact ai (ap _ _) hlk|exact ai (aw _ _) hlk|exact ai rfl hlk|exact aq rfl hlk⟩⟩
  |inRegion ops todo=>
   cases todo with
   |nil=>exact hto _ hr
   |cons i is=>
    exact gE (Md T hw hf hc hlk) ⟨hw,.inl ⟨rfl,eV hf _,hc,nofun,by first |exact hlk|exact aq (ap _ _) hlk|exact aq (aw _ _) hlk|exact cZ hlk|exact ai (ap _ _) hlk|exact ai (aw _ _) hlk|exact ai rfl hlk|exact aq rfl hlk⟩⟩
theorem A8{g w}(T:bz P)(hw:an w)(hj:JG g)(hd:∀d,g.dying=some d->d.calling=true):ir g.dying (stepG P main g w):=by
 obtain⟨fr,cs,st,dy,off⟩:=g;obtain⟨h1,h2,h3,h4⟩:=hj;simp[stepG];split
 .cases hd _ rfl
 .exact Mw T hw h1 h2 h4
 .exact Ga T hw h1 h2 h4
def Dz(g:AS):Prop:=Ol g\/(JG g/\∃d,g.dying=some d/\d.calling=true)
def ld:GStep->Prop
 | .go g w _=>an w/\Dz g
 | .comm g _ _ _ w _=>an w/\g.dying.isSome=true
 | .ended _ _ _=>True
 |_=>False
theorem BG{es s}(h:ld s):ld (SF es s):=by
 cases s<;>first |exact h
theorem FF(fr a m b){w}(hw:an w):ld (dieOf fr a m b w):=⟨hw,.inl ⟨⟨_,rfl,rfl⟩,nofun⟩⟩
theorem BB{w}(hw:an w)(fd t o):ld (endWith w fd t o):=by
 simp[endWith];split
 .split <;>trivial
 .trivial
 .trivial
theorem vd{v w}(hw:an w):ld (endPrinting P fr v w):=by
 simp[endPrinting];split
 .exact FF _ _ _ _ hw
 .trivial
theorem zH{d}(hd:d.calling=false)(f){w}(hw:an w):ld (writeOn P fr d f w):=by
 unfold writeOn;split
 .trivial
 .rename_i piece rest _;have H:∀s:Sem Unit,St P s->ld (match s.runT P w #[]with
   |(.ok _ w,es)=>.go {frame:=fr,callers:=[],status:=.running,dying:=some {d with fatal:=some {f with pieces:=rest,begun:=true}}} w es
   |(.halt .blocked w,_)=>.go {frame:=fr,callers:=[],status:=.blocked,dying:=some {d with fatal:=some f}} w #[]
   |(.halt (.unsupported u) w,_)=>.ended (.unsupported u "") w
   |(.halt _ w,_)=>.ended (.stuck "the report of a fatal error" "") w):=by
   intro s hs;have:=cf hs.st w #[] hw;generalize s.runT P w #[]=x at this ⊢;obtain⟨r,e0⟩:=x;cases r with
   |ok a v=>exact⟨this,.inl ⟨⟨_,rfl,hd⟩,nofun⟩⟩
   |halt x v=>
    cases x<;>first
     |trivial
     |exact⟨this,.inl ⟨⟨_,rfl,hd⟩,nofun⟩⟩
  refine H _ ?_;have hsys:∀b:ByteArray,St P (do
   match<- sys (.write 2 b)with
   | .int n=>if n !=b.size then unsupported (.noEntry "a report that its descriptor cannot take whole")
   | .err _=>pure ()
   |_=>unsupported (.noEntry "a report that its descriptor cannot take whole"):Sem Unit):=by
   intro b;refine⟨⟨⟨_,rfl,trivial⟩,λv=> ?_⟩⟩;cases v<;>first
    |trivial
    |(
     show l6 P (if _ then _ else _);split <;>trivial)
  repeat' (first
   |exact zq2
   |(refine @aX _ _ _ _ _ _ _ _ ?_ λ_=> ?_)
   |(refine @vI _ _ _ _ _ _ _ _ _ ?_ ?_))
theorem Kv{d}(T:bz P)(hd:d.calling=false){w}(hw:an w):ld (die P fr d w):=by
 unfold die;split
 .exact zH hd _ hw
 .split
  .split
   .exact⟨hw,.inl ⟨⟨_,rfl,hd⟩,nofun⟩⟩
   .exact BB hw _ _ _
  .split
   .exact⟨hw,.inl ⟨⟨_,rfl,hd⟩,nofun⟩⟩
   .rename_i s _;have:=nZ (xy (P:=P) s) hw;generalize (withAddress s).run P w=r at this ⊢;cases r with
    |ok a u=>exact⟨this,.inl ⟨⟨_,rfl,hd⟩,nofun⟩⟩
    |halt x u=>trivial
   .rename_i t recv name _;have hH:=cf (eH T.todY (.fn (.method name) #[]) #[.iface t recv]).st w #[] hw;generalize (invoke (.fn (.method name) #[]) #[.iface t recv]).runT P w #[]=x at hH ⊢;obtain⟨r,e0⟩:=x;refine BG ?_;split
    .exact⟨hH,.inr ⟨⟨mi T _ _ _,nofun,nofun,λ_=>rfl⟩,_,rfl,rfl⟩⟩
    .exact⟨hH,.inl ⟨⟨_,rfl,hd⟩,nofun⟩⟩
    .trivial
    .exact vd hH
    .trivial
   .trivial
theorem Ew{g w}(T:bz P)(hw:an w)(hz:Dz g):ld (stepG P main g w):=by
 rcases hz with⟨⟨d,h1,h2⟩,h3⟩|⟨hj,d,h1,h2⟩
 .obtain⟨fr,cs,st,dy,off⟩:=g;subst h1;obtain⟨a,b,c,e,f,i,j⟩:=d;subst h2;exact Kv (P:=P) T rfl hw
 .have:=A8 (main:=main) T hw hj λd' h=>by grind
  revert this;rw[h1];cases stepG P main g w with
  |go g' w' es=>
   rintro⟨h0,⟨h3,h4⟩|h3⟩
   .exact⟨h0,.inr ⟨h4,d,h3,h2⟩⟩
   .exact⟨h0,.inl h3⟩
  |comm g' a b c w' es=>rintro⟨_,h0,h3,_,_⟩;exact⟨h0,by simp[h3]⟩
  |_=>exactλh=>h
end
end
section
open Go.Conc
variable[aD]
def dV:Rest:= {timers:=#[],alone:=none,slice:=none}
theorem cE(P h k v):finishPartner P #[ph] h k v=#[ph]:=by
 unfold finishPartner;apply Array.ext_getElem?;intro i;rw[Array.getElem?_modify];split
 .cases hi: #[ph][i]? with
  |none=>rfl
  |some x=>
   have:x=ph:=by
    grind
   subst this;rfl
 rfl
theorem cV(r b):partners #[ph] r b=[]:=partners_nil λj g hj=>by
 cases j with
 |zero=>simp at hj;subst hj;rfl
 |succ j=>simp at hj
theorem Hx{g}(h:JG g)(v):JG {g with frame:=g.frame.finish v,status:=.running,offers:=none}:=
 ⟨eV h.1 v,h.2.1,nofun,aq (ap _ _) h.2.2.2⟩
theorem K4{g}(h:JG g)(vs)(hs:g.status= .running):JG {g with frame:=g.frame.raise vs}:=
 ⟨gZ h.1 vs,h.2.1,h.2.2.1,aq (aw _ _) h.2.2.2⟩
def IV(g:AS)(w:By)(s:Stepped):Prop:=
 match s with
 | .next m=>∃g' w',m=oneG g' w'/\g'.dying=g.dying/\(g'.status= .running\/g'.status= .blocked)/\(JG g->JG g')/\(an w->an w')
 | .ended _ _=>True
theorem BL{P g}(hst:g.status= .running)(cases blocking shape w):IV g w (AT P dV #[ph] 0 g cases blocking shape w).1:=by
 have hput:∀(w1 w2:By)(v:Value),(an w->an w2)->IV g w (.next {world:=w2,gs:=(#[ph]:Array AS).setIfInBounds 0 {g with frame:=g.frame.finish v,status:=.running,offers:=none},rest:=dV}):=
  λw1 w2 v h=>⟨_,w2,rfl,rfl,.inl rfl,λhj=>Hx hj v,h⟩
 unfold AT;dsimp only;split
 .trivial
 split
 .split
  .split
   .rename_i w1 hw1;have:w1=w:=by
     unfold waitingAt at hw1;have ht:timerAhead dV w.os.mono cases=false:=timerAhead_crowd #[] w none w.os.mono cases;rw[ht]at hw1;grind
    subst this;exact⟨_,_,rfl,rfl,.inr rfl,λhj=>⟨hj.1,hj.2.1,nofun,hj.2.2.2⟩,id⟩
   .trivial
  .exact hput w _ _ id
 .split
  .trivial
  .rename_i k c way w1 heq;have hh:an w->an w1:=λhw=>by
    have h2:=congrArg (λr=>an (dh r)) heq;dsimp only[dh]at h2;rw[<- h2];refine nZ (P:=P) ?_ hw;repeat' (first
     |exact zq2
     |(refine @aX _ _ _ _ _ _ _ _ ?_ λ_=> ?_)
     |split
     |dsimp only)
   split
   .split
    .rename_i heq2;have h0:an w->an _:=λhw=>by
      have h2:an (dh (Sem.run P (runtimePanic (.plain "send on closed channel"):Sem Unit) w1)):=nZ (P:=P) zq2 (hh hw);rw[heq2]at h2;exact h2
     exact⟨_,_,rfl,rfl,.inl hst,λhj=>K4 hj _ hst,h0⟩
    .trivial
   .exact hput w _ _ hh
   .exact hput w _ _ λhw=>eE (hh hw) trivial
   .simp only[cV];exact hput w _ _ λhw=>eE (hh hw) trivial
   .simp only[cE];exact hput w _ _ λhw=>eE (hh hw) trivial
   .simp only[cE];exact hput w _ _ λhw=>eE (hh hw) trivial
   .trivial
section
variable{P:IN}
theorem F6{g w}(hs:g.status≠.running)(hz:∀t,g.status≠.sleeping t):∀m,step P (oneG g w)= .next m->m=oneG g w:=by
 obtain⟨fr,cs,st,dy,off⟩:=g;intro m h;dsimp only at hs hz;cases st with
 |running=>exact absurd rfl hs
 |sleeping t=>exact absurd rfl (hz t)
 |waiting=>
  simp[step,stepT,move,ask,askOn,oneG,runnable_eq,due,ahead,Goroutine.canRun,List.range_succ,pure,Sem.run]at h;exact h.symm
 |blocked=>
  exfalso;obtain⟨o',w',he,ho⟩:=endWith_ended w 2 (bytes "fatal error: all goroutines are asleep - deadlock!\n") (.fatal "all goroutines are asleep - deadlock!");simp[step,stepT,move,ask,askOn,oneG,runnable_eq,due,ahead,Goroutine.canRun,List.range_succ,pure,Sem.run]at h;rw[he]at h;cases h
 |parked=>
  exfalso;obtain⟨o',w',he,ho⟩:=endWith_ended w 2 (bytes "fatal error: all goroutines are asleep - deadlock!\n") (.fatal "all goroutines are asleep - deadlock!");simp[step,stepT,move,ask,askOn,oneG,runnable_eq,due,ahead,Goroutine.canRun,List.range_succ,pure,Sem.run]at h;rw[he]at h;cases h
 |finished=>
  exfalso;obtain⟨o',w',he,ho⟩:=endWith_ended w 2 (bytes "fatal error: no goroutines (main called runtime.Goexit) - deadlock!\n") (.fatal "no goroutines (main called runtime.Goexit) - deadlock!");simp[step,stepT,move,ask,askOn,oneG,runnable_eq,due,ahead,Goroutine.canRun,List.range_succ,pure,Sem.run]at h;rw[he]at h;cases h
theorem Ha{g w}(hs:g.status≠.running)(hz:∀t,g.status≠.sleeping t):∀n m,runN P n (oneG g w)= .next m->m=oneG g w:=by
 intro n;induction n with
 |zero=>simp[runN]
 |succ n ih=>
  intro m h;simp[runN]at h;cases hst:step P (oneG g w)with
  |next m'=>
   have:=F6 hs hz m' hst;grind
  |ended o w'=>rw[hst]at h;cases h
end
structure ya(f:By->GStep)(w:By)(g':AS)(cs:Array CommCase)(bl:Bool)(sh:CommShape)(w':By)(es:Array Event)(k m:Nat):Prop where
 le:k<=m
 tape:w'.tape=w.tape
 drawn:w'.drawn=w.drawn+m
 shift:∀τ d,Agree k w τ d->f (ah w τ d)= .comm g' cs bl sh (ah w' τ (d+m)) es
section
variable{P:IN}{main:Bool}{fr:Sx}{callers:List Sx}{dy:Option Dying}{w w':By}{g':AS}{cs:Array CommCase}{bl:Bool}{sh:CommShape}{es:Array Event}
theorem bC{e s}(h:SF e s= .comm g' cs bl sh w' es):∃e2,s= .comm g' cs bl sh w' e2/\es=e++e2:=by
 cases s<;>first |cases h
 simp
theorem wW{g}(h:early P fr callers dy g w= .comm g' cs bl sh w' es):False:=by
 unfold early at h;grind
theorem mM{m}(h:endFatal P fr callers dy m w= .comm g' cs bl sh w' es):False:=by
 simp[endFatal]at h;split at h<;>cases h
theorem mN{v}(h:doReturn P main fr callers dy v w= .comm g' cs bl sh w' es):False:=by
 unfold doReturn at h;grind
theorem ny{s}[hs:St P s](hw:an w)(h:stepG.apply P true fr callers dy s w= .comm g' cs bl sh w' es):
 ∃k m,ya (λw=>stepG.apply P true fr callers dy s w) w g' cs bl sh w' es k m:=by
 rcases dx (P:=P) (s:=s) hw #[]with⟨k,m,hk,hL⟩|⟨x0,wx,hx,hdd⟩
 .have h1:=hL.tape;have h2:=hL.drawn;have h3:=hL.shift;clear hL;unfold stepG.apply at h;simp only[if_true]at h;generalize hr:s.runT P w #[]=x at h h1 h2 h3;obtain⟨r,e0⟩:=x;cases r with
  |ok n v=>
   cases n;case comm a b c=>
    dsimp only at h h1 h2 h3;obtain⟨e2,h4,rfl⟩:=bC h;cases h4;exact⟨k,m,hk,h1,h2,λτ d ha=>by simp only[stepG.apply,if_true,h3 τ d ha,cK];rfl⟩
   all_goals
    dsimp only at h;obtain⟨e2,h4,_⟩:=bC h;exfalso;first
     |(cases h4;done)
     |(
      repeat' split at h4
      all_goals cases h4)
  |halt x v=>
   exfalso;cases x;case unsupported u=>
    cases u;case initOrder g=>
     dsimp only at h;obtain⟨e2,h4,_⟩:=bC h;exact wW h4
    all_goals
     obtain⟨e2,h4,_⟩:=bC h;cases h4
   case fatal c=>
    obtain⟨e2,h4,_⟩:=bC h;exact mM h4
   all_goals
    obtain⟨e2,h4,_⟩:=bC h;cases h4
 .unfold stepG.apply at h;generalize s.runT P w #[]=y at h hx;obtain⟨r,e0⟩:=y;subst hx;cases x0;case unsupported u=>
   cases u<;>first
    |exact hdd.elim
    |(obtain⟨e2,h4,_⟩:=bC h;cases h4)
  all_goals first
   |exact hdd.elim
   |(obtain⟨e2,h4,_⟩:=bC h;cases h4)
theorem tW{d}(h:callDeferred P fr callers dy d w= .comm g' cs bl sh w' es):False:=by
 unfold callDeferred at h;rcases kt h with⟨hc,h⟩|⟨hc,h⟩
 .cases h
 generalize (invoke d.target d.args).runT P w #[]=x at h;obtain⟨r,e0⟩:=x;cases r with
 |ok n v=>
  cases n;case alone on u=>cases on<;>(obtain⟨e2,h4,_⟩:=bC h;cases h4)
  case coroswitch c ex=>cases ex<;>(obtain⟨e2,h4,_⟩:=bC h;cases h4)
  all_goals
   dsimp only at h;obtain⟨e2,h4,_⟩:=bC h;first
    |(cases h4;done)
    |(grind)
 |halt x v=>
  cases x;case fatal c=>
   obtain⟨e2,h4,_⟩:=bC h;exact mM h4
  all_goals
   obtain⟨e2,h4,_⟩:=bC h;cases h4
theorem pJ(h:unwind P main fr callers dy w= .comm g' cs bl sh w' es):False:=by
 unfold unwind at h;split at h
 .obtain⟨e2,h4,_⟩:=bC h<;>grind
 .exact tW h
 .split at h
  .cases h
  .rcases kt h with⟨hc,h⟩|⟨hc,h⟩
   .cases h
   .split at h
    .cases h
    .split at h
     .grind
     .split at h
      .simp[endPrinting]at h;split at h<;>cases h
      .cases h
  .split at h
   .exact mN h
   .generalize (results _ _).runT P w #[]=x at h;obtain⟨r,e0⟩:=x;obtain⟨e2,h4,_⟩:=bC h;cases r with
    |ok a v=>exact mN h4
    |halt x v=>cases x<;>cases h4
theorem H8(T:bz P)(hw:an w)(h:stepG.oper P true fr callers dy w= .comm g' cs bl sh w' es):
 ∃k m,ya (λw=>stepG.oper P true fr callers dy w) w g' cs bl sh w' es k m:=by
 unfold stepG.oper at h;cases ho:fr.oper? with
 |none=>rw[ho]at h;cases h
 |some o=>
  simp[ho]at h;suffices H:∀s,St P s->stepG.apply P true fr callers dy s w= .comm g' cs bl sh w' es->(∀u,stepG.oper P true fr callers dy u=stepG.apply P true fr callers dy s u)->∃k m,ya (λw=>stepG.oper P true fr callers dy w) w g' cs bl sh w' es k m by
   cases hr:fr.roundOf with
   |none=>
    simp[hr]at h;exact H _ (by first |exact gY T.todY _ _) h λu=>by simp_all[stepG.oper]
   |some l=>
    cases hop:o.op with
    |defer c=>
     simp[hr,hop]at h;exact H _ (by first |exact ga _ _ _ _) h λu=>by simp_all[stepG.oper]
    |_=>
     simp[hop]at h;exact H _ (by first |exact gY T.todY _ _) h λu=>by simp[stepG.oper,ho,hop]
  intro s hS hs hu;obtain⟨k,m,l,a,b,c⟩:=ny (hs:=hS) hw hs;exact⟨k,m,l,a,b,λτ d ha=>(hu _).trans (c τ d ha)⟩
theorem nj{l jump}(h:SF (seen P fr.fn ((SD l jump).runT P w #[]).2) (match((SD l jump).runT P w #[]).1 with
 | .ok v w=>doReturn P main fr callers dy v w
 | .halt _ w=>.ended (.stuck "range over a function: no such loop" (fr.pos P)) w)= .comm g' cs bl sh w' es):False:=by
 generalize (SD l jump).runT P w #[]=x at h;obtain⟨r,e0⟩:=x;obtain⟨e2,h4,_⟩:=bC h;cases r with
 |ok a v=>exact mN h4
 |halt x v=>cases h4
theorem Ig(T:bz P)(hw:an w)(hj:dg fr)(h:stepG.exec P main true fr callers dy w= .comm g' cs bl sh w' es):
 ∃k m,ya (λw=>stepG.exec P main true fr callers dy w) w g' cs bl sh w' es k m:=by
 cases ht:fr.todo with
 |nil=>
  exfalso;unfold stepG.exec at h;simp only[ht]at h;cases hr:fr.roundOf with
  |none=>grind
  |some l=>simp only[hr]at h;exact nj h
 |cons it rest=>
  cases it with
  |code c=>
   cases c with
   |rangeFunc f params assign body=>
    unfold stepG.exec at h;simp only[ht]at h;have h0:cT assign=true/\cT body=true:=by
     have:=hj.1 (.code (.rangeFunc f params assign body)) (by rw[ht];simp);simpa[jM,cT]using this
    have hH:=cf (cP P fr.fn fr.tmps params assign body fr.roundOf h0.1 h0.2).st w #[] hw;rcases dx (P:=P) (s:=OF fr.fn fr.tmps params assign body fr.roundOf) (hs:=cP P fr.fn fr.tmps params assign body fr.roundOf h0.1 h0.2) hw #[]with⟨k,m,hk,hL⟩|⟨x0,wx,hx,hdd⟩
    rotate_left
    .exfalso;generalize (OF fr.fn fr.tmps params assign body fr.roundOf).runT P w #[]=y at h hx;obtain⟨r,e0⟩:=y;dsimp only at hx;subst hx;obtain⟨e2,h4,_⟩:=bC h<;>grind
    have h1:=hL.tape;have h2:=hL.drawn;have h3:=hL.shift;clear hL;generalize hx:(OF fr.fn fr.tmps params assign body fr.roundOf).runT P w #[]=x at h h1 h2 h3 hH;obtain⟨r,e0⟩:=x;obtain⟨e2,h4,rfl⟩:=bC h;cases r with
    |halt x v=>grind
    |ok a v=>
     obtain⟨l,mark⟩:=a;dsimp only at h4 h1 h2 h3;obtain⟨k2,m2,l2,a2,b2,c2⟩:=ny (hs:= @aX _ _ _ _ _ _ _ _ zq2 λd=>eH T.todY _ _) hH h4;refine⟨m+k2,m+m2,by omega,a2.trans h1,by rw[b2,<- Sv];grind,λτ d' ha=> ?_⟩;unfold stepG.exec;simp only[ht,h3 τ d' (ha.le (by omega)),cK];have:=c2 τ (d'+m) (Agree.tail (w:=w) (k:=m) ha (by omega) h1 h2);dsimp only[dh]at this;rw[this,<- Sv];rfl
   |region id ops draw=>
    exfalso;unfold stepG.exec at h;grind
   |ret=>
    exfalso;unfold stepG.exec at h;simp only[ht]at h;cases hr:fr.roundOf with
    |none=>grind
    |some l=>simp only[hr]at h;exact nj h
   |exit id=>
    exfalso;unfold stepG.exec at h;simp only[ht]at h;cases he:exitTo id rest with
    |some k=>grind
    |none=>
     simp only[he,Option.elim]at h;cases hr:fr.roundOf with
     |none=>grind
     |some l=>simp only[hr]at h;exact nj h
   |goto id=>
    exfalso;unfold stepG.exec at h;simp only[ht]at h;cases he:gotoIn id rest with
    |some k=>grind
    |none=>
     simp only[he,Option.elim]at h;cases hr:fr.roundOf with
     |none=>grind
     |some l=>simp only[hr]at h;exact nj h
   |cond c thn els=>
    exfalso;unfold stepG.exec at h;grind
   |_=>
    exfalso;unfold stepG.exec at h;simp only[ht]at h;cases h
  |beginRound=>
   have hU:∀u,stepG.exec P main true fr callers dy u=stepG.apply P true fr callers dy (do fr.roundOf.elim (stuck "beginRound: no round") Instr.beginRound;pure .skip) u:=λu=>by simp_all[stepG.exec]
   rw[hU]at h;obtain⟨k,m,l,a,b,c⟩:=ny (hs:= @aX _ _ _ _ _ _ _ _ (by cases fr.roundOf with |none=>exact qN P _|some l=>exact dR P l) λ_=>zq2) hw h;exact⟨k,m,l,a,b,λτ d ha=>(hU _).trans (c τ d ha)⟩
  |call d a b c=>exact(hj.1 (.call d a b c) (by rw[ht];simp)).elim
  |extern row args=>
   have hrow:row=printRow:=hj.1 (.extern row args) (by rw[ht];simp);subst hrow;have hU:∀u,stepG.exec P main true fr callers dy u=stepG.apply P true fr callers dy (Extern.PrintPieces.piece #[] #[] args) u:=λu=>by simp_all[nk,Option.elim,stepG.exec]
   rw[hU]at h;obtain⟨k,m,l,a,b,c⟩:=ny (hs:=lj P _ _ _) hw h;exact⟨k,m,l,a,b,λτ d ha=>(hU _).trans (c τ d ha)⟩
  |endRangeFunc l=>
   exfalso;unfold stepG.exec at h;simp only[ht]at h;generalize (Instr.endLoop l).runT P w #[]=x at h;obtain⟨r,e0⟩:=x;obtain⟨e2,h4,_⟩:=bC h<;>grind
  |inRegion ops todo=>
   cases todo with
   |nil=>
    simp_all[stepG.exec,h]
   |cons i is=>
    cases hwn:(ops[i]?.map (Region.wanted · (yielded ops fr.tmps))).getD false with
    |true=>
     have hU:∀u,stepG.exec P main true fr callers dy u=stepG.oper P true fr callers dy u:=λu=>by simp_all[if_true,stepG.exec]
     rw[hU]at h;obtain⟨k,m,l,a,b,c⟩:=H8 T hw h;exact⟨k,m,l,a,b,λτ d ha=>(hU _).trans (c τ d ha)⟩
    |false=>
     simp_all[Bool.false_eq_true,if_false,stepG.exec,h]
  |_=>
   exfalso;unfold stepG.exec at h;simp only[ht]at h;cases h
theorem BH{d}(h:die P fr d w= .comm g' cs bl sh w' es):False:=by
 unfold die at h;split at h
 .unfold writeOn at h;grind
 .split at h
  .rcases kt h with⟨_,h⟩|⟨_,h⟩
   .cases h
   .unfold endWith at h;grind
  .split at h
   .cases h
   .split at h<;>cases h
   .obtain⟨e2,h4,_⟩:=bC h;split at h4
    .cases h4
    .cases h4
    .cases h4
    .simp[endPrinting]at h4;split at h4<;>cases h4
    grind
   .cases h
theorem stepG_comm{g}(T:bz P)(hw:an w)(hj:(∀d,g.dying=some d->d.calling=true)->dg g.frame)(h:stepG P main g w= .comm g' cs bl sh w' es):
 ∃k m,ya (λw=>stepG P main g w) w g' cs bl sh w' es k m:=by
 obtain⟨fr,cl,st,dy,off⟩:=g;have h0:(∀d,dy=some d->d.calling=true)->∃k m,ya (λw=>stepG P main ⟨fr,cl,st,dy,off⟩ w) w g' cs bl sh w' es k m:=by
  intro hl;cases hm:fr.mode with
  |run=>
   have hU:∀u,stepG P main ⟨fr,cl,st,dy,off⟩ u=stepG.exec P main true fr cl dy u:=λu=>by
    unfold stepG;grind
   rw[hU]at h;obtain⟨k,m,l,a,b,c⟩:=Ig T hw (hj hl) h;exact⟨k,m,l,a,b,λτ d ha=>(hU _).trans (c τ d ha)⟩
  |returning=>
   exfalso;have hU:stepG P main ⟨fr,cl,st,dy,off⟩ w=unwind P main fr cl dy w:=by
    unfold stepG;grind
   rw[hU]at h;exact pJ h
  |panicking chain=>
   exfalso;have hU:stepG P main ⟨fr,cl,st,dy,off⟩ w=unwind P main fr cl dy w:=by
    unfold stepG;grind
   rw[hU]at h;exact pJ h
 cases dy with
 |none=>exact h0 λd hd=>by cases hd
 |some d=>
  cases hc:d.calling with
  |true=>exact h0 λd' hd=>by grind
  |false=>
   exfalso;obtain⟨a,b,c,e,f,i,j⟩:=d;subst hc;exact BH (P:=P) h
end
theorem iU(w τ d gs):ways (ah w τ d) gs=ways w gs:=rfl
theorem tZ(cases w):waitingAt dV cases w=some w:=by
 simp[waitingAt,show timerAhead dV w.os.mono cases=false from timerAhead_crowd #[] w none w.os.mono cases]
theorem JB{α P}{s:Sem α}{w w1 a}(hs:St P s)(hw:an w)(h:s.run P w= .ok a w1):
 ∃k m,k<=m/\w1.tape=w.tape/\w1.drawn=w.drawn+m/\∀τ d,Agree k w τ d->s.run P (ah w τ d)= .ok a (ah w1 τ (d+m)):=by
 rcases dx (P:=P) (s:=s) hw #[]with⟨k,m,hk,hL⟩|⟨x0,wx,hx,hdd⟩
 .obtain⟨h1,h2,h3⟩:=tD hL h;exact⟨k,m,hk,h1,h2,h3⟩
 simp_all
theorem BK{P g g2 cases bl sh w w2}(hw:an w)(h:(AT P dV #[ph] 0 g cases bl sh w).1= .next (oneG g2 w2)):
 ∃k m,k<=m/\w2.tape=w.tape/\w2.drawn=w.drawn+m/\∀τ d,Agree k w τ d->(AT P dV #[ph] 0 g cases bl sh (ah w τ d)).1= .next (oneG g2 (ah w2 τ (d+m))):=by
 have hput:∀(a:AS)(u:By)(ops:Array MemOp),((Stepped.next {world:=u,gs:=(#[ph]:Array AS).setIfInBounds 0 a,rest:=dV},ops):Stepped×Array MemOp).1= .next (oneG a u):=λa u ops=>rfl
 have hone:∀{a b:AS}{u v:By},Stepped.next (oneG a u)= .next (oneG b v)->a=b/\u=v:=by
  intro a b u v h;simp only[oneG,Stepped.next.injEq,Machine.mk.injEq,Array.mk.injEq,List.cons.injEq,and_true]at h;exact⟨h.2,h.1⟩
 unfold AT at h;dsimp only at h;split at h
 .cases h
 .rename_i h0;split at h
  .rename_i hr;split at h
   .rename_i hb;rw[tZ]at h;obtain⟨rfl,rfl⟩:=hone h;refine⟨0,0,Nat.le_refl _,rfl,rfl,λτ d _=> ?_⟩;unfold AT;simp only[iU,dq];rw[if_neg h0,if_pos hr,if_pos hb,tZ];rfl
   .rename_i hb;obtain⟨rfl,rfl⟩:=hone h;refine⟨0,0,Nat.le_refl _,rfl,rfl,λτ d _=> ?_⟩;unfold AT;simp only[iU,dq];rw[if_neg h0,if_pos hr,if_neg hb];rfl
  .rename_i hr;split at h
   .cases h
   .rename_i k c way w1 heq;obtain⟨k0,m0,hk,h1,h2,h3⟩:=JB (P:=P) (hs:=by
     repeat' (first
      |exact zq2
      |(refine @aX _ _ _ _ _ _ _ _ ?_ λ_=> ?_)
      |split
      |dsimp only)) hw heq
    have hp0:∀u:By,(runtimePanic (.plain "send on closed channel"):Sem Unit).run P u= .halt (.panic (.iface P.rt.plainError (strVal "send on closed channel"))) u:=λu=>rfl
    obtain⟨ch,sd,z⟩:=c;cases ch;case chan oc=>
     cases oc with
     |some r=>
      dsimp only at h;cases ho:w1.heap[r]? with
      |none=>
       cases way<;>cases sd<;>simp only[ho,hp0]at h<;>first
        |(cases h;done)
        |(
         obtain⟨rfl,rfl⟩:=hone h;refine⟨k0,m0,hk,h1,h2,λτ d ha=> ?_⟩;unfold AT;simp only[iU,dq];rw[if_neg h0,if_neg hr,h3 τ d ha];dsimp only[cK];try simp only[dq,ho,hp0,cV,cE]
         rfl)
      |some o=>
       cases o;all_goals
        cases way<;>cases sd<;>simp only[ho,hp0,cV,cE]at h<;>first
         |(cases h;done)
         |(
          obtain⟨rfl,rfl⟩:=hone h;refine⟨k0,m0,hk,h1,h2,λτ d ha=> ?_⟩;unfold AT;simp only[iU,dq];rw[if_neg h0,if_neg hr,h3 τ d ha];dsimp only[cK];try simp only[dq,ho,hp0,cV,cE]
          rfl)
     |none=>
      dsimp only at h;cases ho:w1.heap[0]? with
      |none=>
       cases way<;>cases sd<;>simp only[ho,hp0]at h<;>first
        |(cases h;done)
        |(
         obtain⟨rfl,rfl⟩:=hone h;refine⟨k0,m0,hk,h1,h2,λτ d ha=> ?_⟩;unfold AT;simp only[iU,dq];rw[if_neg h0,if_neg hr,h3 τ d ha];dsimp only[cK];try simp only[dq,ho,hp0,cV,cE]
         rfl)
      |some o=>
       cases o;all_goals
        cases way<;>cases sd<;>simp only[ho,hp0,cV,cE]at h<;>first
         |(cases h;done)
         |(
          obtain⟨rfl,rfl⟩:=hone h;refine⟨k0,m0,hk,h1,h2,λτ d ha=> ?_⟩;unfold AT;simp only[iU,dq];rw[if_neg h0,if_neg hr,h3 τ d ha];dsimp only[cK];try simp only[dq,ho,hp0,cV,cE]
          rfl)
    all_goals
     dsimp only at h;cases ho:w1.heap[0]? with
     |none=>
      cases way<;>cases sd<;>simp only[ho,hp0]at h<;>first
       |(cases h;done)
       |(
        obtain⟨rfl,rfl⟩:=hone h;refine⟨k0,m0,hk,h1,h2,λτ d ha=> ?_⟩;unfold AT;simp only[iU,dq];rw[if_neg h0,if_neg hr,h3 τ d ha];dsimp only[cK];try simp only[dq,ho,hp0,cV,cE]
        rfl)
     |some o=>
      cases o;all_goals
       cases way<;>cases sd<;>simp only[ho,hp0,cV,cE]at h<;>first
        |(cases h;done)
        |(
         obtain⟨rfl,rfl⟩:=hone h;refine⟨k0,m0,hk,h1,h2,λτ d ha=> ?_⟩;unfold AT;simp only[iU,dq];rw[if_neg h0,if_neg hr,h3 τ d ha];dsimp only[cK];try simp only[dq,ho,hp0,cV,cE]
         rfl)
end
section
variable[aD]
section
variable{P:IN}{main:Bool}{fr:Sx}{cs:List Sx}{dy:Option Dying}{w:By}{τ:Nat->No->Nat}{d:Nat}
theorem Df(m):(endFatal P fr cs dy m w).es=#[]:=by
 simp[endFatal];split <;>rfl
theorem FD(fd t o):(endWith w fd t o).es=#[]:=by
 unfold endWith;repeat' split
 all_goals rfl
end
end
section
open Go.Conc
variable[aD]
def Big(_:Array Event):Prop:=False
inductive gT(P:IN)(g:AS)(w:By):AS->By->Array Event->Prop
 |go {g' w' es}:stepG P true g w= .go g' w' es->gT P g w g' w' es
 |comm {g1 cs bl sh w1 es g' w'}:stepG P true g w= .comm g1 cs bl sh w1 es->(AT P dV #[ph] 0 g1 cs bl sh w1).1= .next (oneG g' w')->gT P g w g' w' es
inductive Tree(P:IN)(K:AS->By->Prop):AS->By->Prop
 |stop {g w}:K g w->Tree P K g w
 |step {g w} (G:(Nat->No->Nat)->Nat->AS) (W:(Nat->No->Nat)->Nat->By) (E:(Nat->No->Nat)->Nat->Array Event):g.status= .running->
  (∀τ d,¬ Big (stepG P true g (ah w τ d)).es->gT P g (ah w τ d) (G τ d) (W τ d) (E τ d))->(∀τ d,¬ Big (stepG P true g (ah w τ d)).es->Tree P K (G τ d) (W τ d))->Tree P K g w
def Iv(g:AS)(w:By):Prop:=an w/\(Ol g\/(JG g/\∀d,g.dying=some d->d.calling=true))
def C8(P:IN)(K:AS->By->Prop)(n:Nat)(g:AS)(w:By):Prop:=∃g' w',runN P n (oneG g w)= .next (oneG g' w')/\K g' w'
def yZ(P:IN)(K:AS->By->Prop)(g:AS)(w:By):Prop:=∃n,C8 P K n g w
section
variable{P:IN}
theorem A7{g g' w w' es}(hs:g.status= .running)(h:stepG P true g w= .go g' w' es):stepT P (oneG g w)=(.next (oneG g' w'),SC 0 g.frame.fn g.frame.place es):=by
 rw[stepT,move_oneG hs];simp[runT,oneG,h,SM]
theorem vH{g g1 w w1 cs bl sh es}(hs:g.status= .running)(h:stepG P true g w= .comm g1 cs bl sh w1 es):
 stepT P (oneG g w)=((AT P dV #[ph] 0 g1 cs bl sh w1).1,SC 0 g.frame.fn g.frame.place es++(AT P dV #[ph] 0 g1 cs bl sh w1).2):=by
 rw[stepT,move_oneG hs];simp[runT,oneG,h,SM,dV,ph]
theorem Cn{g w w1 o es}(hs:g.status= .running)(h:stepG P true g w= .ended o w1 es):
 stepT P (oneG g w)=(.ended o w1,SC 0 g.frame.fn g.frame.place es):=by
 rw[stepT,move_oneG hs];simp[runT,oneG,h,SM]
theorem yz{g g' w w' es}(hs:g.status= .running)(h:gT P g w g' w' es):∃ops,stepT P (oneG g w)=(.next (oneG g' w'),ops):=by
 cases h with
 |go h=>exact⟨_,A7 hs h⟩
 |comm h h2=>exact⟨_,(vH hs h).trans (by rw[h2])⟩
theorem uS{a b u v}(h:oneG a u=oneG b v):a=b/\u=v:=by
 simp_all[oneG]
theorem wI{g w}(hI:Iv g w):(∀d,g.dying=some d->d.calling=true)->dg g.frame:=λh=>by
 rcases hI.2 with⟨⟨d,hd,hc⟩,_⟩|⟨hj,_⟩
 .have:=h d hd;rw[hc]at this;cases this
 .exact hj.1
theorem ou(T:bz P){g w}(hI:Iv g w):(∃g' w' es,stepG P true g w= .go g' w' es/\Iv g' w'/\∀t,g'.status≠.sleeping t)\/(∃g1 cs bl sh w1 es,stepG P true g w= .comm g1 cs bl sh w1 es/\(Iv g1 w1/\g1.status= .running)/\aD.cm)\/∃o w1 es,stepG P true g w= .ended o w1 es:=by
 obtain⟨hw,hI⟩:=hI;rcases hI with hd|⟨hj,hc⟩
 .have h:=Ew (P:=P) (main:=true) T hw (.inl hd);cases hs:stepG P true g w with
  |go g' w' es=>
   rw[hs]at h;refine .inl ⟨g',w',es,rfl,⟨h.1,h.2.imp id λ⟨hj,d,hd,hc⟩=>⟨hj,λd' hd'=>by grind⟩⟩,?_⟩;rcases h.2 with h|h
   .exact h.2
   .exact h.1.2.2.1
  |ended o w1 es=>exact .inr (.inr ⟨o,w1,es,rfl⟩)
  |comm g1 cs bl sh w1 es=>
   exfalso;obtain⟨⟨d,hd1,hd2⟩,_⟩:=hd;obtain⟨fr,cl,st,dy,off⟩:=g;subst hd1;obtain⟨a,b,c,e,f,i,j⟩:=d;subst hd2;exact BH (P:=P) hs
  |_=>rw[hs]at h;exact h.elim
 .have h:=A8 (P:=P) (main:=true) T hw hj hc;cases hs:stepG P true g w with
  |go g' w' es=>
   rw[hs]at h;refine .inl ⟨g',w',es,rfl,⟨h.1,?_⟩,?_⟩
   .rcases h.2 with⟨h1,h2⟩|h2<;>grind
   .rcases h.2 with⟨h1,h2⟩|h2
    .exact h2.2.2.1
    .exact h2.2
  |ended o w1 es=>exact .inr (.inr ⟨o,w1,es,rfl⟩)
  |comm g1 cs bl sh w1 es=>
   rw[hs]at h;exact .inr (.inl ⟨g1,cs,bl,sh,w1,es,rfl,⟨⟨h.2.1,.inr ⟨h.2.2.2.2,λd hd=>hc d (h.2.2.1▸hd)⟩⟩,h.2.2.2.1⟩,h.1⟩)
  |_=>rw[hs]at h;exact h.elim
theorem MF{g g' w w'}(hI:Iv g w)(hs:g.status= .running){cs bl sh}(h:(AT P dV #[ph] 0 g cs bl sh w).1= .next (oneG g' w')):
 an w'/\(g'.status= .running\/g'.status= .blocked)/\g'.dying=g.dying/\(JG g->JG g'):=by
 have hc:=BL (P:=P) hs cs bl sh w;rw[h]at hc;obtain⟨a,b,h0,h1,h2,h3,h4⟩:=hc;obtain⟨rfl,rfl⟩:=uS h0;exact⟨h4 hI.1,h2,h1,h3⟩
theorem nI(T:bz P){g g' w w' es}(hI:Iv g w)(h:gT P g w g' w' es):Iv g' w':=by
 rcases ou T hI with⟨a,b,c,h1,h2,_⟩|⟨g1,cs,bl,sh,w1,e,h1,⟨h2,h3⟩,_⟩|⟨o,w1,e,h1⟩
 .cases h with
  |go h=>grind
  |comm h _=>rw[h1]at h;cases h
 .cases h with
  |go h=>rw[h1]at h;cases h
  |comm h hc=>
   rw[h1]at h;cases h;obtain⟨k1,k2,k3,k4⟩:=MF h2 h3 hc;refine⟨k1,?_⟩;rcases h2.2 with⟨⟨d,hd,h0⟩,hz⟩|⟨hj,hd⟩
   .refine .inl ⟨⟨d,k3.trans hd,h0⟩,λt=> ?_⟩;rcases k2 with e|e<;>rw[e]<;>exact nofun
   grind
 .cases h with
  |go h=>rw[h1]at h;cases h
  |comm h _=>rw[h1]at h;cases h
theorem xR(T:bz P){g g' w w' es}(hI:Iv g w)(h:gT P g w g' w' es)(hr:g'.status= .running):
 ∃m,w'.tape=w.tape/\w'.drawn=w.drawn+m/\∀τ d,Agree m w τ d->gT P g (ah w τ d) g' (ah w' τ (d+m)) es:=by
 cases h with
 |go h=>
  obtain⟨k,m,hk,h1,h2,h3⟩:=Gm T hI.1 (wI hI) hr h;exact⟨m,h1,h2,λτ d ha=>.go (h3 τ d (ha.le hk))⟩
 |comm h hc=>
  obtain⟨k,m,hk,h1,h2,h3⟩:=stepG_comm T hI.1 (wI hI) h;rename_i gx cx bx sx wx;have hw1:an wx:=by
   rcases ou T hI with⟨_,_,_,e,_⟩|⟨g1,cs,bl,sh,w1,e,e1,⟨e2,e3⟩,_⟩|⟨_,_,_,e⟩
   .rw[h]at e;cases e
   .rw[h]at e1;cases e1;exact e2.1
   grind
  obtain⟨k2,m2,hk2,l1,l2,l3⟩:=BK hw1 hc;refine⟨m+m2,l1.trans h1,by rw[l2,h2,Sv],λτ d ha=> ?_⟩;have:=l3 τ (d+m) (Agree.tail (w:=w) (k:=m) (ha.le (by omega)) (Nat.le_refl _) h1 h2);rw[Sv]at this;exact .comm (h3 τ d (ha.le (by omega))) this
end
def From(τ:Nat->No->Nat)(d:Nat)(σ:Nat->No->Nat):Prop:=∀j q,τ (d+j) q=σ j q
section
variable{P:IN}{K:AS->By->Prop}
def rG(P:IN)(K:AS->By->Prop)(s:AS×By):Prop:=Iv s.1 s.2/\s.1.status= .running/\¬ Tree P K s.1 s.2
def ti(P:IN)(K:AS->By->Prop)(s:AS×By):Prop:=∃σ,∀τ d,From τ d σ->¬ yZ P K s.1 (ah s.2 τ d)
theorem fE{g w}(h:Iv g w)(τ d):Iv g (ah w τ d):=⟨Fi h.1 τ d,h.2⟩
theorem uW{g w}(h:C8 P K 0 g w):K g w:=by
 obtain⟨a,b,hr,hk⟩:=h;simp[runN]at hr;obtain⟨rfl,rfl⟩:=uS hr;omega
theorem uX{n g g' w w' ops}(h:stepT P (oneG g w)=(.next (oneG g' w'),ops))(hh:C8 P K (n+1) g w):C8 P K n g' w':=by
 obtain⟨a,b,hr,hk⟩:=hh;simp[runN,step,h]at hr;exact⟨a,b,hr,hk⟩
theorem JW(T:bz P)(h4:∀g w τ d,K g (ah w τ d)->K g w)(hKr:∀g w,K g w->g.status= .running){s}(hs:rG P K s){τ0 d0}
 (hn:∀g' w' es,gT P s.1 (ah s.2 τ0 d0) g' w' es->g'.status≠.running):ti P K s:=by
 obtain⟨g,w⟩:=s;obtain⟨hI,hr,hT⟩:=hs;refine⟨λj q=>τ0 (d0+j) q,λτ d hF hh=> ?_⟩;have hn':∀g' w' es,gT P g (ah w τ d) g' w' es->g'.status≠.running:=λg' w' es h hrun=>by
  obtain⟨m,_,_,h3⟩:=xR T (fE hI τ d) h hrun;have:=h3 τ0 d0 λj _ q=>(hF j q).symm
  rw[xO]at this;grind
 obtain⟨n,hN⟩:=hh;cases n with
 |zero=>exact hT (.stop (h4 _ _ _ _ (uW hN)))
 |succ n=>
  have dead:∀(g':AS)(w':By)(ops:Array MemOp),stepT P (oneG g (ah w τ d))=(.next (oneG g' w'),ops)->g'.status≠.running->(∀t,g'.status≠.sleeping t)->False:=λg' w' ops hst h1 h2=>by
   obtain⟨a,b,h0,hk⟩:=uX hst hN;have:=Ha h1 h2 _ _ h0;obtain⟨rfl,rfl⟩:=uS this<;>grind
  have gone:∀(o:Outcome)(w':By)(ops:Array MemOp),stepT P (oneG g (ah w τ d))=(.ended o w',ops)->False:=λo w' ops hst=>by
   obtain⟨a,b,h0,hk⟩:=hN;simp_all[runN,step]
  rcases ou T (fE hI τ d)with⟨a,b,c,h1,h2,h3⟩|⟨g1,cs,bl,sh,w1,e,h1,⟨h2,h3⟩,_⟩|⟨o,w1,e,h1⟩
  .exact dead _ _ _ (A7 hr h1) (hn' _ _ _ (.go h1)) h3
  .have hst:=vH hr h1;have hc:=BL (P:=P) h3 cs bl sh w1;cases hx:(AT P dV #[ph] 0 g1 cs bl sh w1).1 with
   |next m=>
    rw[hx]at hc;obtain⟨g',w',rfl,_,_,_,_⟩:=hc;have hnr:=hn' _ _ _ (.comm h1 hx);grind
   |ended o w'=>rw[hx]at hst;grind
  .exact gone _ _ _ (Cn hr h1)
theorem Hp(T:bz P)(h0:∀g w τ d,K g (ah w τ d)->K g w){s s'}(hs:rG P K s)(h1:rG P K s'){τ0 d0 es}
 (h:gT P s.1 (ah s.2 τ0 d0) s'.1 s'.2 es) (hl:ti P K s'):ti P K s:=by
 obtain⟨hI,hr,hT⟩:=hs;obtain⟨m,l1,l2,l3⟩:=xR T (fE hI τ0 d0) h h1.2.1;obtain⟨σ,hσ⟩:=hl;refine⟨λj q=>if j<m then τ0 (d0+j) q else σ (j-m) q,λτ d hF hh=> ?_⟩;have hone:=l3 τ d (λj hj q=>by
  have:=hF j q;simp_all)
 obtain⟨n,hN⟩:=hh;cases n with
 |zero=>exact hT (.stop (h0 _ _ _ _ (uW hN)))
 |succ n=>
  obtain⟨ops,hst⟩:=yz hr hone;refine hσ τ (d+m) (λj q=> ?_) ⟨n,uX hst hN⟩
  .have:=hF (m+j) q;grind
structure tu(P:IN)(K:AS->By->Prop) where
 s:Nat->AS×By
 τ:Nat->Nat->No->Nat
 d:Nat->Nat
 es:Nat->Array Event
 m:Nat->Nat
 bad:∀k,rG P K (s k)
 one:∀k τ' d',Agree (m k) (ah (s k).2 (τ k) (d k)) τ' d'->gT P (s k).1 (ah (s k).2 τ' d') (s (k+1)).1 (ah (s (k+1)).2 τ' (d'+m k)) (es k)
def upTo(m:Nat->Nat):Nat->Nat
 |0=>0
 |k+1=>upTo m k+m k
theorem yg(m){a b}(h:a<=b):upTo m a<=upTo m b:=by
 induction h with
 |refl=>exact Nat.le_refl _
 |step _ ih=>exact Nat.le_trans ih (Nat.le_add_right _ _)
open Classical in
noncomputable def JY(W:tu P K)(p:Nat)(q:No):Nat:=
 if h:∃k,upTo W.m k<=p/\p<upTo W.m (k+1)then W.τ (AI h) (W.d (AI h)+(p-upTo W.m (AI h))) q else 0
theorem Mp(W:tu P K)(k j)(hj:j<W.m k)(q):JY W (upTo W.m k+j) q=W.τ k (W.d k+j) q:=by
 have h:∃k',upTo W.m k'<=upTo W.m k+j/\upTo W.m k+j<upTo W.m (k'+1):=⟨k,by omega,by show _<upTo W.m k+W.m k;omega⟩;have hk:AI h=k:=by
  obtain⟨h1,h2⟩:=up h;rcases Nat.lt_trichotomy (AI h) k with hlt|heq|hgt
  .have:=yg W.m (show AI h+1<=k by omega);omega
  .exact heq
  .have:=yg W.m (show k+1<=AI h by omega);have e:upTo W.m (k+1)=upTo W.m k+W.m k:=rfl;omega
 simp_all[JY]
theorem JV(h0:∀g w τ d,K g (ah w τ d)->K g w)(W:tu P K):ti P K (W.s 0):=by
 refine⟨JY W,λτ d hF hh=> ?_⟩;have key:∀n k,C8 P K n (W.s k).1 (ah (W.s k).2 τ (d+upTo W.m k))->False:=by
  intro n;induction n with
  |zero=>exactλk h=>(W.bad k).2.2 (.stop (h0 _ _ _ _ (uW h)))
  |succ n ih=>
   intro k h;have hone:=W.one k τ (d+upTo W.m k) (λj hj q=>by
    have:=hF (upTo W.m k+j) q;rw[Mp W k j hj]at this;rw[Sv];exact this)
   obtain⟨ops,hst⟩:=yz (W.bad k).2.1 hone;have:=uX hst h;rw[Sv]at this;exact ih (k+1) this
 obtain⟨n,hN⟩:=hh;exact key n 0 (by simpa[upTo]using hN)
theorem KM(T:bz P){s}(hs:rG P K s):∃τ d,
 (∃s' es,gT P s.1 (ah s.2 τ d) s'.1 s'.2 es/\rG P K s')\/∀g' w' es,gT P s.1 (ah s.2 τ d) g' w' es->g'.status≠.running:=by
 obtain⟨g,w⟩:=s;obtain⟨hI,hr,hT⟩:=hs;refine IT λhc=>hT ?_
 have hall:∀τ d,∃g' w' es,gT P g (ah w τ d) g' w' es/\Tree P K g' w':=λτ d=>by
  refine IT λhn=>hc ⟨τ,d,?_⟩
  by_cases hx:∃g' w' es,gT P g (ah w τ d) g' w' es/\g'.status= .running
  .obtain⟨g',w',es,ho,hrun⟩:=hx;refine .inl ⟨(g',w'),es,ho,nI T (fE hI τ d) ho,hrun,λht=>hn ⟨g',w',es,ho,ht⟩⟩
  grind
 refine .step (λτ d=>AI (hall τ d)) (λτ d=>AI (up (hall τ d))) (λτ d=>AI (up (up (hall τ d)))) hr (λτ d hb=> ?_) λτ d hb=> ?_
 .exact(up (up (up (hall τ d)))).1
 grind
theorem bar(T:bz P)(h0:∀g w τ d,K g (ah w τ d)->K g w)(hKr:∀g w,K g w->g.status= .running){g w}(hI:Iv g w)(hr:g.status= .running)(h:∀τ d,yZ P K g (ah w τ d)):Tree P K g w:=by
 refine IT λhT=> ?_
 have hnl:¬ ti P K (g,w):=λ⟨σ,hσ⟩=>hσ σ 0 λj q=>by rw[Nat.zero_add] (h σ 0)
 have nx:∀x: {s:AS×By//rG P K s/\¬ ti P K s},∃(y: {s:AS×By//rG P K s/\¬ ti P K s})(τ:Nat->No->Nat)(d:Nat)(es:Array Event)(m:Nat),
  ∀τ' d',Agree m (ah x.1.2 τ d) τ' d'->gT P x.1.1 (ah x.1.2 τ' d') y.1.1 (ah y.1.2 τ' (d'+m)) es:=by
  rintro⟨s,hs,hl⟩;obtain⟨τ,d,⟨s',es,ho,h1⟩|hn⟩:=KM T hs
  .obtain⟨m,_,_,h3⟩:=xR T (fE hs.1 τ d) ho h1.2.1;refine⟨⟨s',h1,λh'=>hl (Hp T h0 hs h1 ho h')⟩,τ,d,es,m,λτ' d' ha=> ?_⟩;have:=h3 τ' d' ha;rw[xO]at this;omega
  .exact absurd (JW T h0 hKr hs hn) hl
 let f:=λx=>AI (nx x)
 let S:Nat->{s:AS×By//rG P K s/\¬ ti P K s}:=λk=>Nat.rec ⟨(g,w),⟨hI,hr,hT⟩,hnl⟩ (λ_ x=>f x) k
 have sp:=λk=>up (nx (S k))
 have W:∃W:tu P K,W.s 0=(g,w):=
  ⟨tu.mk (λk=>(S k).1) (λk=>AI (sp k)) (λk=>AI (up (sp k))) (λk=>AI (up (up (sp k))))
   (λk=>AI (up (up (up (sp k))))) (λk=>(S k).2.1)
   λk=>up (up (up (up (sp k)))),rfl⟩
 obtain⟨W,hW⟩:=W;exact hnl (hW▸JV h0 W)
end
end
end Go.Proofs.YtkgohmcmmcpigaaGreatDoor
