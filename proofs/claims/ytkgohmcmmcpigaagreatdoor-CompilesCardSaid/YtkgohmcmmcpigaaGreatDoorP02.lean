/- A part of the proof that Compiles holds; no condition. -/
import Derived.DyingOn
import Derived.Conc.CrowdComm
import Derived.Test.YtkgohmcmmcpigaaGreatDoorP01
set_option linter.unusedSectionVars false
set_option linter.unusedSimpArgs false
set_option linter.unusedVariables false
namespace Go.Proofs.YtkgohmcmmcpigaaGreatDoor
open Go
open _root_.List renaming mem_cons_self->AI,mem_cons_of_mem->BY,mem_cons->IN,map_cons->PE,mem_singleton->PL,mem_append->PU
open Go renaming Goroutine->AS,World->By,Frame->IS,communicate->IT,Question->No,Program->OF,Value->PG,Event->PJ,Deferred->PY
open _root_.Classical renaming choose_spec->AT,choose->If,byContradiction->PK
open _root_.Option renaming map_eq_some_iff->PD
open _root_.Nat renaming add_assoc->PM,add_sub_cancel_left->PR
open _root_.Bool renaming and_eq_true->PN
open Go.Instr renaming enterLoop->PO,takeDeferred->PP,endRound->PX,endLoop->PZ
open Go.Frame renaming enter->PV,round->Q4,ofRow->Q5
open Go.MemOp renaming ofEvents->PW
open _root_.Array renaming swapAt!->Q2
open Go.GStep renaming after->Q3,es->Q8
section
variable[aJ]
def LK(dy:Option Dying)(fr:IS)(cs:List IS):Prop:=dy.isSome=true→(cs.map (·.kind)).getLastD fr.kind= .report
def JG(g:AS):Prop:=dc g.frame∧(∀c∈g.callers,dc c)∧(∀t,g.status≠.sleeping t)∧LK g.dying g.frame g.callers
def Mw(g:AS):Prop:=(∃d,g.dying=some d∧d.calling=false)∧∀t,g.status≠.sleeping t
def iO(dy:Option Dying):GStep→Prop
 | .go g w _=>am w∧((g.dying=dy∧JG g)∨Mw g)
 | .comm g _ _ _ w _=>aJ.cm∧am w∧g.dying=dy∧g.status= .running∧JG g
 | .ended _ _ _=>True
 |_=>False
theorem fq{dy:Option Dying}{es:Array PJ}{s:GStep}(h:iO dy s):iO dy (Q3 es s):=by
 cases s<;>first |exact h|exact h.elim
section
variable{P:OF}{fr:IS}{callers:List IS}{dy:Option Dying}
theorem aq{fr':IS}(hk:fr'.kind=fr.kind)(h:LK dy fr callers):LK dy fr' callers:=fun hd=>by rw[hk];exact h hd
theorem cI{fr':IS}(h:LK dy fr callers):LK dy fr' (fr::callers):=fun hd=>by rw[PE,List.getLastD_cons];exact h hd
theorem LW{c:IS}{cs:List IS}(h:LK dy fr (c::cs)):LK dy c cs:=fun hd=>by have:=h hd;rwa [PE,List.getLastD_cons]at this
theorem ah{c c':IS}{cs:List IS}(hk:c'.kind=c.kind)(h:LK dy fr (c::cs)):LK dy c' cs:=aq hk (LW h)
theorem A4{fr':IS}{cs:List IS}(hf:fr'.kind=fr.kind)(hk:cs.map (·.kind)=callers.map (·.kind))(h:LK dy fr callers):LK dy fr' cs:=fun hd=>by rw[hk,hf];exact h hd
theorem ap(fr:IS)(v:PG):(fr.finish v).kind=fr.kind:=by
 unfold Frame.finish;split <;>rfl
theorem ax(fr:IS)(vs:List PanicEntry):(fr.raise vs).kind=fr.kind:=by
 unfold Frame.raise;split <;>rfl
theorem jY:∀(callers:List IS)(fr:IS)(v:PG)(cs:List IS),tryRecover fr callers=some (v,cs)→cs.map (·.kind)=callers.map (·.kind):=by
 intro callers;induction callers with
 |nil=>
  intro fr v cs h;unfold tryRecover at h;split at h<;>simp_all
 |cons x rest ih=>
  intro fr v cs h;unfold tryRecover at h;split at h
  ·rename_i heq;cases heq;split at h
   ·simp only[Option.some.injEq,Prod.mk.injEq]at h;obtain⟨_,rfl⟩:=h;rfl
   ·cases h
  ·rename_i heq;cases heq;obtain⟨⟨v',cs'⟩,h1,h2⟩:=PD.1 h;simp only[Prod.mk.injEq]at h2;obtain⟨_,rfl⟩:=h2;rw[PE,PE,ih _ _ _ h1]
  ·cases h
theorem tp:∀(callers:List IS)(l:Nat)(v:PG)(cs:List IS),tryRecoverLoop l callers=some (v,cs)→cs.map (·.kind)=callers.map (·.kind):=by
 intro callers;induction callers with
 |nil=>intro l v cs h;cases h
 |cons x rest ih=>
  intro l v cs h;unfold tryRecoverLoop at h;obtain⟨⟨v',cs'⟩,h1,h2⟩:=PD.1 h;simp only[Prod.mk.injEq]at h2;obtain⟨_,rfl⟩:=h2;have:cs'.map (·.kind)=rest.map (·.kind):=by
   split at h1
   ·exact ih _ _ _ h1
   ·split at h1
    ·exact jY _ _ _ _ h1
    ·exact ih _ _ _ h1
   ·exact ih _ _ _ h1
  rw[PE,PE,this]
theorem qM{todo:List Item}(h:dc fr)(ht:∀it∈todo,jz it):dc {fr with todo}:=⟨ht,h.2⟩
theorem fo(h:dc fr)(v:PG):dc (fr.finish v):=by
 obtain⟨h1,h2⟩:=h;unfold Frame.finish;split
 ·rename_i ht;exact⟨fun it hi=>(IN.1 hi).elim (fun e=>e▸(by have h9:=h1 _ (by rw[ht];exact AI ..);exact fun i hi o ho=>h9 i (BY _ hi) o ho)) fun hi=>h1 it (by rw[ht];exact BY _ hi),h2⟩
 ·rename_i ht;exact⟨fun it hi=>(IN.1 hi).elim (fun e=>e▸(by first |trivial|(have h9:=h1 _ (by rw[ht];exact AI ..);exact h9))) fun hi=>h1 it (by rw[ht];exact BY _ hi),h2⟩
 ·rename_i ht;exact⟨fun it hi=>h1 it (by rw[ht];exact BY _ hi),h2⟩
 ·rename_i ht;exact(h1 (.call _ _ _ _) (by rw[ht];exact AI ..)).elim
 ·rename_i ht;exact⟨fun it hi=>h1 it (by rw[ht];exact BY _ hi),h2⟩
 ·exact⟨h1,h2⟩
theorem iA(h:dc fr)(vs:List PanicEntry):dc (fr.raise vs):=by
 unfold Frame.raise;split <;>exact h
theorem J5(T:bw P)(f:FuncId):cW (((P.funcs[f]?).bind (·.body)).getD (.refuse "unsupported: a function without a Go body is entered"))=true:=by
 cases hf:P.funcs[f]? with
 |none=>rfl
 |some fn=>
  cases hb:fn.body with
  |none=>simp[hb,cW]
  |some c=>simpa[hb]using T.nogo f fn c hf hb
theorem mv(T:bw P)(f:FuncId)(args:Array PG)(k:CallKind):dc (PV P f args k):=
 ⟨fun it hi=>by simp only[PV,PL]at hi;subst hi;exact J5 T f,fun d hd=>by simp[PV]at hd⟩
theorem xS(l:Nat)(f:FuncId)(tmps:Array PG)(a b:Code)(k:CallKind)(ha:cW a=true)(hb:cW b=true):dc (Q4 l f tmps a b k):=
 ⟨fun it hi=>by simp only[Q4,IN,List.not_mem_nil,or_false]at hi;rcases hi with rfl|rfl|rfl<;>first |trivial|exact ha|exact hb,fun d hd=>by simp[Q4]at hd⟩
theorem Cu(args:Array PG)(k:CallKind):dc (Q5 P printRow args k):=
 ⟨fun it hi=>by simp only[Q5,PL]at hi;subst hi;rfl,fun d hd=>by simp[Q5]at hd⟩
theorem ma:∀(callers:List IS)(fr:IS)(v:PG)(cs:List IS),(∀c∈callers,dc c)→tryRecover fr callers=some (v,cs)→∀c∈cs,dc c:=by
 intro callers;induction callers with
 |nil=>
  intro fr v cs hc h;unfold tryRecover at h;split at h<;>simp_all
 |cons x rest ih=>
  intro fr v cs hc h;unfold tryRecover at h;split at h
  ·rename_i heq;cases heq;split at h
   ·simp only[Option.some.injEq,Prod.mk.injEq]at h;obtain⟨_,rfl⟩:=h;intro c h0;rcases IN.1 h0 with rfl|h0
    ·exact hc x (AI ..)
    ·exact hc c (BY _ h0)
   ·cases h
  ·rename_i heq;cases heq;obtain⟨⟨v',cs'⟩,h1,h2⟩:=PD.1 h;simp only[Prod.mk.injEq]at h2;obtain⟨_,rfl⟩:=h2;have:=ih _ _ _ (fun c h0=>hc c (BY _ h0)) h1;intro c h0;rcases IN.1 h0 with rfl|h0
   ·exact hc c (AI ..)
   ·exact this c h0
  ·cases h
theorem vz:∀(callers:List IS)(l:Nat)(v:PG)(cs:List IS),(∀c∈callers,dc c)→tryRecoverLoop l callers=some (v,cs)→∀c∈cs,dc c:=by
 intro callers;induction callers with
 |nil=>intro l v cs hc h;cases h
 |cons x rest ih=>
  intro l v cs hc h;unfold tryRecoverLoop at h;obtain⟨⟨v',cs'⟩,h1,h2⟩:=PD.1 h;simp only[Prod.mk.injEq]at h2;obtain⟨_,rfl⟩:=h2;have hr:∀c∈rest,dc c:=fun c h0=>hc c (BY _ h0)
  have:∀c∈cs',dc c:=by
   split at h1
   ·exact ih _ _ _ hr h1
   ·split at h1
    ·exact ma _ _ _ _ hr h1
    ·exact ih _ _ _ hr h1
   ·exact ih _ _ _ hr h1
  intro c h0;rcases IN.1 h0 with rfl|h0
  ·exact hc c (AI ..)
  ·exact this c h0
theorem E4{w:By}(h:am w)(τ:Nat→No→Nat)(d:Nat):am (af w τ d):=h
theorem gK{c:Prop}[Decidable c]{A B:GStep}(ha:iO dy A)(hb:iO dy B):iO dy (if c then A else B):=by
 by_cases hc:c
 ·rw[if_pos hc];exact ha
 ·rw[if_neg hc];exact hb
theorem qS(fr:IS)(a:List ByteArray)(m:String)(b:Bool){w:By}(hw:am w):iO dy (dieOf fr a m b w):=⟨hw,.inr ⟨⟨_,rfl,rfl⟩,nofun⟩⟩
theorem nZ{α:Type}{s:Sem α}(hs:St P s){w:By}(hw:am w):am (di (s.run P w)):=by
 rw[← Sem.runT_fst P s w #[]];exact ca hs.st w #[] hw
theorem tY{m:String}{w:By}(hw:am w):iO dy (endFatal P fr callers dy m w):=by
 unfold endFatal;dsimp only;have H:∀(shown:Sem (List (ByteArray×String)×List ByteArray)),St P shown→iO dy (match shown.run P w with
  | .ok (texts,tabs) w=>dieOf fr (panicPieces texts++tabs) m true w
  | .halt (.unsupported u) w=>.ended (.unsupported u "") w
  | .halt _ w=>.ended (.stuck "the report of a panic" "") w):=by
  intro s hs;have:=nZ hs hw;generalize s.run P w=r at this ⊢;cases r with
  |ok a v=>exact qS _ _ _ _ this
  |halt x v=>cases x<;>trivial
 have hraw:∀vs:List (PG×String),St P (vs.mapM fun(v,mark)=>match panicText P true v with
  | .text s=>pure (s,mark)
  | .address s=>do pure (← withAddress s,mark)
  |_=>(unsupported (.noEntry "a fatal error during a panic whose value the report cannot show"):Sem (ByteArray×String))):=by
  intro vs;refine @px _ _ _ _ _ _ _ (fun x=> ?_) _;dsimp only;split <;>exact zq2
 refine H _ ?_;split
 ·exact zq2
 ·refine @aS _ _ _ _ _ _ _ _ zq2 fun _=> ?_
  exact @aS _ _ _ _ _ _ _ _ (hraw _) fun _=>zq2
 ·exact @aS _ _ _ _ _ _ _ _ (hraw _) fun _=>zq2
 ·exact zq2
theorem oD{s:Sem Next}{w:By}(T:bw P)(hs:St P s)(hl:Leaf P sQ s)(hw:am w)(hf:dc fr)(hc:∀c∈callers,dc c)(hlk:LK dy fr callers):iO dy (stepG.apply P true fr callers dy s w):=by
 unfold stepG.apply;simp only[if_true];have hH:=ca hs.st w #[] hw;have hL:=qP hs.st hl w #[] hw;have hI:=pF hs.st w #[] hw;generalize s.runT P w #[]=x at hH hL hI ⊢;obtain⟨r,e0⟩:=x;have h0:∀c∈fr::callers,dc c:=fun c h1=>(IN.1 h1).elim (fun e=>e▸hf) (hc c)
 cases r with
 |ok n v=>
  have hn:=hL n v e0 rfl;clear hL;cases n;all_goals dsimp only
  all_goals refine fq ?_
  case value u=>exact⟨hH,.inl ⟨rfl,fo hf _,hc,nofun,(by first |exact hlk|exact aq (ap _ _) hlk|exact aq (ax _ _) hlk|exact cI hlk|exact ah (ap _ _) hlk|exact ah (ax _ _) hlk|exact ah rfl hlk|exact aq rfl hlk)⟩⟩
  case skip=>exact⟨hH,.inl ⟨rfl,fo hf _,hc,nofun,(by first |exact hlk|exact aq (ap _ _) hlk|exact aq (ax _ _) hlk|exact cI hlk|exact ah (ap _ _) hlk|exact ah (ax _ _) hlk|exact ah rfl hlk|exact aq rfl hlk)⟩⟩
  case enter f args=>exact⟨hH,.inl ⟨rfl,mv T _ _ _,h0,nofun,(by first |exact hlk|exact aq (ap _ _) hlk|exact aq (ax _ _) hlk|exact cI hlk|exact ah (ap _ _) hlk|exact ah (ax _ _) hlk|exact ah rfl hlk|exact aq rfl hlk)⟩⟩
  case round l f tmps assign body=>exact⟨hH,.inl ⟨rfl,xS _ _ _ _ _ _ hn.1 hn.2,h0,nofun,(by first |exact hlk|exact aq (ap _ _) hlk|exact aq (ax _ _) hlk|exact cI hlk|exact ah (ap _ _) hlk|exact ah (ax _ _) hlk|exact ah rfl hlk|exact aq rfl hlk)⟩⟩
  case defer d=>
   have hfd:dc {fr with defers:=d::fr.defers}:=⟨hf.1,fun x hx=>by
    rcases IN.1 hx with rfl|hx
    ·exact hn
    ·exact hf.2 x hx⟩
   exact⟨hH,.inl ⟨rfl,fo hfd _,hc,nofun,(by first |exact hlk|exact aq (ap _ _) hlk|exact aq (ax _ _) hlk|exact cI hlk|exact ah (ap _ _) hlk|exact ah (ax _ _) hlk|exact ah rfl hlk|exact aq rfl hlk)⟩⟩
  case recover=>
   split
   ·rename_i v' cs' hx;have hk:(∀c∈cs',dc c)∧cs'.map (·.kind)=callers.map (·.kind):=by
     split at hx
     ·split at hx
      ·exact⟨ma _ _ _ _ hc hx,jY _ _ _ _ hx⟩
      ·exact⟨vz _ _ _ _ hc hx,tp _ _ _ _ hx⟩
     ·exact⟨ma _ _ _ _ hc hx,jY _ _ _ _ hx⟩
    exact⟨hH,.inl ⟨rfl,fo hf _,hk.1,nofun,A4 (ap _ _) hk.2 hlk⟩⟩
   ·exact⟨hH,.inl ⟨rfl,fo hf _,hc,nofun,(by first |exact hlk|exact aq (ap _ _) hlk|exact aq (ax _ _) hlk|exact cI hlk|exact ah (ap _ _) hlk|exact ah (ax _ _) hlk|exact ah rfl hlk|exact aq rfl hlk)⟩⟩
  case comm a b c=>exact⟨hn,hH,rfl,rfl,hf,hc,nofun,hlk⟩
  case row r a=>
   cases hn;split
   ·rename_i ht;exact⟨hH,.inl ⟨rfl,qM hf fun it hi=>(IN.1 hi).elim (fun e=>e▸rfl) fun hi=>hf.1 it (by rw[ht];exact BY _ hi),hc,nofun,(by first |exact hlk|exact aq (ap _ _) hlk|exact aq (ax _ _) hlk|exact cI hlk|exact ah (ap _ _) hlk|exact ah (ax _ _) hlk|exact ah rfl hlk|exact aq rfl hlk)⟩⟩
   ·exact⟨hH,.inl ⟨rfl,Cu _ _,h0,nofun,(by first |exact hlk|exact aq (ap _ _) hlk|exact aq (ax _ _) hlk|exact cI hlk|exact ah (ap _ _) hlk|exact ah (ax _ _) hlk|exact ah rfl hlk|exact aq rfl hlk)⟩⟩
  all_goals exact hn.elim
 |halt x v=>
  cases x;case unsupported u=>
   dsimp only;refine fq ?_;cases u;case initOrder g=>dsimp only;rw[oq T.toei (hI _ _ _ rfl)];trivial
   all_goals trivial
  all_goals dsimp only
  all_goals refine fq ?_
  case panic v=>exact⟨hH,.inl ⟨rfl,iA hf _,hc,nofun,(by first |exact hlk|exact aq (ap _ _) hlk|exact aq (ax _ _) hlk|exact cI hlk|exact ah (ap _ _) hlk|exact ah (ax _ _) hlk|exact ah rfl hlk|exact aq rfl hlk)⟩⟩
  case goexit=>exact⟨hH,.inl ⟨rfl,iA hf _,hc,nofun,(by first |exact hlk|exact aq (ap _ _) hlk|exact aq (ax _ _) hlk|exact cI hlk|exact ah (ap _ _) hlk|exact ah (ax _ _) hlk|exact ah rfl hlk|exact aq rfl hlk)⟩⟩
  case blocked=>exact⟨hH,.inl ⟨rfl,hf,hc,nofun,(by first |exact hlk|exact aq (ap _ _) hlk|exact aq (ax _ _) hlk|exact cI hlk|exact ah (ap _ _) hlk|exact ah (ax _ _) hlk|exact ah rfl hlk|exact aq rfl hlk)⟩⟩
  case waiting=>exact⟨hH,.inl ⟨rfl,hf,hc,nofun,(by first |exact hlk|exact aq (ap _ _) hlk|exact aq (ax _ _) hlk|exact cI hlk|exact ah (ap _ _) hlk|exact ah (ax _ _) hlk|exact ah rfl hlk|exact aq rfl hlk)⟩⟩
  case fatal m=>exact tY hH
  case throw m=>exact qS _ _ _ _ hH
  all_goals trivial
theorem vY{d:PY}{w:By}(T:bw P)(hd:oG d)(hw:am w)(hf:dc fr)(hc:∀c∈callers,dc c)(hlk:LK dy fr callers):iO dy (callDeferred P fr callers dy d w):=by
 unfold callDeferred;refine gK trivial ?_;have hH:=ca (eL T.toei d.target d.args).st w #[] hw;have hL:=qP (eL T.toei d.target d.args).st (pL T hd d.args) w #[] hw;generalize (invoke d.target d.args).runT P w #[]=x at hH hL ⊢;obtain⟨r,e0⟩:=x;have h0:∀c∈fr::callers,dc c:=fun c h1=>(IN.1 h1).elim (fun e=>e▸hf) (hc c)
 have hfd:dc {fr with defers:=d::fr.defers}:=⟨hf.1,fun x hx=>by
  rcases IN.1 hx with rfl|hx
  ·exact hd
  ·exact hf.2 x hx⟩
 cases r with
 |ok n v=>
  have hn:=hL n v e0 rfl;clear hL;cases n;all_goals dsimp only
  all_goals refine fq ?_
  case enter f args=>exact⟨hH,.inl ⟨rfl,mv T _ _ _,h0,nofun,(by first |exact hlk|exact aq (ap _ _) hlk|exact aq (ax _ _) hlk|exact cI hlk|exact ah (ap _ _) hlk|exact ah (ax _ _) hlk|exact ah rfl hlk|exact aq rfl hlk)⟩⟩
  case round l f tmps assign body=>exact⟨hH,.inl ⟨rfl,xS _ _ _ _ _ _ hn.1 hn.2,h0,nofun,(by first |exact hlk|exact aq (ap _ _) hlk|exact aq (ax _ _) hlk|exact cI hlk|exact ah (ap _ _) hlk|exact ah (ax _ _) hlk|exact ah rfl hlk|exact aq rfl hlk)⟩⟩
  case recover=>
   split
   ·rename_i hx;exact⟨hH,.inl ⟨rfl,hf,ma _ _ _ _ hc hx,nofun,A4 rfl (jY _ _ _ _ hx) hlk⟩⟩
   ·exact⟨hH,.inl ⟨rfl,hf,hc,nofun,(by first |exact hlk|exact aq (ap _ _) hlk|exact aq (ax _ _) hlk|exact cI hlk|exact ah (ap _ _) hlk|exact ah (ax _ _) hlk|exact ah rfl hlk|exact aq rfl hlk)⟩⟩
  case row r a=>
   cases hn;exact⟨hH,.inl ⟨rfl,Cu _ _,h0,nofun,(by first |exact hlk|exact aq (ap _ _) hlk|exact aq (ax _ _) hlk|exact cI hlk|exact ah (ap _ _) hlk|exact ah (ax _ _) hlk|exact ah rfl hlk|exact aq rfl hlk)⟩⟩
  all_goals first
   |exact hn.elim
   |exact⟨hH,.inl ⟨rfl,hf,hc,nofun,(by first |exact hlk|exact aq (ap _ _) hlk|exact aq (ax _ _) hlk|exact cI hlk|exact ah (ap _ _) hlk|exact ah (ax _ _) hlk|exact ah rfl hlk|exact aq rfl hlk)⟩⟩
 |halt x v=>
  cases x;all_goals dsimp only
  all_goals refine fq ?_
  case panic v=>exact⟨hH,.inl ⟨rfl,iA hf _,hc,nofun,(by first |exact hlk|exact aq (ap _ _) hlk|exact aq (ax _ _) hlk|exact cI hlk|exact ah (ap _ _) hlk|exact ah (ax _ _) hlk|exact ah rfl hlk|exact aq rfl hlk)⟩⟩
  case goexit=>exact⟨hH,.inl ⟨rfl,iA hf _,hc,nofun,(by first |exact hlk|exact aq (ap _ _) hlk|exact aq (ax _ _) hlk|exact cI hlk|exact ah (ap _ _) hlk|exact ah (ax _ _) hlk|exact ah rfl hlk|exact aq rfl hlk)⟩⟩
  case blocked=>exact⟨hH,.inl ⟨rfl,hfd,hc,nofun,(by first |exact hlk|exact aq (ap _ _) hlk|exact aq (ax _ _) hlk|exact cI hlk|exact ah (ap _ _) hlk|exact ah (ax _ _) hlk|exact ah rfl hlk|exact aq rfl hlk)⟩⟩
  case waiting=>exact⟨hH,.inl ⟨rfl,hfd,hc,nofun,(by first |exact hlk|exact aq (ap _ _) hlk|exact aq (ax _ _) hlk|exact cI hlk|exact ah (ap _ _) hlk|exact ah (ax _ _) hlk|exact ah rfl hlk|exact aq rfl hlk)⟩⟩
  case fatal m=>exact tY hH
  case throw m=>exact qS _ _ _ _ hH
  all_goals trivial
end
end
section
variable[aJ]
section
variable{P:OF}{main:Bool}{fr:IS}{callers:List IS}{dy:Option Dying}
theorem pP{v:PG}{w:By}(T:bw P)(hw:am w)(hf:dc fr)(hc:∀c∈callers,dc c)(hlk:LK dy fr callers):iO dy (doReturn P main fr callers dy v w):=by
 unfold doReturn;cases callers with
 |cons c cs=>
  have h1:dc c:=hc c (AI ..);have h2:∀x∈cs,dc x:=fun x hx=>hc x (BY _ hx)
  dsimp only;split
  ·exact⟨hw,.inl ⟨rfl,fo h1 _,h2,nofun,ah (ap _ _) hlk⟩⟩
  ·exact⟨hw,.inl ⟨rfl,fo h1 _,h2,nofun,ah (ap _ _) hlk⟩⟩
  ·exact⟨hw,.inl ⟨rfl,h1,h2,nofun,ah rfl hlk⟩⟩
  ·refine⟨hw,.inl ⟨rfl,?_,h2,nofun,?_⟩⟩
   ·dsimp only;split
    ·split <;>exact h1
    ·exact h1
   ·refine ah ?_ hlk;dsimp only;split
    ·split <;>rfl
    ·rfl
 |nil=>
  dsimp only;cases dy with
  |some d=>
   have hk:fr.kind= .report:=hlk rfl;rw[hk];cases v<;>first
    |trivial
    |exact⟨hw,.inr ⟨⟨_,rfl,rfl⟩,nofun⟩⟩
  |none=>
   have hn:iO none (if(!main)=true then(.go {frame:=fr,callers:=[],status:=.finished,dying:=none} w:GStep)
    else match P.inits.idxOf? fr.fn with
     |some k=>.go {frame:=PV P (P.initFrom (k+1)) #[] .normal,callers:=[],status:=.running,dying:=none} w
     |none=>.ended (.done v) w):=by
    refine gK ⟨hw,.inl ⟨rfl,hf,nofun,nofun,nofun⟩⟩ ?_;split
    ·exact⟨hw,.inl ⟨rfl,mv T _ _ _,nofun,nofun,nofun⟩⟩
    ·trivial
   cases fr.kind<;>first
    |exact hn
    |trivial
theorem uT{b:Nat}{w v:By}{ds:List PY}{es:Array PJ}(hw:am w)(h:(PP b).runT P w #[]=(.ok ds v,es)):∀d∈ds,oG d:=by
 simp only[PP,getObj,setObj,bind,Sem.bind,Sem.runT]at h;cases ho:w.heap[b]? with
 |none=>simp only[ho]at h;cases h
 |some o=>
  have h1:=hw b o ho;simp only[ho]at h;cases o;case deferred l=>
   cases l with
   |none=>cases h
   |some l=>
    simp only[Sem.bind,Sem.runT,ho]at h;simp only[pure,Sem.runT,Prod.mk.injEq,Result.ok.injEq]at h;obtain⟨⟨rfl,_⟩,_⟩:=h;exact h1.i.ds
  all_goals cases h
theorem ER{w:By}(T:bw P)(hw:am w)(hf:dc fr)(hc:∀c∈callers,dc c)(hlk:LK dy fr callers):iO dy (unwind P main fr callers dy w):=by
 unfold unwind;cases hd:fr.defers with
 |cons d ds=>
  have hds:dc {fr with defers:=ds}:=⟨hf.1,fun x hx=>hf.2 x (by rw[hd];exact BY _ hx)⟩;have hdd:oG d:=hf.2 d (by rw[hd];exact AI ..);obtain⟨tg,ar⟩:=d;cases tg with
  |collected block=>
   dsimp only;have hH:=ca (pZ P block).st w #[] hw;have hL:=fun ds v es h=>uT (P:=P) (b:=block) (w:=w) (v:=v) (ds:=ds) (es:=es) hw h
   generalize (PP block).runT P w #[]=x at hH hL ⊢;obtain⟨r,e0⟩:=x;dsimp only;refine fq ?_;cases r with
   |ok l v=>
    have hl:=hL l v e0 rfl;refine⟨hH,.inl ⟨rfl,⟨hf.1,fun x hx=> ?_⟩,hc,nofun,aq rfl hlk⟩⟩;rcases PU.1 hx with hx|hx
    ·exact hl x hx
    ·exact hds.2 x hx
   |halt x v=>trivial
  |_=>exact vY T hdd hw hds hc (aq rfl hlk)
 |nil=>
  dsimp only;cases hm:fr.mode with
  |run=>trivial
  |panicking chain=>
   dsimp only;refine gK trivial ?_;cases callers with
   |cons c cs=>exact⟨hw,.inl ⟨rfl,iA (hc c (AI ..)) _,fun x hx=>hc x (BY _ hx),nofun,(by first |exact hlk|exact aq (ap _ _) hlk|exact aq (ax _ _) hlk|exact cI hlk|exact ah (ap _ _) hlk|exact ah (ax _ _) hlk|exact ah rfl hlk|exact aq rfl hlk)⟩⟩
   |nil=>
    cases dy with
    |none=>
     dsimp only;refine gK ⟨hw,.inl ⟨rfl,hf,nofun,nofun,nofun⟩⟩ ?_;have:=nZ (wM (P:=P) chain false) hw;generalize (reportChain chain false).run P w=r at this ⊢;cases r with
     |ok a v=>exact⟨this,.inr ⟨⟨_,rfl,rfl⟩,nofun⟩⟩
     |halt x v=>cases x<;>trivial
    |some d=>
     dsimp only;split
     ·unfold endPrinting;dsimp only;split
      ·exact qS _ _ _ _ hw
      ·trivial
     ·trivial
  |returning=>
   dsimp only;cases hfn:P.funcs[fr.fn]? with
   |none=>exact pP T hw hf hc hlk
   |some fn=>
    dsimp only;have hH:=ca (CZ P fn fr.tmps).st w #[] hw;generalize (results fn fr.tmps).runT P w #[]=x at hH ⊢;obtain⟨r,e0⟩:=x;dsimp only;refine fq ?_;cases r with
    |ok l v=>exact pP T hH hf hc hlk
    |halt x v=>cases x<;>trivial
theorem CK{rest:List Item}{it:Item}(hf:dc fr)(ht:fr.todo=it::rest):∀x∈rest,jz x:=fun x hx=>hf.1 x (by rw[ht];exact BY _ hx)
theorem dR{it:Item}{l:List Item}(h:jz it)(hl:∀x∈l,jz x):∀x∈it::l,jz x:=fun x hx=>(IN.1 hx).elim (fun e=>e▸h) (hl x)
theorem GG{id:Nat}:∀{k l:List Item},(∀x∈k,jz x)→exitTo id k=some l→∀x∈l,jz x:=by
 intro k;induction k with
 |nil=>intro l _ h;cases h
 |cons it k ih=>
  intro l hk h;have hk':∀x∈k,jz x:=fun x hx=>hk x (BY _ hx)
  unfold exitTo at h;split at h
  ·rename_i he;simp only[List.cons.injEq]at he;obtain⟨_,rfl⟩:=he;split at h
   ·cases h;exact hk'
   ·exact ih hk' h
  ·rename_i he;simp only[List.cons.injEq]at he;obtain⟨_,rfl⟩:=he;exact ih hk' h
  ·cases h
theorem Ao:∀(b:Code)(l:Nat)(c:Code),cW b=true→findLabel b l=some c→cW c=true:=by
 intro b;induction b<;>intro l c h hf<;>first
  |(simp[findLabel]at hf;done)
  |skip
 case seq a b iha ihb=>
  simp only[cW,PN]at h;simp only[findLabel]at hf;cases ha:findLabel a l with
  |some r=>
   rw[ha]at hf;cases hf;simp only[cW,PN];exact⟨iha _ _ h.1 ha,h.2⟩
  |none=>
   rw[ha]at hf;exact ihb _ _ h.2 hf
 case label l'=>
  simp only[findLabel]at hf;split at hf
  ·cases hf;rfl
  ·cases hf
theorem Gv{id:Nat}:∀{k l:List Item},(∀x∈k,jz x)→gotoIn id k=some l→∀x∈l,jz x:=by
 intro k;induction k with
 |nil=>intro l _ h;cases h
 |cons it k ih=>
  intro l hk h;have hk':∀x∈k,jz x:=fun x hx=>hk x (BY _ hx)
  unfold gotoIn at h;split at h
  ·rename_i he;simp only[List.cons.injEq]at he;obtain⟨h0,rfl⟩:=he;split at h
   ·rename_i hfl;have hb:=hk _ (AI ..);rw[h0]at hb;cases h;exact dR (Ao _ _ _ hb hfl) (dR hb hk')
   ·exact ih hk' h
  ·rename_i he;simp only[List.cons.injEq]at he;obtain⟨_,rfl⟩:=he;exact ih hk' h
  ·cases h
theorem qO{w:By}(T:bw P)(hw:am w)(hf:dc fr)(hc:∀c∈callers,dc c)(hlk:LK dy fr callers)(l:Nat)(jump:Option Code)(h0:∀c,jump=some c→cW c=true):iO dy (Q3 (seen P fr.fn ((PX l jump).runT P w #[]).2) (match((PX l jump).runT P w #[]).1 with
 | .ok v w=>doReturn P main fr callers dy v w
 | .halt _ w=>.ended (.stuck "range over a function: no such loop" (fr.pos P)) w)):=by
 have hH:=ca (jP P l jump h0).st w #[] hw;generalize (PX l jump).runT P w #[]=x at hH ⊢;obtain⟨r,e0⟩:=x;refine fq ?_;cases r with
 |ok l v=>exact pP T hH hf hc hlk
 |halt x v=>trivial
theorem KF{o:Oper}(hf:dc fr)(ho:fr.oper?=some o):JC o.op=true:=by
 unfold Frame.oper? at ho;split at ho
 ·rename_i ops i r k ht;have h:=hf.1 (.inRegion ops (i::r)) (by rw[ht];exact AI ..);exact h i (AI ..) o ho
 ·cases ho
theorem KE{w:By}(T:bw P)(hw:am w)(hf:dc fr)(hc:∀c∈callers,dc c)(hlk:LK dy fr callers):iO dy (stepG.oper P true fr callers dy w):=by
 unfold stepG.oper;split
 ·trivial
 ·rename_i o ho;split
  ·exact oD T (ec _ _ _ _) (ft (jk _ _ _) fun _ _=>bK fun _=>trivial) hw hf hc hlk
  ·exact oD T (gq T.toei _ _) (C5 T _ _ (KF hf ho)) hw hf hc hlk
theorem At(l:Nat):Leaf P (fun j:Option Code=>∀c,j=some c→cW c=true) (PZ l):=by
 unfold PZ;refine ft (sz l) fun r hr=> ?_
 dsimp only;split
 ·exact ft (Q:=fun _=>True) (gT _) fun _ _=>bK fun _=>hr.2.2
 ·exact bK fun _=>hr.2.2
theorem KY{w:By}(T:bw P)(hw:am w)(hf:dc fr)(hc:∀c∈callers,dc c)(hlk:LK dy fr callers):iO dy (stepG.exec P main true fr callers dy w):=by
 have hgo:∀(todo:List Item)(ro:Option Nat),(∀x∈todo,jz x)→iO dy (.go {frame:= {fn:=fr.fn,tmps:=fr.tmps,todo,defers:=fr.defers,mode:=.returning,kind:=fr.kind,roundOf:=ro},callers,status:=.running,dying:=dy} w):=fun todo ro h=>⟨hw,.inl ⟨rfl,⟨h,hf.2⟩,hc,nofun,aq rfl hlk⟩⟩
 have hto:∀todo:List Item,(∀x∈todo,jz x)→iO dy (.go {frame:= {fr with todo},callers,status:=.running,dying:=dy} w):=fun todo h=>⟨hw,.inl ⟨rfl,qM hf h,hc,nofun,aq rfl hlk⟩⟩
 unfold stepG.exec;dsimp only;cases ht:fr.todo with
 |nil=>
  dsimp only;cases hro:fr.roundOf with
  |none=>exact gK (hgo _ _ fun x hx=>by cases hx) trivial
  |some l=>exact qO T hw hf hc hlk _ _ (by rintro c hc;cases hc;try rfl)
 |cons it rest=>
  have hr:=CK hf ht;have hall:∀x∈it::rest,jz x:=by rw[← ht];exact hf.1
  cases it with
  |code c=>
   cases c with
   |ret=>
    dsimp only;cases hro:fr.roundOf with
    |none=>exact gK (hgo _ _ hall) trivial
    |some l=>exact qO T hw hf hc hlk _ _ (by rintro c hc;cases hc;try rfl)
   |skip=>exact hto _ hr
   |label l=>exact hto _ hr
   |seq a b=>
    have h0:=hall _ (AI ..);simp only[jz,cW,PN]at h0;exact hto _ (dR h0.1 (dR h0.2 hr))
   |block id body=>exact hto _ (dR (by have h0:=hall _ (AI ..);exact h0) (dR trivial hr))
   |loop body=>exact hto _ (dR (by have h0:=hall _ (AI ..);exact h0) (dR (by have h0:=hall _ (AI ..);exact h0) hr))
   |scope body=>exact hto _ (dR (by have h0:=hall _ (AI ..);exact h0) (dR (by have h0:=hall _ (AI ..);exact h0) hr))
   |refuse why=>trivial
   |cond c a b=>
    have h0:=hall _ (AI ..);simp only[jz,cW,PN]at h0;dsimp only;split
    ·exact hto _ (dR (by split <;>first |exact h0.1|exact h0.2) hr)
    ·trivial
   |exit id=>
    dsimp only;cases he:exitTo id rest with
    |some k=>exact hto _ (GG hr he)
    |none=>
     dsimp only[Option.elim];cases hro:fr.roundOf with
     |none=>exact gK (hgo _ _ hall) trivial
     |some l=>exact qO T hw hf hc hlk _ _ (by rintro c hc;cases hc;try rfl)
   |goto id=>
    dsimp only;cases he:gotoIn id rest with
    |some k=>exact hto _ (Gv hr he)
    |none=>
     dsimp only[Option.elim];cases hro:fr.roundOf with
     |none=>exact gK (hgo _ _ hall) trivial
     |some l=>exact qO T hw hf hc hlk _ _ (by rintro c hc;cases hc;try rfl)
   |rangeFunc f params assign body=>
    dsimp only;have h1:cW assign=true∧cW body=true:=by
     have h0:=hall _ (AI ..);simpa[jz,cW]using h0
    have hH:=ca (cT P fr.fn fr.tmps params assign body fr.roundOf h1.1 h1.2).st w #[] hw;have hM:∀l mark v es,(PO fr.fn fr.tmps params assign body fr.roundOf).runT P w #[]=(.ok (l,mark) v,es)→∀d∈mark,oG d:=by
     intro l mark v es h;have hl:Leaf P (fun x:Nat×List PY=>∀d∈x.2,oG d) (PO fr.fn fr.tmps params assign body fr.roundOf):=by
      unfold PO;cases fr.roundOf with
      |some l=>
       dsimp only;refine bK fun r=> ?_
       refine ft (Q:=fun x:Nat×List PY=>∀d∈x.2,oG d) (fun d hd=>by cases hd) fun x hx=> ?_
       exact bK fun _=>hx
      |none=>
       dsimp only;refine bK fun r=> ?_
       refine ft (Q:=fun x:Nat×List PY=>∀d∈x.2,oG d) (fun d hd=>by simp only[PL]at hd;subst hd;trivial) fun x hx=> ?_
       exact bK fun _=>hx
     exact qP (cT P fr.fn fr.tmps params assign body fr.roundOf h1.1 h1.2).st hl _ _ hw _ _ _ h
    generalize (PO fr.fn fr.tmps params assign body fr.roundOf).runT P w #[]=x at hH hM ⊢;obtain⟨r,e0⟩:=x;refine fq ?_;cases r with
    |halt x v=>trivial
    |ok a v=>
     obtain⟨l,mark⟩:=a;have hm:=hM l mark v e0 rfl;refine oD T (@aS _ _ _ _ _ _ _ _ zq2 fun d=>eL T.toei _ _) (ft (jk _ _ _) fun d hd=>pL T hd _) hH ⟨dR trivial hr,fun d hd=> ?_⟩ hc ?_
     ·rcases PU.1 hd with hd|hd
      ·exact hm d hd
      ·exact hf.2 d hd
     ·exact aq rfl hlk
   |region id ops draw=>
    dsimp only;have h0:=vA (hall _ (AI ..));refine gK (hto _ (dR (h0 _) hr)) ?_;have hch:am (di ((choose (.order fr.fn id)).run P w)):=by
     simp only[choose,Sem.run,Question.forced];exact hw
    generalize (choose (.order fr.fn id)).run P w=r at hch ⊢;cases r with
    |ok t v=>exact⟨hch,.inl ⟨rfl,qM hf (dR (h0 _) hr),hc,nofun,(by first |exact hlk|exact aq (ap _ _) hlk|exact aq (ax _ _) hlk|exact cI hlk|exact ah (ap _ _) hlk|exact ah (ax _ _) hlk|exact ah rfl hlk|exact aq rfl hlk)⟩⟩
    |halt x v=>trivial
  |inBlock id=>exact hto _ hr
  |inScope id=>exact hto _ hr
  |inLoop id=>exact hto _ (dR (by have h0:=hall _ (AI ..);exact h0) (dR (by have h0:=hall _ (AI ..);exact h0) hr))
  |inRangeFunc id=>trivial
  |beginRound=>
   exact oD T (@aS _ _ _ _ _ _ _ _ (by cases fr.roundOf with |none=>exact qx P _|some l=>exact dW P l) fun _=>zq2) (bK fun _=>trivial) hw hf hc hlk
  |call d a b c=>exact(hf.1 (.call d a b c) (by rw[ht];exact AI ..)).elim
  |extern row args=>
   have hrow:row=printRow:=hf.1 (.extern row args) (by rw[ht];exact AI ..);subst hrow;dsimp only;rw[l8];exact oD T (ly P _ _ _) (vv _ _ _) hw hf hc hlk
  |endRangeFunc l=>
   dsimp only;have hH:=ca (nV P l).st w #[] hw;have hJ:=qP (nV P l).st (At (P:=P) l) w #[] hw;generalize (PZ l).runT P w #[]=x at hH hJ ⊢;obtain⟨r,e0⟩:=x;refine fq ?_;cases r with
   |ok j v=>
    refine⟨hH,.inl ⟨rfl,qM hf fun x hx=> ?_,hc,nofun,(by first |exact hlk|exact aq (ap _ _) hlk|exact aq (ax _ _) hlk|exact cI hlk|exact ah (ap _ _) hlk|exact ah (ax _ _) hlk|exact ah rfl hlk|exact aq rfl hlk)⟩⟩;rcases PU.1 hx with hx|hx
    ·cases j with
     |none=>cases hx
     |some j=>simp only[Option.map_some,Option.toList_some,PL]at hx;subst hx;exact hJ _ _ _ rfl _ rfl
    ·exact hr x hx
   |halt x v=>
    cases x<;>first
     |trivial
     |exact⟨hH,.inl ⟨rfl,iA hf _,hc,nofun,(by first |exact hlk|exact aq (ap _ _) hlk|exact aq (ax _ _) hlk|exact cI hlk|exact ah (ap _ _) hlk|exact ah (ax _ _) hlk|exact ah rfl hlk|exact aq rfl hlk)⟩⟩
  |inRegion ops todo=>
   cases todo with
   |nil=>exact hto _ hr
   |cons i is=>
    dsimp only;exact gK (KE T hw hf hc hlk) (⟨hw,.inl ⟨rfl,fo hf _,hc,nofun,(by first |exact hlk|exact aq (ap _ _) hlk|exact aq (ax _ _) hlk|exact cI hlk|exact ah (ap _ _) hlk|exact ah (ax _ _) hlk|exact ah rfl hlk|exact aq rfl hlk)⟩⟩)
theorem zf{g:AS}{w:By}(T:bw P)(hw:am w)(hj:JG g)(hd:∀d,g.dying=some d→d.calling=true):iO g.dying (stepG P main g w):=by
 obtain⟨fr,cs,st,dy,off⟩:=g;obtain⟨h1,h2,h3,h4⟩:=hj;dsimp only at hd h1 h2 h4 ⊢;unfold stepG;dsimp only;split
 ·have:=hd _ rfl;cases this
 ·exact KY T hw h1 h2 h4
 ·exact ER T hw h1 h2 h4
def Dz(g:AS):Prop:=Mw g∨(JG g∧∃d,g.dying=some d∧d.calling=true)
def ls:GStep→Prop
 | .go g w _=>am w∧Dz g
 | .comm g _ _ _ w _=>am w∧g.dying.isSome=true
 | .ended _ _ _=>True
 |_=>False
theorem Av{es:Array PJ}{s:GStep}(h:ls s):ls (Q3 es s):=by
 cases s<;>first |exact h|exact h.elim
theorem Eo(fr:IS)(a:List ByteArray)(m:String)(b:Bool){w:By}(hw:am w):ls (dieOf fr a m b w):=⟨hw,.inl ⟨⟨_,rfl,rfl⟩,nofun⟩⟩
theorem As{w:By}(hw:am w)(fd:Nat)(t:ByteArray)(o:Outcome):ls (endWith w fd t o):=by
 unfold endWith;dsimp only;split
 ·split <;>trivial
 ·trivial
 ·trivial
theorem uz{v:PG}{w:By}(hw:am w):ls (endPrinting P fr v w):=by
 unfold endPrinting;dsimp only;split
 ·exact Eo _ _ _ _ hw
 ·trivial
theorem yS{d:Dying}(hd:d.calling=false)(f:Fatal){w:By}(hw:am w):ls (writeOn P fr d f w):=by
 unfold writeOn;split
 ·trivial
 ·rename_i piece rest _;dsimp only;have H:∀s:Sem Unit,St P s→ls (match s.runT P w #[]with
   |(.ok _ w,es)=>.go {frame:=fr,callers:=[],status:=.running,dying:=some {d with fatal:=some {f with pieces:=rest,begun:=true}}} w es
   |(.halt .blocked w,_)=>.go {frame:=fr,callers:=[],status:=.blocked,dying:=some {d with fatal:=some f}} w #[]
   |(.halt (.unsupported u) w,_)=>.ended (.unsupported u "") w
   |(.halt _ w,_)=>.ended (.stuck "the report of a fatal error" "") w):=by
   intro s hs;have:=ca hs.st w #[] hw;generalize s.runT P w #[]=x at this ⊢;obtain⟨r,e0⟩:=x;cases r with
   |ok a v=>exact⟨this,.inl ⟨⟨_,rfl,hd⟩,nofun⟩⟩
   |halt x v=>
    cases x<;>first
     |trivial
     |exact⟨this,.inl ⟨⟨_,rfl,hd⟩,nofun⟩⟩
  refine H _ ?_;have h0:∀b:ByteArray,St P (do
   match← sys (.write 2 b)with
   | .int n=>if n !=b.size then unsupported (.noEntry "a report that its descriptor cannot take whole")
   | .err _=>pure ()
   |_=>unsupported (.noEntry "a report that its descriptor cannot take whole"):Sem Unit):=by
   intro b;refine⟨⟨⟨_,rfl,trivial⟩,fun v=> ?_⟩⟩;cases v<;>first
    |trivial
    |(
     show jW P (if _ then _ else _);split <;>trivial)
  repeat' (first
   |exact zq2
   |exact h0 _
   |(refine @aS _ _ _ _ _ _ _ _ ?_ (fun _=> ?_))
   |(refine @kT _ _ _ _ _ _ _ _ _ ?_ ?_)
   |split
   |(intro _)
   |dsimp only)
theorem J8{d:Dying}(T:bw P)(hd:d.calling=false){w:By}(hw:am w):ls (die P fr d w):=by
 unfold die;split
 ·exact yS hd _ hw
 ·split
  ·split
   ·exact⟨hw,.inl ⟨⟨_,rfl,hd⟩,nofun⟩⟩
   ·exact As hw _ _ _
  ·rename_i v mark rest _;dsimp only;split
   ·exact⟨hw,.inl ⟨⟨_,rfl,hd⟩,nofun⟩⟩
   ·rename_i s _;have:=nZ (wL (P:=P) s) hw;generalize (withAddress s).run P w=r at this ⊢;cases r with
    |ok a u=>exact⟨this,.inl ⟨⟨_,rfl,hd⟩,nofun⟩⟩
    |halt x u=>trivial
   ·rename_i t recv name _;have hH:=ca (eL T.toei (.fn (.method name) #[]) #[.iface t recv]).st w #[] hw;generalize (invoke (.fn (.method name) #[]) #[.iface t recv]).runT P w #[]=x at hH ⊢;obtain⟨r,e0⟩:=x;dsimp only;refine Av ?_;split
    ·exact⟨hH,.inr ⟨⟨mv T _ _ _,nofun,nofun,fun _=>rfl⟩,_,rfl,rfl⟩⟩
    ·exact⟨hH,.inl ⟨⟨_,rfl,hd⟩,nofun⟩⟩
    ·trivial
    ·exact uz hH
    ·trivial
   ·trivial
theorem CX{g:AS}{w:By}(T:bw P)(hw:am w)(hz:Dz g):ls (stepG P main g w):=by
 rcases hz with⟨⟨d,h1,h2⟩,h3⟩|⟨hj,d,h1,h2⟩
 ·obtain⟨fr,cs,st,dy,off⟩:=g;dsimp only at h1;subst h1;obtain⟨a,b,c,e,f,i,j⟩:=d;dsimp only at h2;subst h2;exact J8 (P:=P) T rfl hw
 ·have:=zf (main:=main) T hw hj fun d' h=>by rw[h1]at h;cases h;exact h2
  revert this;rw[h1];cases stepG P main g w with
  |go g' w' es=>
   rintro⟨h0,⟨h3,h4⟩|h3⟩
   ·exact⟨h0,.inr ⟨h4,d,h3,h2⟩⟩
   ·exact⟨h0,.inl h3⟩
  |comm g' a b c w' es=>rintro⟨_,h0,h3,_,_⟩;exact⟨h0,by rw[h3];rfl⟩
  |_=>exact fun h=>h
end
end
section
open Go.Conc
variable[aJ]
def ed:Rest:= {timers:=#[],alone:=none,slice:=none}
theorem cE(P:OF)(h k:Nat)(v:PG):finishPartner P #[ph] h k v=#[ph]:=by
 unfold finishPartner;apply Array.ext_getElem?;intro i;rw[Array.getElem?_modify];split
 ·cases hi:(#[ph]:Array AS)[i]? with
  |none=>rfl
  |some x=>
   have:x=ph:=by
    cases i with
    |zero=>simp at hi;exact hi.symm
    |succ i=>simp at hi
   subst this;rfl
 ·rfl
theorem d9(r:Nat)(b:Bool):partners #[ph] r b=[]:=partners_nil fun j g hj=>by
 cases j with
 |zero=>simp at hj;subst hj;exact offersAt_ph r b
 |succ j=>simp at hj
theorem Gd{g:AS}(h:JG g)(v:PG):JG {g with frame:=g.frame.finish v,status:=.running,offers:=none}:=
 ⟨fo h.1 v,h.2.1,nofun,aq (ap _ _) h.2.2.2⟩
theorem IH{g:AS}(h:JG g)(vs:List PanicEntry)(hs:g.status= .running):JG {g with frame:=g.frame.raise vs}:=
 ⟨iA h.1 vs,h.2.1,h.2.2.1,aq (ax _ _) h.2.2.2⟩
def Hi(g:AS)(w:By)(s:Stepped):Prop:=
 match s with
 | .next m=>∃g' w',m=oneG g' w'∧g'.dying=g.dying∧(g'.status= .running∨g'.status= .blocked)∧(JG g→JG g')∧(am w→am w')
 | .ended _ _=>True
theorem AB{P:OF}{g:AS}(hst:g.status= .running)(cases:Array CommCase)(blocking:Bool)(shape:CommShape)(w:By):Hi g w (IT P ed #[ph] 0 g cases blocking shape w).1:=by
 have hput:∀(w1 w2:By)(v:PG),(am w→am w2)→Hi g w (.next {world:=w2,gs:=(#[ph]:Array AS).setIfInBounds 0 {g with frame:=g.frame.finish v,status:=.running,offers:=none},rest:=ed}):=
  fun w1 w2 v h=>⟨_,w2,rfl,rfl,.inl rfl,fun hj=>Gd hj v,h⟩
 unfold IT;dsimp only;split
 ·trivial
 split
 ·split
  ·split
   ·rename_i w1 hw1;have:w1=w:=by
     unfold waitingAt at hw1;have ht:timerAhead ed w.os.mono cases=false:=timerAhead_crowd #[] w none w.os.mono cases;rw[ht]at hw1;simpa using hw1.symm
    subst this;exact⟨_,_,rfl,rfl,.inr rfl,fun hj=>⟨hj.1,hj.2.1,nofun,hj.2.2.2⟩,id⟩
   ·trivial
  ·exact hput w _ _ id
 ·split
  ·trivial
  ·rename_i k c way w1 heq;have hh:am w→am w1:=fun hw=>by
    have h2:=congrArg (fun r=>am (di r)) heq;dsimp only[di]at h2;rw[← h2];refine nZ (P:=P) ?_ hw;repeat' (first
     |exact zq2
     |(refine @aS _ _ _ _ _ _ _ _ ?_ (fun _=> ?_))
     |split
     |dsimp only)
   split
   ·split
    ·rename_i heq2;have h0:am w→am _:=fun hw=>by
      have h2:am (di (Sem.run P (runtimePanic (.plain "send on closed channel"):Sem Unit) w1)):=nZ (P:=P) zq2 (hh hw);rw[heq2]at h2;exact h2
     exact⟨_,_,rfl,rfl,.inl hst,fun hj=>IH hj _ hst,h0⟩
    ·trivial
   ·exact hput w _ _ hh
   ·exact hput w _ _ fun hw=>eH (hh hw) trivial
   ·simp only[d9];exact hput w _ _ fun hw=>eH (hh hw) trivial
   ·simp only[cE];exact hput w _ _ fun hw=>eH (hh hw) trivial
   ·simp only[cE];exact hput w _ _ fun hw=>eH (hh hw) trivial
   ·trivial
section
variable{P:OF}
theorem DK{g:AS}{w:By}(hs:g.status≠.running)(hz:∀t,g.status≠.sleeping t):∀m,step P (oneG g w)= .next m→m=oneG g w:=by
 obtain⟨fr,cs,st,dy,off⟩:=g;intro m h;dsimp only at hs hz;cases st with
 |running=>exact absurd rfl hs
 |sleeping t=>exact absurd rfl (hz t)
 |waiting=>
  simp[step,stepT,move,ask,askOn,oneG,runnable_eq,due,ahead,Goroutine.canRun,List.range_succ,pure,Sem.run]at h;exact h.symm
 |blocked=>
  exfalso;obtain⟨o',w',he,ho⟩:=endWith_ended w 2 (bytes "fatal error: all goroutines are asleep - deadlock!\n") (.fatal "all goroutines are asleep - deadlock!");simp[step,stepT,move,ask,askOn,oneG,runnable_eq,due,ahead,Goroutine.canRun,List.range_succ,pure,Sem.run]at h;rw[he]at h;cases h
 |parked=>
  exfalso;obtain⟨o',w',he,ho⟩:=endWith_ended w 2 (bytes "fatal error: all goroutines are asleep - deadlock!\n") (.fatal "all goroutines are asleep - deadlock!");simp[step,stepT,move,ask,askOn,oneG,runnable_eq,due,ahead,Goroutine.canRun,List.range_succ,pure,Sem.run]at h;rw[he]at h;cases h
 |finished=>
  exfalso;obtain⟨o',w',he,ho⟩:=endWith_ended w 2 (bytes "fatal error: no goroutines (main called runtime.Goexit) - deadlock!\n") (.fatal "no goroutines (main called runtime.Goexit) - deadlock!");simp[step,stepT,move,ask,askOn,oneG,runnable_eq,due,ahead,Goroutine.canRun,List.range_succ,pure,Sem.run]at h;rw[he]at h;cases h
theorem FU{g:AS}{w:By}(hs:g.status≠.running)(hz:∀t,g.status≠.sleeping t):∀n m,runN P n (oneG g w)= .next m→m=oneG g w:=by
 intro n;induction n with
 |zero=>intro m h;simp[runN]at h;exact h.symm
 |succ n ih=>
  intro m h;simp only[runN]at h;cases hst:step P (oneG g w)with
  |next m'=>
   rw[hst]at h;have:=DK hs hz m' hst;subst this;exact ih m h
  |ended o w'=>rw[hst]at h;cases h
end
end
section
open Go.Conc
variable[aJ]
structure xo(f:By→GStep)(w:By)(g':AS)(cs:Array CommCase)(bl:Bool)(sh:CommShape)(w':By)(es:Array PJ)(k m:Nat):Prop where
 le:k≤m
 tape:w'.tape=w.tape
 drawn:w'.drawn=w.drawn+m
 shift:∀τ d,Agree k w τ d→f (af w τ d)= .comm g' cs bl sh (af w' τ (d+m)) es
section
variable{P:OF}{main:Bool}{fr:IS}{callers:List IS}{dy:Option Dying}{w w':By}{g':AS}{cs:Array CommCase}{bl:Bool}{sh:CommShape}{es:Array PJ}
theorem bC{e:Array PJ}{s:GStep}(h:Q3 e s= .comm g' cs bl sh w' es):∃e2,s= .comm g' cs bl sh w' e2∧es=e++e2:=by
 cases s<;>simp only[Q3]at h<;>first |cases h|skip
 exact⟨_,rfl,rfl⟩
theorem vV{g:Nat}(h:early P fr callers dy g w= .comm g' cs bl sh w' es):False:=by
 unfold early at h;dsimp only at h;repeat' split at h
 all_goals cases h
theorem mR{m:String}(h:endFatal P fr callers dy m w= .comm g' cs bl sh w' es):False:=by
 unfold endFatal at h;dsimp only at h;split at h<;>cases h
theorem mS{v:PG}(h:doReturn P main fr callers dy v w= .comm g' cs bl sh w' es):False:=by
 unfold doReturn at h;repeat' split at h
 all_goals cases h
theorem nw{s:Sem Next}[hs:St P s](hw:am w)(h:stepG.apply P true fr callers dy s w= .comm g' cs bl sh w' es):
 ∃k m,xo (fun w=>stepG.apply P true fr callers dy s w) w g' cs bl sh w' es k m:=by
 rcases dJ (P:=P) (s:=s) hw #[]with⟨k,m,hk,hL⟩|⟨x0,wx,hx,hdd⟩
 ·have h1:=hL.tape;have h2:=hL.drawn;have h3:=hL.shift;clear hL;unfold stepG.apply at h;simp only[if_true]at h;generalize hr:s.runT P w #[]=x at h h1 h2 h3;obtain⟨r,e0⟩:=x;cases r with
  |ok n v=>
   cases n;case comm a b c=>
    dsimp only at h h1 h2 h3;obtain⟨e2,h4,rfl⟩:=bC h;cases h4;exact⟨k,m,hk,h1,h2,fun τ d ha=>by simp only[stepG.apply,if_true,h3 τ d ha,cr];rfl⟩
   all_goals
    dsimp only at h;obtain⟨e2,h4,_⟩:=bC h;exfalso;first
     |(cases h4;done)
     |(
      repeat' split at h4
      all_goals cases h4)
  |halt x v=>
   exfalso;cases x;case unsupported u=>
    cases u;case initOrder g=>
     dsimp only at h;obtain⟨e2,h4,_⟩:=bC h;exact vV h4
    all_goals
     dsimp only at h;obtain⟨e2,h4,_⟩:=bC h;cases h4
   case fatal c=>
    dsimp only at h;obtain⟨e2,h4,_⟩:=bC h;exact mR h4
   all_goals
    dsimp only at h;obtain⟨e2,h4,_⟩:=bC h;cases h4
 ·exfalso;unfold stepG.apply at h;simp only[if_true]at h;generalize s.runT P w #[]=y at h hx;obtain⟨r,e0⟩:=y;dsimp only at hx;subst hx;cases x0;case unsupported u=>
   cases u<;>first
    |exact hdd.elim
    |(obtain⟨e2,h4,_⟩:=bC h;cases h4;done)
  all_goals first
   |exact hdd.elim
   |(obtain⟨e2,h4,_⟩:=bC h;cases h4;done)
theorem tv{d:PY}(h:callDeferred P fr callers dy d w= .comm g' cs bl sh w' es):False:=by
 unfold callDeferred at h;rcases ij h with⟨hc,h⟩|⟨hc,h⟩
 ·cases h
 generalize (invoke d.target d.args).runT P w #[]=x at h;obtain⟨r,e0⟩:=x;cases r with
 |ok n v=>
  cases n;case alone on u=>cases on<;>(obtain⟨e2,h4,_⟩:=bC h;cases h4)
  case coroswitch c ex=>cases ex<;>(obtain⟨e2,h4,_⟩:=bC h;cases h4)
  all_goals
   dsimp only at h;obtain⟨e2,h4,_⟩:=bC h;first
    |(cases h4;done)
    |(
     repeat' split at h4
     all_goals cases h4)
 |halt x v=>
  cases x;case fatal c=>
   dsimp only at h;obtain⟨e2,h4,_⟩:=bC h;exact mR h4
  all_goals
   dsimp only at h;obtain⟨e2,h4,_⟩:=bC h;cases h4
theorem pt(h:unwind P main fr callers dy w= .comm g' cs bl sh w' es):False:=by
 unfold unwind at h;split at h
 ·generalize (PP _).runT P w #[]=x at h;obtain⟨r,e0⟩:=x;obtain⟨e2,h4,_⟩:=bC h;cases r<;>cases h4
 ·exact tv h
 ·split at h
  ·cases h
  ·rcases ij h with⟨hc,h⟩|⟨hc,h⟩
   ·cases h
   ·split at h
    ·cases h
    ·split at h
     ·rcases ij h with⟨hc,h⟩|⟨hc,h⟩
      ·cases h
      ·split at h<;>cases h
     ·split at h
      ·unfold endPrinting at h;dsimp only at h;split at h<;>cases h
      ·cases h
  ·split at h
   ·exact mS h
   ·generalize (results _ _).runT P w #[]=x at h;obtain⟨r,e0⟩:=x;obtain⟨e2,h4,_⟩:=bC h;cases r with
    |ok a v=>exact mS h4
    |halt x v=>cases x<;>cases h4
theorem FS(T:bw P)(hw:am w)(h:stepG.oper P true fr callers dy w= .comm g' cs bl sh w' es):
 ∃k m,xo (fun w=>stepG.oper P true fr callers dy w) w g' cs bl sh w' es k m:=by
 unfold stepG.oper at h;cases ho:fr.oper? with
 |none=>rw[ho]at h;cases h
 |some o=>
  simp only[ho]at h;suffices H:∀s:Sem Next,St P s→stepG.apply P true fr callers dy s w= .comm g' cs bl sh w' es→(∀u,stepG.oper P true fr callers dy u=stepG.apply P true fr callers dy s u)→∃k m,xo (fun w=>stepG.oper P true fr callers dy w) w g' cs bl sh w' es k m by
   cases hr:fr.roundOf with
   |none=>
    simp only[hr]at h;exact H _ (by first |exact gq T.toei _ _|exact ec _ _ _ _) h fun u=>by unfold stepG.oper;simp only[ho,hr]
   |some l=>
    cases hop:o.op with
    |defer c=>
     simp only[hr,hop]at h;exact H _ (by first |exact gq T.toei _ _|exact ec _ _ _ _) h fun u=>by unfold stepG.oper;simp only[ho,hr,hop]
    |_=>
     simp only[hr,hop]at h;exact H _ (by first |exact gq T.toei _ _|exact ec _ _ _ _) h fun u=>by unfold stepG.oper;simp only[ho,hr,hop]
  intro s hS hs hu;obtain⟨k,m,l,a,b,c⟩:=nw (hs:=hS) hw hs;exact⟨k,m,l,a,b,fun τ d ha=>(hu _).trans (c τ d ha)⟩
theorem nj{l:Nat}{jump:Option Code}(h:Q3 (seen P fr.fn ((PX l jump).runT P w #[]).2) (match((PX l jump).runT P w #[]).1 with
 | .ok v w=>doReturn P main fr callers dy v w
 | .halt _ w=>.ended (.stuck "range over a function: no such loop" (fr.pos P)) w)= .comm g' cs bl sh w' es):False:=by
 generalize (PX l jump).runT P w #[]=x at h;obtain⟨r,e0⟩:=x;obtain⟨e2,h4,_⟩:=bC h;cases r with
 |ok a v=>exact mS h4
 |halt x v=>cases h4
theorem GH(T:bw P)(hw:am w)(hj:dc fr)(h:stepG.exec P main true fr callers dy w= .comm g' cs bl sh w' es):
 ∃k m,xo (fun w=>stepG.exec P main true fr callers dy w) w g' cs bl sh w' es k m:=by
 cases ht:fr.todo with
 |nil=>
  exfalso;unfold stepG.exec at h;simp only[ht]at h;cases hr:fr.roundOf with
  |none=>simp only[hr]at h;cases h
  |some l=>simp only[hr]at h;exact nj h
 |cons it rest=>
  cases it with
  |code c=>
   cases c with
   |rangeFunc f params assign body=>
    unfold stepG.exec at h;simp only[ht]at h;have h0:cW assign=true∧cW body=true:=by
     have:=hj.1 (.code (.rangeFunc f params assign body)) (by rw[ht];exact AI ..);simpa[jz,cW]using this
    have hH:=ca (cT P fr.fn fr.tmps params assign body fr.roundOf h0.1 h0.2).st w #[] hw;rcases dJ (P:=P) (s:=PO fr.fn fr.tmps params assign body fr.roundOf) (hs:=cT P fr.fn fr.tmps params assign body fr.roundOf h0.1 h0.2) hw #[]with⟨k,m,hk,hL⟩|⟨x0,wx,hx,hdd⟩
    rotate_left
    ·exfalso;generalize (PO fr.fn fr.tmps params assign body fr.roundOf).runT P w #[]=y at h hx;obtain⟨r,e0⟩:=y;dsimp only at hx;subst hx;obtain⟨e2,h4,_⟩:=bC h;cases h4
    have h1:=hL.tape;have h2:=hL.drawn;have h3:=hL.shift;clear hL;generalize hx:(PO fr.fn fr.tmps params assign body fr.roundOf).runT P w #[]=x at h h1 h2 h3 hH;obtain⟨r,e0⟩:=x;obtain⟨e2,h4,rfl⟩:=bC h;cases r with
    |halt x v=>dsimp only at h4;cases h4
    |ok a v=>
     obtain⟨l,mark⟩:=a;dsimp only at h4 h1 h2 h3;obtain⟨k2,m2,l2,a2,b2,c2⟩:=nw (hs:= @aS _ _ _ _ _ _ _ _ zq2 fun d=>eL T.toei _ _) hH h4;refine⟨m+k2,m+m2,by omega,a2.trans h1,by rw[b2,← PM];exact congrArg (· +m2) h2,fun τ d' ha=> ?_⟩;unfold stepG.exec;simp only[ht,h3 τ d' (ha.le (by omega)),cr];have:=c2 τ (d'+m) (Agree.tail (w:=w) (k:=m) ha (by omega) h1 h2);dsimp only[di]at this;rw[this,← PM];rfl
   |region id ops draw=>
    exfalso;unfold stepG.exec at h;simp only[ht]at h;rcases ij h with⟨_,h⟩|⟨_,h⟩
    ·cases h
    ·split at h<;>cases h
   |ret=>
    exfalso;unfold stepG.exec at h;simp only[ht]at h;cases hr:fr.roundOf with
    |none=>simp only[hr]at h;cases h
    |some l=>simp only[hr]at h;exact nj h
   |exit id=>
    exfalso;unfold stepG.exec at h;simp only[ht]at h;cases he:exitTo id rest with
    |some k=>simp only[he,Option.elim]at h;cases h
    |none=>
     simp only[he,Option.elim]at h;cases hr:fr.roundOf with
     |none=>simp only[hr]at h;cases h
     |some l=>simp only[hr]at h;exact nj h
   |goto id=>
    exfalso;unfold stepG.exec at h;simp only[ht]at h;cases he:gotoIn id rest with
    |some k=>simp only[he,Option.elim]at h;cases h
    |none=>
     simp only[he,Option.elim]at h;cases hr:fr.roundOf with
     |none=>simp only[hr]at h;cases h
     |some l=>simp only[hr]at h;exact nj h
   |cond c thn els=>
    exfalso;unfold stepG.exec at h;simp only[ht]at h;split at h<;>cases h
   |_=>
    exfalso;unfold stepG.exec at h;simp only[ht]at h;cases h
  |beginRound=>
   have hU:∀u,stepG.exec P main true fr callers dy u=stepG.apply P true fr callers dy (do fr.roundOf.elim (stuck "beginRound: no round") Instr.beginRound;pure .skip) u:=fun u=>by unfold stepG.exec;simp only[ht]
   rw[hU]at h;obtain⟨k,m,l,a,b,c⟩:=nw (hs:= @aS _ _ _ _ _ _ _ _ (by cases fr.roundOf with |none=>exact qx P _|some l=>exact dW P l) fun _=>zq2) hw h;exact⟨k,m,l,a,b,fun τ d ha=>(hU _).trans (c τ d ha)⟩
  |call d a b c=>exact(hj.1 (.call d a b c) (by rw[ht];exact AI ..)).elim
  |extern row args=>
   have hrow:row=printRow:=hj.1 (.extern row args) (by rw[ht];exact AI ..);subst hrow;have hU:∀u,stepG.exec P main true fr callers dy u=stepG.apply P true fr callers dy (Extern.PrintPieces.piece #[] #[] args) u:=fun u=>by unfold stepG.exec;simp only[ht,l8,Option.elim]
   rw[hU]at h;obtain⟨k,m,l,a,b,c⟩:=nw (hs:=ly P _ _ _) hw h;exact⟨k,m,l,a,b,fun τ d ha=>(hU _).trans (c τ d ha)⟩
  |endRangeFunc l=>
   exfalso;unfold stepG.exec at h;simp only[ht]at h;generalize (PZ l).runT P w #[]=x at h;obtain⟨r,e0⟩:=x;obtain⟨e2,h4,_⟩:=bC h;cases r with
   |ok a v=>cases h4
   |halt x v=>cases x<;>cases h4
  |inRegion ops todo=>
   cases todo with
   |nil=>
    exfalso;unfold stepG.exec at h;simp only[ht]at h;cases h
   |cons i is=>
    cases hwn:((ops[i]?).map (Region.wanted · (yielded ops fr.tmps))).getD false with
    |true=>
     have hU:∀u,stepG.exec P main true fr callers dy u=stepG.oper P true fr callers dy u:=fun u=>by unfold stepG.exec;simp only[ht,hwn,if_true]
     rw[hU]at h;obtain⟨k,m,l,a,b,c⟩:=FS T hw h;exact⟨k,m,l,a,b,fun τ d ha=>(hU _).trans (c τ d ha)⟩
    |false=>
     exfalso;unfold stepG.exec at h;simp only[ht,hwn,Bool.false_eq_true,if_false]at h;cases h
  |_=>
   exfalso;unfold stepG.exec at h;simp only[ht]at h;cases h
theorem Aw{d:Dying}(h:die P fr d w= .comm g' cs bl sh w' es):False:=by
 unfold die at h;split at h
 ·unfold writeOn at h;split at h
  ·cases h
  ·dsimp only at h;split at h<;>cases h
 ·split at h
  ·rcases ij h with⟨_,h⟩|⟨_,h⟩
   ·cases h
   ·unfold endWith at h;dsimp only at h;split at h
    ·split at h<;>cases h
    ·cases h
    ·cases h
  ·dsimp only at h;split at h
   ·cases h
   ·split at h<;>cases h
   ·generalize (invoke _ _).runT P w #[]=x at h;obtain⟨r,e0⟩:=x;obtain⟨e2,h4,_⟩:=bC h;split at h4
    ·cases h4
    ·cases h4
    ·cases h4
    ·unfold endPrinting at h4;dsimp only at h4;split at h4<;>cases h4
    ·cases h4
   ·cases h
theorem stepG_comm{g:AS}(T:bw P)(hw:am w)(hj:(∀d,g.dying=some d→d.calling=true)→dc g.frame)(h:stepG P main g w= .comm g' cs bl sh w' es):
 ∃k m,xo (fun w=>stepG P main g w) w g' cs bl sh w' es k m:=by
 obtain⟨fr,cl,st,dy,off⟩:=g;dsimp only at hj;have h0:(∀d,dy=some d→d.calling=true)→∃k m,xo (fun w=>stepG P main ⟨fr,cl,st,dy,off⟩ w) w g' cs bl sh w' es k m:=by
  intro hl;have hj:=hj hl;cases hm:fr.mode with
  |run=>
   have hU:∀u,stepG P main ⟨fr,cl,st,dy,off⟩ u=stepG.exec P main true fr cl dy u:=fun u=>by
    unfold stepG;simp only[hm];split
    ·have:=hl _ rfl;cases this
    ·rfl
    ·rename_i hn;exact(hn rfl).elim
   rw[hU]at h;obtain⟨k,m,l,a,b,c⟩:=GH T hw hj h;exact⟨k,m,l,a,b,fun τ d ha=>(hU _).trans (c τ d ha)⟩
  |returning=>
   exfalso;have hU:stepG P main ⟨fr,cl,st,dy,off⟩ w=unwind P main fr cl dy w:=by
    unfold stepG;simp only[hm];split
    ·have:=hl _ rfl;cases this
    ·rename_i hn;cases hn
    ·rfl
   rw[hU]at h;exact pt h
  |panicking chain=>
   exfalso;have hU:stepG P main ⟨fr,cl,st,dy,off⟩ w=unwind P main fr cl dy w:=by
    unfold stepG;simp only[hm];split
    ·have:=hl _ rfl;cases this
    ·rename_i hn;cases hn
    ·rfl
   rw[hU]at h;exact pt h
 cases dy with
 |none=>exact h0 fun d hd=>by cases hd
 |some d=>
  cases hc:d.calling with
  |true=>exact h0 fun d' hd=>by cases hd;exact hc
  |false=>
   exfalso;obtain⟨a,b,c,e,f,i,j⟩:=d;dsimp only at hc;subst hc;exact Aw (P:=P) h
end
end
section
open Go.Conc
variable[aJ]
theorem je(w:By)(τ:Nat→No→Nat)(d:Nat)(gs:Array AS):ways (af w τ d) gs=ways w gs:=rfl
theorem tz(cases:Array CommCase)(w:By):waitingAt ed cases w=some w:=by
 unfold waitingAt;rw[show timerAhead ed w.os.mono cases=false from timerAhead_crowd #[] w none w.os.mono cases];rfl
theorem HX{α:Type}{P:OF}{s:Sem α}{w w1:By}{a:α}(hs:St P s)(hw:am w)(h:s.run P w= .ok a w1):
 ∃k m,k≤m∧w1.tape=w.tape∧w1.drawn=w.drawn+m∧∀τ d,Agree k w τ d→s.run P (af w τ d)= .ok a (af w1 τ (d+m)):=by
 rcases dJ (P:=P) (s:=s) hw #[]with⟨k,m,hk,hL⟩|⟨x0,wx,hx,hdd⟩
 ·obtain⟨h1,h2,h3⟩:=sZ hL h;exact⟨k,m,hk,h1,h2,h3⟩
 ·rw[Sem.runT_fst,h]at hx;cases hx
set_option maxHeartbeats 8000000 in
theorem AA{P:OF}{g g2:AS}{cases:Array CommCase}{bl:Bool}{sh:CommShape}{w w2:By}(hw:am w)(h:(IT P ed #[ph] 0 g cases bl sh w).1= .next (oneG g2 w2)):
 ∃k m,k≤m∧w2.tape=w.tape∧w2.drawn=w.drawn+m∧∀τ d,Agree k w τ d→(IT P ed #[ph] 0 g cases bl sh (af w τ d)).1= .next (oneG g2 (af w2 τ (d+m))):=by
 have hput:∀(a:AS)(u:By)(ops:Array MemOp),((Stepped.next {world:=u,gs:=(#[ph]:Array AS).setIfInBounds 0 a,rest:=ed},ops):Stepped×Array MemOp).1= .next (oneG a u):=fun a u ops=>rfl
 have hone:∀{a b:AS}{u v:By},Stepped.next (oneG a u)= .next (oneG b v)→a=b∧u=v:=by
  intro a b u v h;simp only[oneG,Stepped.next.injEq,Machine.mk.injEq,Array.mk.injEq,List.cons.injEq,and_true]at h;exact⟨h.2,h.1⟩
 unfold IT at h;dsimp only at h;split at h
 ·cases h
 ·rename_i h0;split at h
  ·rename_i hr;split at h
   ·rename_i hb;rw[tz]at h;obtain⟨rfl,rfl⟩:=hone h;refine⟨0,0,Nat.le_refl _,rfl,rfl,fun τ d _=> ?_⟩;unfold IT;simp only[je,dm];rw[if_neg h0,if_pos hr,if_pos hb,tz];rfl
   ·rename_i hb;obtain⟨rfl,rfl⟩:=hone h;refine⟨0,0,Nat.le_refl _,rfl,rfl,fun τ d _=> ?_⟩;unfold IT;simp only[je,dm];rw[if_neg h0,if_pos hr,if_neg hb];rfl
  ·rename_i hr;split at h
   ·cases h
   ·rename_i k c way w1 heq;obtain⟨k0,m0,hk,h1,h2,h3⟩:=HX (P:=P) (hs:=by
     repeat' (first
      |exact zq2
      |(refine @aS _ _ _ _ _ _ _ _ ?_ (fun _=> ?_))
      |split
      |dsimp only)) hw heq
    have hp0:∀u:By,(runtimePanic (.plain "send on closed channel"):Sem Unit).run P u= .halt (.panic (.iface P.rt.plainError (strVal "send on closed channel"))) u:=fun u=>rfl
    obtain⟨ch,sd,z⟩:=c;cases ch;case chan oc=>
     cases oc with
     |some r=>
      dsimp only at h;cases ho:w1.heap[r]? with
      |none=>
       cases way<;>cases sd<;>simp only[ho,hp0]at h<;>first
        |(cases h;done)
        |(
         obtain⟨rfl,rfl⟩:=hone h;refine⟨k0,m0,hk,h1,h2,fun τ d ha=> ?_⟩;unfold IT;simp only[je,dm];rw[if_neg h0,if_neg hr,h3 τ d ha];dsimp only[cr];try simp only[dm,ho,hp0,d9,cE]
         rfl)
      |some o=>
       cases o;all_goals
        cases way<;>cases sd<;>simp only[ho,hp0,d9,cE]at h<;>first
         |(cases h;done)
         |(
          obtain⟨rfl,rfl⟩:=hone h;refine⟨k0,m0,hk,h1,h2,fun τ d ha=> ?_⟩;unfold IT;simp only[je,dm];rw[if_neg h0,if_neg hr,h3 τ d ha];dsimp only[cr];try simp only[dm,ho,hp0,d9,cE]
          rfl)
     |none=>
      dsimp only at h;cases ho:w1.heap[0]? with
      |none=>
       cases way<;>cases sd<;>simp only[ho,hp0]at h<;>first
        |(cases h;done)
        |(
         obtain⟨rfl,rfl⟩:=hone h;refine⟨k0,m0,hk,h1,h2,fun τ d ha=> ?_⟩;unfold IT;simp only[je,dm];rw[if_neg h0,if_neg hr,h3 τ d ha];dsimp only[cr];try simp only[dm,ho,hp0,d9,cE]
         rfl)
      |some o=>
       cases o;all_goals
        cases way<;>cases sd<;>simp only[ho,hp0,d9,cE]at h<;>first
         |(cases h;done)
         |(
          obtain⟨rfl,rfl⟩:=hone h;refine⟨k0,m0,hk,h1,h2,fun τ d ha=> ?_⟩;unfold IT;simp only[je,dm];rw[if_neg h0,if_neg hr,h3 τ d ha];dsimp only[cr];try simp only[dm,ho,hp0,d9,cE]
          rfl)
    all_goals
     dsimp only at h;cases ho:w1.heap[0]? with
     |none=>
      cases way<;>cases sd<;>simp only[ho,hp0]at h<;>first
       |(cases h;done)
       |(
        obtain⟨rfl,rfl⟩:=hone h;refine⟨k0,m0,hk,h1,h2,fun τ d ha=> ?_⟩;unfold IT;simp only[je,dm];rw[if_neg h0,if_neg hr,h3 τ d ha];dsimp only[cr];try simp only[dm,ho,hp0,d9,cE]
        rfl)
     |some o=>
      cases o;all_goals
       cases way<;>cases sd<;>simp only[ho,hp0,d9,cE]at h<;>first
        |(cases h;done)
        |(
         obtain⟨rfl,rfl⟩:=hone h;refine⟨k0,m0,hk,h1,h2,fun τ d ha=> ?_⟩;unfold IT;simp only[je,dm];rw[if_neg h0,if_neg hr,h3 τ d ha];dsimp only[cr];try simp only[dm,ho,hp0,d9,cE]
         rfl)
end
section
variable[aJ]
section
variable{P:OF}{main:Bool}{fr:IS}{cs:List IS}{dy:Option Dying}{w:By}{τ:Nat→No→Nat}{d:Nat}
theorem C6(m:String):(endFatal P fr cs dy m w).es=#[]:=by
 unfold endFatal;dsimp only;split <;>rfl
theorem En(fd:Nat)(t:ByteArray)(o:Outcome):(endWith w fd t o).es=#[]:=by
 unfold endWith;dsimp only;repeat' split
 all_goals rfl
end
end
section
open Go.Conc
variable[aJ]
def Big(_:Array PJ):Prop:=False
inductive iu(P:OF)(g:AS)(w:By):AS→By→Array PJ→Prop
 |go {g' w' es}:stepG P true g w= .go g' w' es→iu P g w g' w' es
 |comm {g1 cs bl sh w1 es g' w'}:stepG P true g w= .comm g1 cs bl sh w1 es→(IT P ed #[ph] 0 g1 cs bl sh w1).1= .next (oneG g' w')→iu P g w g' w' es
inductive Tree(P:OF)(K:AS→By→Prop):AS→By→Prop
 |stop {g w}:K g w→Tree P K g w
 |step {g w} (G:(Nat→No→Nat)→Nat→AS) (W:(Nat→No→Nat)→Nat→By) (E:(Nat→No→Nat)→Nat→Array PJ):g.status= .running→
  (∀τ d,¬ Big (stepG P true g (af w τ d)).es→iu P g (af w τ d) (G τ d) (W τ d) (E τ d))→(∀τ d,¬ Big (stepG P true g (af w τ d)).es→Tree P K (G τ d) (W τ d))→Tree P K g w
def Iv(g:AS)(w:By):Prop:=am w∧(Mw g∨(JG g∧∀d,g.dying=some d→d.calling=true))
def B0(P:OF)(K:AS→By→Prop)(n:Nat)(g:AS)(w:By):Prop:=∃g' w',runN P n (oneG g w)= .next (oneG g' w')∧K g' w'
def yf(P:OF)(K:AS→By→Prop)(g:AS)(w:By):Prop:=∃n,B0 P K n g w
section
variable{P:OF}
theorem ze{g g':AS}{w w':By}{es:Array PJ}(hs:g.status= .running)(h:stepG P true g w= .go g' w' es):stepT P (oneG g w)=(.next (oneG g' w'),PW 0 g.frame.fn g.frame.place es):=by
 rw[stepT,move_oneG hs];simp[runT,oneG,Q2,h,Q8]
theorem uW{g g1:AS}{w w1:By}{cs:Array CommCase}{bl:Bool}{sh:CommShape}{es:Array PJ}(hs:g.status= .running)(h:stepG P true g w= .comm g1 cs bl sh w1 es):
 stepT P (oneG g w)=((IT P ed #[ph] 0 g1 cs bl sh w1).1,PW 0 g.frame.fn g.frame.place es++(IT P ed #[ph] 0 g1 cs bl sh w1).2):=by
 rw[stepT,move_oneG hs];simp[runT,oneG,Q2,h,Q8,ed,ph]
theorem Bj{g:AS}{w w1:By}{o:Outcome}{es:Array PJ}(hs:g.status= .running)(h:stepG P true g w= .ended o w1 es):
 stepT P (oneG g w)=(.ended o w1,PW 0 g.frame.fn g.frame.place es):=by
 rw[stepT,move_oneG hs];simp[runT,oneG,Q2,h,Q8]
theorem xR{g g':AS}{w w':By}{es:Array PJ}(hs:g.status= .running)(h:iu P g w g' w' es):∃ops,stepT P (oneG g w)=(.next (oneG g' w'),ops):=by
 cases h with
 |go h=>exact⟨_,ze hs h⟩
 |comm h h2=>exact⟨_,(uW hs h).trans (by rw[h2])⟩
theorem ur{a b:AS}{u v:By}(h:oneG a u=oneG b v):a=b∧u=v:=by
 simp only[oneG,Machine.mk.injEq,Array.mk.injEq,List.cons.injEq,and_true]at h;exact⟨h.2,h.1⟩
theorem vJ{g:AS}{w:By}(hI:Iv g w):(∀d,g.dying=some d→d.calling=true)→dc g.frame:=fun h=>by
 rcases hI.2 with⟨⟨d,hd,hc⟩,_⟩|⟨hj,_⟩
 ·have:=h d hd;rw[hc]at this;cases this
 ·exact hj.1
theorem og(T:bw P){g:AS}{w:By}(hI:Iv g w):(∃g' w' es,stepG P true g w= .go g' w' es∧Iv g' w'∧∀t,g'.status≠.sleeping t)∨(∃g1 cs bl sh w1 es,stepG P true g w= .comm g1 cs bl sh w1 es∧(Iv g1 w1∧g1.status= .running)∧aJ.cm)∨∃o w1 es,stepG P true g w= .ended o w1 es:=by
 obtain⟨hw,hI⟩:=hI;rcases hI with hd|⟨hj,hc⟩
 ·have h:=CX (P:=P) (main:=true) T hw (.inl hd);cases hs:stepG P true g w with
  |go g' w' es=>
   rw[hs]at h;refine .inl ⟨g',w',es,rfl,⟨h.1,h.2.imp id fun⟨hj,d,hd,hc⟩=>⟨hj,fun d' hd'=>by rw[hd]at hd';cases hd';exact hc⟩⟩,?_⟩;rcases h.2 with h|h
   ·exact h.2
   ·exact h.1.2.2.1
  |ended o w1 es=>exact .inr (.inr ⟨o,w1,es,rfl⟩)
  |comm g1 cs bl sh w1 es=>
   exfalso;obtain⟨⟨d,h0,hd2⟩,_⟩:=hd;obtain⟨fr,cl,st,dy,off⟩:=g;dsimp only at h0;subst h0;obtain⟨a,b,c,e,f,i,j⟩:=d;dsimp only at hd2;subst hd2;exact Aw (P:=P) hs
  |_=>rw[hs]at h;exact h.elim
 ·have h:=zf (P:=P) (main:=true) T hw hj hc;cases hs:stepG P true g w with
  |go g' w' es=>
   rw[hs]at h;refine .inl ⟨g',w',es,rfl,⟨h.1,?_⟩,?_⟩
   ·rcases h.2 with⟨h1,h2⟩|h2
    ·exact .inr ⟨h2,fun d hd=>hc d (h1▸hd)⟩
    ·exact .inl h2
   ·rcases h.2 with⟨h1,h2⟩|h2
    ·exact h2.2.2.1
    ·exact h2.2
  |ended o w1 es=>exact .inr (.inr ⟨o,w1,es,rfl⟩)
  |comm g1 cs bl sh w1 es=>
   rw[hs]at h;exact .inr (.inl ⟨g1,cs,bl,sh,w1,es,rfl,⟨⟨h.2.1,.inr ⟨h.2.2.2.2,fun d hd=>hc d (h.2.2.1▸hd)⟩⟩,h.2.2.2.1⟩,h.1⟩)
  |_=>rw[hs]at h;exact h.elim
theorem CC{g g':AS}{w w':By}(hI:Iv g w)(hs:g.status= .running){cs:Array CommCase}{bl:Bool}{sh:CommShape}(h:(IT P ed #[ph] 0 g cs bl sh w).1= .next (oneG g' w')):
 am w'∧(g'.status= .running∨g'.status= .blocked)∧g'.dying=g.dying∧(JG g→JG g'):=by
 have hc:=AB (P:=P) hs cs bl sh w;rw[h]at hc;obtain⟨a,b,h0,h1,h2,h3,h4⟩:=hc;obtain⟨rfl,rfl⟩:=ur h0;exact⟨h4 hI.1,h2,h1,h3⟩
theorem nJ(T:bw P){g g':AS}{w w':By}{es:Array PJ}(hI:Iv g w)(h:iu P g w g' w' es):Iv g' w':=by
 rcases og T hI with⟨a,b,c,h1,h2,_⟩|⟨g1,cs,bl,sh,w1,e,h1,⟨h2,h3⟩,_⟩|⟨o,w1,e,h1⟩
 ·cases h with
  |go h=>rw[h1]at h;cases h;exact h2
  |comm h _=>rw[h1]at h;cases h
 ·cases h with
  |go h=>rw[h1]at h;cases h
  |comm h hc=>
   rw[h1]at h;cases h;obtain⟨k1,k2,k3,k4⟩:=CC h2 h3 hc;refine⟨k1,?_⟩;rcases h2.2 with⟨⟨d,hd,h0⟩,hz⟩|⟨hj,hd⟩
   ·refine .inl ⟨⟨d,k3.trans hd,h0⟩,fun t=> ?_⟩;rcases k2 with e|e<;>rw[e]<;>exact nofun
   ·exact .inr ⟨k4 hj,fun d hd'=>hd d (k3▸hd')⟩
 ·cases h with
  |go h=>rw[h1]at h;cases h
  |comm h _=>rw[h1]at h;cases h
theorem wZ(T:bw P){g g':AS}{w w':By}{es:Array PJ}(hI:Iv g w)(h:iu P g w g' w' es)(hr:g'.status= .running):
 ∃m,w'.tape=w.tape∧w'.drawn=w.drawn+m∧∀τ d,Agree m w τ d→iu P g (af w τ d) g' (af w' τ (d+m)) es:=by
 cases h with
 |go h=>
  obtain⟨k,m,hk,h1,h2,h3⟩:=F1 T hI.1 (vJ hI) hr h;exact⟨m,h1,h2,fun τ d ha=>.go (h3 τ d (ha.le hk))⟩
 |comm h hc=>
  obtain⟨k,m,hk,h1,h2,h3⟩:=stepG_comm T hI.1 (vJ hI) h;rename_i gx cx bx sx wx;have hw1:am wx:=by
   rcases og T hI with⟨_,_,_,e,_⟩|⟨g1,cs,bl,sh,w1,e,e1,⟨e2,e3⟩,_⟩|⟨_,_,_,e⟩
   ·rw[h]at e;cases e
   ·rw[h]at e1;cases e1;exact e2.1
   ·rw[h]at e;cases e
  obtain⟨k2,m2,hk2,l1,l2,l3⟩:=AA hw1 hc;refine⟨m+m2,l1.trans h1,by rw[l2,h2,PM],fun τ d ha=> ?_⟩;have:=l3 τ (d+m) (Agree.tail (w:=w) (k:=m) (ha.le (by omega)) (Nat.le_refl _) h1 h2);rw[PM]at this;exact .comm (h3 τ d (ha.le (by omega))) this
end
def From(τ:Nat→No→Nat)(d:Nat)(σ:Nat→No→Nat):Prop:=∀j q,τ (d+j) q=σ j q
section
variable{P:OF}{K:AS→By→Prop}
def pV(P:OF)(K:AS→By→Prop)(s:AS×By):Prop:=Iv s.1 s.2∧s.1.status= .running∧¬ Tree P K s.1 s.2
def r5(P:OF)(K:AS→By→Prop)(s:AS×By):Prop:=∃σ,∀τ d,From τ d σ→¬ yf P K s.1 (af s.2 τ d)
theorem fP{g:AS}{w:By}(h:Iv g w)(τ:Nat→No→Nat)(d:Nat):Iv g (af w τ d):=⟨E4 h.1 τ d,h.2⟩
theorem uu{g:AS}{w:By}(h:B0 P K 0 g w):K g w:=by
 obtain⟨a,b,hr,hk⟩:=h;simp only[runN,Stepped.next.injEq]at hr;obtain⟨rfl,rfl⟩:=ur hr;exact hk
theorem uv{n:Nat}{g g':AS}{w w':By}{ops:Array MemOp}(h:stepT P (oneG g w)=(.next (oneG g' w'),ops))(hh:B0 P K (n+1) g w):B0 P K n g' w':=by
 obtain⟨a,b,hr,hk⟩:=hh;simp only[runN,step,h]at hr;exact⟨a,b,hr,hk⟩
theorem Iu(T:bw P)(h4:∀g w τ d,K g (af w τ d)→K g w)(hKr:∀g w,K g w→g.status= .running){s:AS×By}(hs:pV P K s){τ0:Nat→No→Nat}{d0:Nat}
 (hn:∀g' w' es,iu P s.1 (af s.2 τ0 d0) g' w' es→g'.status≠.running):r5 P K s:=by
 obtain⟨g,w⟩:=s;obtain⟨hI,hr,hT⟩:=hs;refine⟨fun j q=>τ0 (d0+j) q,fun τ d hF hh=> ?_⟩;have hn':∀g' w' es,iu P g (af w τ d) g' w' es→g'.status≠.running:=fun g' w' es h hrun=>by
  obtain⟨m,_,_,h3⟩:=wZ T (fP hI τ d) h hrun;have:=h3 τ0 d0 (fun j _ q=>(hF j q).symm);rw[t7]at this;exact hn _ _ _ this hrun
 obtain⟨n,hN⟩:=hh;cases n with
 |zero=>exact hT (.stop (h4 _ _ _ _ (uu hN)))
 |succ n=>
  have dead:∀(g':AS)(w':By)(ops:Array MemOp),stepT P (oneG g (af w τ d))=(.next (oneG g' w'),ops)→g'.status≠.running→(∀t,g'.status≠.sleeping t)→False:=fun g' w' ops hst h1 h2=>by
   obtain⟨a,b,h0,hk⟩:=uv hst hN;have:=FU h1 h2 _ _ h0;obtain⟨rfl,rfl⟩:=ur this;exact h1 (hKr _ _ hk)
  have gone:∀(o:Outcome)(w':By)(ops:Array MemOp),stepT P (oneG g (af w τ d))=(.ended o w',ops)→False:=fun o w' ops hst=>by
   obtain⟨a,b,h0,hk⟩:=hN;simp only[runN,step,hst]at h0;cases h0
  rcases og T (fP hI τ d)with⟨a,b,c,h1,h2,h3⟩|⟨g1,cs,bl,sh,w1,e,h1,⟨h2,h3⟩,_⟩|⟨o,w1,e,h1⟩
  ·exact dead _ _ _ (ze hr h1) (hn' _ _ _ (.go h1)) h3
  ·have hst:=uW hr h1;have hc:=AB (P:=P) h3 cs bl sh w1;cases hx:(IT P ed #[ph] 0 g1 cs bl sh w1).1 with
   |next m=>
    rw[hx]at hc;obtain⟨g',w',rfl,_,_,_,_⟩:=hc;obtain⟨k1,k2,k3,k4⟩:=CC h2 h3 hx;rw[hx]at hst;have hnr:=hn' _ _ _ (.comm h1 hx);refine dead _ _ _ hst hnr fun t ht=> ?_
    rcases k2 with e|e<;>rw[e]at ht<;>cases ht
   |ended o w'=>rw[hx]at hst;exact gone _ _ _ hst
  ·exact gone _ _ _ (Bj hr h1)
theorem G9(T:bw P)(h0:∀g w τ d,K g (af w τ d)→K g w){s s':AS×By}(hs:pV P K s)(h1:pV P K s'){τ0:Nat→No→Nat}{d0:Nat}{es:Array PJ}
 (h:iu P s.1 (af s.2 τ0 d0) s'.1 s'.2 es) (hl:r5 P K s'):r5 P K s:=by
 obtain⟨g,w⟩:=s;obtain⟨g',w'⟩:=s';obtain⟨hI,hr,hT⟩:=hs;obtain⟨m,l1,l2,l3⟩:=wZ T (fP hI τ0 d0) h h1.2.1;obtain⟨σ,hσ⟩:=hl;refine⟨fun j q=>if j<m then τ0 (d0+j) q else σ (j-m) q,fun τ d hF hh=> ?_⟩;have hone:=l3 τ d (fun j hj q=>by
  have:=hF j q;dsimp only at this;rw[if_pos hj]at this;exact this)
 rw[t7]at hone;obtain⟨n,hN⟩:=hh;cases n with
 |zero=>exact hT (.stop (h0 _ _ _ _ (uu hN)))
 |succ n=>
  obtain⟨ops,hst⟩:=xR hr hone;have h2:=uv hst hN;refine hσ τ (d+m) (fun j q=> ?_) ?_
  ·have:=hF (m+j) q;dsimp only at this;rw[if_neg (by omega),PR]at this;rw[PM];exact this
  ·exact⟨n,h2⟩
structure sT(P:OF)(K:AS→By→Prop) where
 s:Nat→AS×By
 τ:Nat→Nat→No→Nat
 d:Nat→Nat
 es:Nat→Array PJ
 m:Nat→Nat
 bad:∀k,pV P K (s k)
 one:∀k τ' d',Agree (m k) (af (s k).2 (τ k) (d k)) τ' d'→iu P (s k).1 (af (s k).2 τ' d') (s (k+1)).1 (af (s (k+1)).2 τ' (d'+m k)) (es k)
def upTo(m:Nat→Nat):Nat→Nat
 |0=>0
 |k+1=>upTo m k+m k
theorem xv(m:Nat→Nat){a b:Nat}(h:a≤b):upTo m a≤upTo m b:=by
 induction h with
 |refl=>exact Nat.le_refl _
 |step _ ih=>exact Nat.le_trans ih (Nat.le_add_right _ _)
open Classical in
noncomputable def Ix(W:sT P K)(p:Nat)(q:No):Nat:=
 if h:∃k,upTo W.m k≤p∧p<upTo W.m (k+1)then W.τ (If h) (W.d (If h)+(p-upTo W.m (If h))) q else 0
theorem KO(W:sT P K)(k j:Nat)(hj:j<W.m k)(q:No):Ix W (upTo W.m k+j) q=W.τ k (W.d k+j) q:=by
 have h:∃k',upTo W.m k'≤upTo W.m k+j∧upTo W.m k+j<upTo W.m (k'+1):=⟨k,by omega,by show _<upTo W.m k+W.m k;omega⟩;have hk:If h=k:=by
  obtain⟨h1,h2⟩:=AT h;rcases Nat.lt_trichotomy (If h) k with hlt|heq|hgt
  ·have:=xv W.m (show If h+1≤k by omega);omega
  ·exact heq
  ·have:=xv W.m (show k+1≤If h by omega);have e:upTo W.m (k+1)=upTo W.m k+W.m k:=rfl;omega
 unfold Ix;rw[dif_pos h,hk,PR]
theorem It(h0:∀g w τ d,K g (af w τ d)→K g w)(W:sT P K):r5 P K (W.s 0):=by
 refine⟨Ix W,fun τ d hF hh=> ?_⟩;have key:∀n k,B0 P K n (W.s k).1 (af (W.s k).2 τ (d+upTo W.m k))→False:=by
  intro n;induction n with
  |zero=>exact fun k h=>(W.bad k).2.2 (.stop (h0 _ _ _ _ (uu h)))
  |succ n ih=>
   intro k h;have hone:=W.one k τ (d+upTo W.m k) (fun j hj q=>by
    have:=hF (upTo W.m k+j) q;rw[KO W k j hj]at this;rw[PM];exact this)
   obtain⟨ops,hst⟩:=xR (W.bad k).2.1 hone;have:=uv hst h;rw[PM]at this;exact ih (k+1) this
 obtain⟨n,hN⟩:=hh;exact key n 0 (by simpa[upTo]using hN)
theorem Jl(T:bw P){s:AS×By}(hs:pV P K s):∃τ d,
 ((∃s' es,iu P s.1 (af s.2 τ d) s'.1 s'.2 es∧pV P K s')∨∀g' w' es,iu P s.1 (af s.2 τ d) g' w' es→g'.status≠.running):=by
 obtain⟨g,w⟩:=s;obtain⟨hI,hr,hT⟩:=hs;refine PK fun hc=>hT ?_
 have hall:∀τ d,∃g' w' es,iu P g (af w τ d) g' w' es∧Tree P K g' w':=fun τ d=>by
  refine PK fun hn=>hc ⟨τ,d,?_⟩
  by_cases hx:∃g' w' es,iu P g (af w τ d) g' w' es∧g'.status= .running
  ·obtain⟨g',w',es,ho,hrun⟩:=hx;refine .inl ⟨(g',w'),es,ho,nJ T (fP hI τ d) ho,hrun,fun ht=>hn ⟨g',w',es,ho,ht⟩⟩
  ·exact .inr fun g' w' es ho hrun=>hx ⟨g',w',es,ho,hrun⟩
 refine .step (fun τ d=>If (hall τ d)) (fun τ d=>If (AT (hall τ d))) (fun τ d=>If (AT (AT (hall τ d)))) hr (fun τ d hb=> ?_) fun τ d hb=> ?_
 ·exact(AT (AT (AT (hall τ d)))).1
 ·exact(AT (AT (AT (hall τ d)))).2
theorem bar(T:bw P)(h0:∀g w τ d,K g (af w τ d)→K g w)(hKr:∀g w,K g w→g.status= .running){g:AS}{w:By}(hI:Iv g w)(hr:g.status= .running)(h:∀τ d,yf P K g (af w τ d)):Tree P K g w:=by
 refine PK fun hT=> ?_
 have hnl:¬ r5 P K (g,w):=fun⟨σ,hσ⟩=>hσ σ 0 (fun j q=>by rw[Nat.zero_add]) (h σ 0)
 have hb0:pV P K (g,w):=⟨hI,hr,hT⟩;have nx:∀x: {s:AS×By//pV P K s∧¬ r5 P K s},∃(y: {s:AS×By//pV P K s∧¬ r5 P K s})(τ:Nat→No→Nat)(d:Nat)(es:Array PJ)(m:Nat),
  ∀τ' d',Agree m (af x.1.2 τ d) τ' d'→iu P x.1.1 (af x.1.2 τ' d') y.1.1 (af y.1.2 τ' (d'+m)) es:=by
  rintro⟨s,hs,hl⟩;obtain⟨τ,d,⟨s',es,ho,h1⟩|hn⟩:=Jl T hs
  ·have h2:¬ r5 P K s':=fun h'=>hl (G9 T h0 hs h1 ho h')
   obtain⟨m,_,_,h3⟩:=wZ T (fP hs.1 τ d) ho h1.2.1;refine⟨⟨s',h1,h2⟩,τ,d,es,m,fun τ' d' ha=> ?_⟩;have:=h3 τ' d' ha;rw[t7]at this;exact this
  ·exact absurd (Iu T h0 hKr hs hn) hl
 let f:=fun x=>If (nx x)
 let S:Nat→{s:AS×By//pV P K s∧¬ r5 P K s}:=fun k=>Nat.rec ⟨(g,w),hb0,hnl⟩ (fun _ x=>f x) k
 have sp:=fun k=>AT (nx (S k))
 have W:∃W:sT P K,W.s 0=(g,w):=
  ⟨sT.mk (fun k=>(S k).1) (fun k=>If (sp k)) (fun k=>If (AT (sp k))) (fun k=>If (AT (AT (sp k))))
   (fun k=>If (AT (AT (AT (sp k))))) (fun k=>(S k).2.1)
   (fun k=>AT (AT (AT (AT (sp k))))),rfl⟩
 obtain⟨W,hW⟩:=W;exact hnl (hW▸It h0 W)
end
end
end Go.Proofs.YtkgohmcmmcpigaaGreatDoor
