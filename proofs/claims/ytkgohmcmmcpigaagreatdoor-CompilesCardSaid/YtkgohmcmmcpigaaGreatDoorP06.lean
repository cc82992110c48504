/- A part of the proof that Compiles holds; no condition. -/
import Derived.Conc.EventLaws
import Derived.Conc.TokenWalk
import Derived.Conc.QuitsD
import Derived.Conc.Own2
import Derived.Conc.Own4
import Derived.Conc.CompanyWords
import Derived.Test.YtkgohmcmmcpigaaGreatDoorP04
set_option linter.unusedSectionVars false
set_option linter.unusedSimpArgs false
set_option linter.unusedVariables false
namespace Go.Proofs.YtkgohmcmmcpigaaGreatDoor
open Go
open Go renaming Goroutine->AI,World->By,Program->If,Frame->IN,Event->PD,Value->PG,callDeferred->PJ,deafBehind->PK,Question->PV,FuncId->Q2,execOp->Q6,Deferred->Qj,TypeId->Qo,callFunc->QK
open _root_.Array renaming getElem?_setIfInBounds_ne->AS,getElem?_eq_some_iff->AT,getElem?_eq_getElem->No,getElem?_map->OF,getElem?_setIfInBounds_self_of_lt->PW,getElem?_setIfInBounds->Q7,getElem?_push->Qb,append_empty->Qg,mem_iff_getElem->Qk,getElem?_modify->Ql,getElem?_push_lt->Qw,mem_push->QA,all_eq_true->QH,size_push->QO
open Go.Conc renaming mem_ofEvents->BY,served->PY
open Go.GStep renaming after->IS
open Go.MemOp renaming ofEvents->IT
open _root_.Option renaming map_eq_some_iff->PE,bind_eq_some_iff->PL,map_some->PO,isSome_iff_exists->Qd,bind_eq_bind->Qp,pure_def->Qt,elim->Qv
open Go.Sem renaming runT->PM,runT_eq->Qi,getObj->Qm,setObj->QB,runT_fst->QD
open Go.Instr renaming endRound->PN,takeDeferred->Qf,endLoop->Qs,enterLoop->Qu
open _root_.List renaming mem_cons_self->PP,not_mem_nil->Q3,mem_toArray->Q4,mem_cons->Q9
open _root_.Bool renaming false_eq_true->PR,false_and->Qz,not_true->QC,false_ne_true->QE
open _root_.Classical renaming byContradiction->PU
open Go.Builtin renaming close_->PX
open _root_.Nat renaming lt_of_lt_of_le->PZ,le_refl->Qa,strongRecOn->Qc,eq_zero_or_pos->Qe,le_trans->Qn
open Go.World renaming setChan->Q5,farStore->Qx,viewStore->QL
open Go.Region renaming wanted->Q8
open Go.MemAct renaming ofEvent->Qh,touch?->Qr
open Go.Frame renaming enter->Qq,ofRow->QI
open Go.Kernel renaming perform->Qy
open Go.Extern renaming find->QJ,findNext->QN
open Go.Next renaming value->QM
open _root_.Ne renaming symm->QP
section
open Go.Conc
variable[aJ]
structure sS(Q:If)(β:Nat→Option Code)(K:AI→By→Prop):Prop where
 run:∀g w,K g w→g.status= .running
 dep:∀g w,K g w→g.callers≠[]
 foul:∀g w,K g w→¬ pU Q β g
structure mi(Q:If)(β:Nat→Option Code)(D0:IN):Prop extends B7 D0 where
 defers:∃f fn why,D0.defers=[{target:=.fn (.func f) #[],args:=#[]}]∧β f=some (.refuse why)∧Q.funcs[f]?=some fn
section
variable{Q:If}{β:Nat→Option Code}{D0:IN}{K:AI→By→Prop}
theorem El(A:lw Q β){f:Nat}{c:Code}{fn:Func}(hb:β f=some c)(hfn:Q.funcs[f]?=some fn)(args:Array PG)(w:By)(es:Array PD):(QK f args).runT (alt Q β) w es=(.ok (.enter f args) w,es):=by
 unfold QK;rw[aN];show(match(alt Q β).funcs[f]? with
  |none=>stuck "call: no such function"
  |some fn=>_:Sem Next).runT (alt Q β) w es=_
 rw[fN,hfn];dsimp only[PO];rw[jo,A.num f fn hfn,if_neg QE];have e:(aw β f fn).body.isNone=false:=by unfold aw;rw[hb];rfl
 rw[e,if_neg QE];rfl
theorem G0{g:AI}{w:By}(hK:¬ K g w)(h:∀τ d,∃o w1,stepG (alt Q β) true g (af w τ d)= .ended o w1)(T:Tree (alt Q β) K g w):False:=by
 cases T with
 |stop hk=>exact hK hk
 |step G W E hr hone htree=>
  obtain⟨o,w1,he⟩:=h w.tape w.drawn;have hnb:¬ Big (stepG (alt Q β) true g (af w w.tape w.drawn)).es:=av;cases hone w.tape w.drawn hnb with
  |go hz=>rw[he]at hz;cases hz
  |comm hz _=>rw[he]at hz;cases hz
theorem oJ(hβ:ir β)(hK:sS Q β K){g:AI}{w:By}(T:Tree (alt Q β) K g w)(h:pU Q β g):False:=
 G0 (fun hk=>hK.foul _ _ hk h) (fun τ d=>let⟨o,e⟩:=vS hβ h (af w τ d);⟨o,_,e⟩) T
theorem nP(hK:sS Q β K){g:AI}{w:By}(T:Tree (alt Q β) K g w):g.status= .running:=by
 cases T with
 |stop hk=>exact hK.run _ _ hk
 |step G W E hr _ _=>exact hr
theorem rE(A:lw Q β)(hβ:ir β)(hK:sS Q β K)(hD:mi Q β D0){g1:AI}{w1:By}{es:Array PD}(T:Tree (alt Q β) K g1 w1)(h:ti D0 (.go g1 w1 es)):False:=by
 rcases h with h|⟨hst,hdy,hcs,h⟩
 ·exact h (nP hK T)
 have hkn:¬ K g1 w1:=fun hk=>hK.dep _ _ hk hcs
 obtain⟨fr,cs,st,dy,off⟩:=g1;dsimp only at hst hdy hcs h;subst hst hdy hcs;rcases h with rfl|⟨chain,rfl⟩
 ·refine G0 hkn (fun τ d=> ?_) T;obtain⟨why,ht⟩:=hD.todo;refine⟨.unsupported (Unsupported.elab why) (fr.pos (alt Q β)),af w1 τ d,?_⟩;unfold stepG;dsimp only;rw[hD.mode];unfold stepG.exec;dsimp only;rw[ht]
 ·obtain⟨f,fn,why,hds,h1,hfn⟩:=hD.defers;cases T with
  |stop hk=>exact hkn hk
  |step G W E hr hone h0=>
   have hst:stepG (alt Q β) true {frame:= {D0 with mode:=.panicking chain},callers:=[],status:=.running,dying:=none,offers:=off} (af w1 w1.tape w1.drawn)=
    IS (seen (alt Q β) D0.fn #[]) (.go {frame:=Qq (alt Q β) f #[] .deferred,callers:=[{D0 with mode:=.panicking chain,defers:=[]}],status:=.running,dying:=none} (af w1 w1.tape w1.drawn)):=by
    unfold stepG;dsimp only;unfold unwind;dsimp only;rw[hds];dsimp only;have:=ow (P:=alt Q β) (fr:= {D0 with mode:=.panicking chain,defers:=[]}) (cs:=[]) (f:=f) (args:=#[]) (cap:=#[]) (w:=af w1 w1.tape w1.drawn) (El A h1 hfn (#[]++ #[]) _ #[]);exact this
   have hnb:¬ Big (stepG (alt Q β) true {frame:= {D0 with mode:=.panicking chain},callers:=[],status:=.running,dying:=none,offers:=off} (af w1 w1.tape w1.drawn)).es:=by
    rw[hst];exact bg (aV av) av
   have ho:=hone _ _ hnb;have ht:=h0 _ _ hnb;rw[hst]at hnb;cases ho with
   |go hz=>
    rw[hst]at hz;simp only[IS,GStep.go.injEq]at hz;obtain⟨h2,_,_⟩:=hz;refine oJ hβ hK ht ?_;rw[← h2];exact⟨f,#[],.deferred,rfl,by rw[h1];rfl,rfl,fun d hd=>by cases hd⟩
   |comm hz _=>
    rw[hst]at hz;simp only[IS]at hz;cases hz
end
section
variable{Q:If}{β:Nat→Option Code}{D0:IN}{dt:be}{Ro:Nat→Prop}{os:Os}{rest:List IN}{K:AI→By→Prop}
theorem Side.af{cl:Bool}{p:Part}{g g':AI}{w w':By}(S:Side Q β D0 dt cl Ro os rest p g w g' w')(τ:Nat→PV→Nat)(d:Nat):Side Q β D0 dt cl Ro os rest p g w g' (af w' τ d):=
 ⟨S.part,S.gok,S.iv,S.ro,S.relG,fun σ hσ=>by
  have h:=S.relW σ hσ;exact⟨h.inj,rfl,rfl,h.ro,h.blk,h.num,h.os⟩⟩
theorem Side.plain{cl:Bool}{p:Part}{g g':AI}{w w':By}(S:Side Q β D0 dt cl Ro os rest p g w g' w'):g.dying=none∧g.frame.roundOf=none∧(g.frame.kind= .normal∨g.frame.kind= .deferred)∧g.status= .running:=
 ⟨(S.relG _ (bI S.part 0)).dying.1,S.gok.frame.round,S.gok.frame.kind,(S.relG _ (bI S.part 0)).status.1⟩
theorem Side.after{cl:Bool}{p:Part}{g g':AI}{w w':By}{r cap s rc s2 rc2:Nat}{b b2:Array PG}{tm:Bool}(S:Side Q β D0 dt cl Ro os rest p g w g' w')(hO:cJ w r cap b s rc tm)(hf:mh dt g.frame){v v':PG}(hv:∀σ,Ag p σ→v'=a7 σ v):
 Side Q β D0 dt cl Ro os rest p {g with frame:=g.frame.finish v,status:=.running,offers:=none} (ay w r (.chan cap b2 false s2 rc2 tm)) {g' with frame:=g'.frame.finish v',status:=.running,offers:=none} w':=
 (S.fin hf hv).chan hO.1 rfl rfl
theorem Side.JA{cl:Bool}{p:Part}{g g':AI}{w w':By}(S:Side Q β D0 dt cl Ro os rest p g w g' w')(τ:Nat→PV→Nat)(d:Nat):Side Q β D0 dt cl Ro os rest p g (Go.Proofs.YtkgohmcmmcpigaaGreatDoor.af w τ d) g' w':=⟨S.part,S.gok,fP S.iv τ d,S.ro,S.relG,S.relW⟩
theorem Side.frame{cl:Bool}{p:Part}{g g':AI}{w w':By}(S:Side Q β D0 dt cl Ro os rest p g w g' w'){f f':IN}(hf:ck Q dt cl f)(hk:f.kind=g.frame.kind)(ho:dc g.frame→dc f)(hr:∀σ,Ag p σ→f'=aH σ f):
 Side Q β D0 dt cl Ro os rest p {frame:=f,callers:=g.callers,status:=.running,dying:=none} w {frame:=f',callers:=g'.callers,status:=.running,dying:=none} w':=by
 have hdy:g.dying=none:=(S.relG _ (bI S.part 0)).dying.1;refine⟨S.part,⟨hf,S.gok.callers,cL g.callers.dropLast hk S.gok.stack,S.gok.last⟩,⟨S.iv.1,?_⟩,S.ro,fun σ hσ=> ?_,S.relW⟩
 ·rcases S.iv.2 with⟨⟨d,hd,_⟩,_⟩|⟨hj,hd⟩
  ·rw[hdy]at hd;cases hd
  ·exact .inr ⟨⟨ho hj.1,hj.2.1,nofun,nofun⟩,nofun⟩
 ·have h:=S.relG σ hσ;exact⟨hr σ hσ,h.callers,⟨rfl,rfl⟩,⟨rfl,rfl⟩⟩
theorem Side.Mf{cl:Bool}{p:Part}{g g':AI}{w w':By}(S:Side Q β D0 dt cl Ro os rest p g w g' w')(t:Qo)(m:String):
 Side Q β D0 dt cl Ro os rest p {frame:=g.frame.raise [{v:=.iface t (strVal m),recovered:=false}],callers:=g.callers,status:=.running,dying:=none} w {frame:=g'.frame.raise [{v:=.iface t (strVal m),recovered:=false}],callers:=g'.callers,status:=.running,dying:=none} w':=by
 refine S.frame (S.gok.frame.raise _) (by unfold Frame.raise;split <;>rfl) (fun h=>iA h _) fun σ hσ=> ?_
 rw[(S.relG σ hσ).frame,jn];simp[jG,strVal]
theorem Side.LO{cl:Bool}{p:Part}{g g':AI}{w w':By}(S:Side Q β D0 dt cl Ro os rest p g w g' w'){d:Qj}{ds:List Qj}(hd:g.frame.defers=d::ds):
 Side Q β D0 dt cl Ro os rest p {frame:= {g.frame with defers:=ds},callers:=g.callers,status:=.running,dying:=none} w {frame:= {g'.frame with defers:=g'.frame.defers.tail},callers:=g'.callers,status:=.running,dying:=none} w':=by
 have hg:=S.gok.frame;refine S.frame ⟨hg.round,hg.items,hg.regs,fun x hx=>hg.defs x (by rw[hd];exact .tail _ hx),hg.kind,hg.init⟩ rfl (fun h=>⟨h.1,fun x hx=>h.2 x (by rw[hd];exact .tail _ hx)⟩) fun σ hσ=> ?_
 rw[(S.relG σ hσ).frame];simp only[aH,hd,List.map_cons,List.tail_cons]
section
variable{P:If}{fr:IN}{cs:List IN}{w:By}{a:Array Qo}{t:Qo}{c:Array Bool}{r:Nat}
theorem GT{m:Bool}{st:GoStatus}{off:Option (Array CommCase×CommShape)}(hm:fr.mode= .run→False){d:Qj}{ds:List Qj}(hd:fr.defers=d::ds)(ht:d.target= .builtin .close a t c)(ha:d.args=#[.chan (some r)]):
 stepG P m {frame:=fr,callers:=cs,status:=st,dying:=none,offers:=off} w=PJ P {fr with defers:=ds} cs none ⟨.builtin .close a t c,#[.chan (some r)]⟩ w:=by
 obtain⟨dt,da⟩:=d;dsimp only at ht ha;subst ht ha;unfold stepG;dsimp only;cases hmo:fr.mode with
 |run=>exact absurd hmo hm
 |returning=>dsimp only;unfold unwind;rw[hd,hmo]
 |panicking ch=>dsimp only;unfold unwind;rw[hd,hmo]
theorem Mc{v:PG}{w1:By}{es:Array PD}(h:(PX a t #[.chan (some r)]).runT P w #[]=(.ok v w1,es)):(invoke (.builtin .close a t c) #[.chan (some r)]).runT P w #[]=(.ok (.value v) w1,es):=by
 show((PX a t #[.chan (some r)])>>=fun v=>pure (QM v)).runT P w #[]=_;rw[aN,h];rfl
theorem AD{x:Halt}{w1:By}{es:Array PD}(h:(PX a t #[.chan (some r)]).runT P w #[]=(.halt x w1,es)):(invoke (.builtin .close a t c) #[.chan (some r)]).runT P w #[]=(.halt x w1,es):=by
 show((PX a t #[.chan (some r)])>>=fun v=>pure (QM v)).runT P w #[]=_;rw[aN,h]
theorem Jf{cap s rc:Nat}{b:Array PG}{tm:Bool}(h:w.heap[r]?=some (.chan cap b false s rc tm)):
 ∃es,¬ Big es∧PJ P fr cs none ⟨.builtin .close a t c,#[.chan (some r)]⟩ w=IS es (.go {frame:=fr,callers:=cs,status:=.running,dying:=none} (ay w r (.chan cap b true s rc tm))):=by
 refine⟨seen P fr.fn (((#[]:Array PD).push ⟨.obj r,false,true⟩).push ⟨.obj r,true,true⟩),aV ?_,?_⟩
 ·exact av
 ·have h1:=Mc (c:=c) (show(PX a t #[.chan (some r)]).runT P w #[]=(.ok (.tuple #[]) (ay w r (.chan cap b true s rc tm)),((#[]:Array PD).push ⟨.obj r,false,true⟩).push ⟨.obj r,true,true⟩)from by
   rw[Qi,run_close_open _ _ h,events_close_open _ _ h];rfl)
  unfold PJ;simp only[Qz,PR,if_false,h1]
theorem Je{cap s rc:Nat}{b:Array PG}{tm:Bool}(h:w.heap[r]?=some (.chan cap b true s rc tm)):
 ∃es,¬ Big es∧PJ P fr cs none ⟨.builtin .close a t c,#[.chan (some r)]⟩ w=IS es (.go {frame:=fr.raise [{v:=.iface P.rt.plainError (strVal "close of closed channel"),recovered:=false}],callers:=cs,status:=.running,dying:=none} w):=by
 refine⟨seen P fr.fn ((#[]:Array PD).push ⟨.obj r,false,true⟩),aV ?_,?_⟩
 ·exact av
 ·have h1:=AD (c:=c) (show(PX a t #[.chan (some r)]).runT P w #[]=(.halt (.panic (.iface P.rt.plainError (strVal "close of closed channel"))) w,(#[]:Array PD).push ⟨.obj r,false,true⟩)from by
   rw[Qi,close_some];simp[run_getObj_chan _ _ h,events_getObj_chan _ _ _ h];exact⟨rfl,rfl⟩)
  unfold PJ;simp only[Qz,PR,if_false,h1]
theorem AC(h:∀o,w.heap[r]?=some o→o.isChan=false):∃es o,¬ Big es∧PJ P fr cs none ⟨.builtin .close a t c,#[.chan (some r)]⟩ w=IS es (.ended o w):=by
 have key:∃s es,¬ Big es∧(PX a t #[.chan (some r)]).runT P w #[]=(.halt (.stuck s) w,es):=by
  rw[close_some];cases ho:w.heap[r]? with
  |none=>exact⟨_,_,av,by simp only[getObj,bind,Sem.bind,PM,ho];rfl⟩
  |some o=>
   have hc:=h o ho;cases o;case chan=>cases hc
   case cells=>exact⟨_,_,av,by simp only[getObj,bind,Sem.bind,PM,ho];rfl⟩
   all_goals
    refine⟨"close: no channel in this block",(#[]:Array PD).push ⟨.obj r,false,false⟩,?_,?_⟩;rotate_left
    ·simp only[getObj,bind,Sem.bind,PM,ho,stuck];rfl
    ·exact av
 obtain⟨s,es,hb,hr⟩:=key;have h1:=AD (c:=c) hr;refine⟨seen P fr.fn es,.stuck s (fr.pos P),aV hb,?_⟩;unfold PJ;simp only[Qz,PR,if_false,h1]
end
theorem shut_tree(E:mW Q β dt true)(hβ:ir β)(hK:sS Q β K)(hD:mi Q β D0){r:Nat}(ha:∀g w,K g w→¬ kw w r){g:AI}{w:By}(T:Tree (alt Q β) K g w):
 ∀p g' w',Side Q β D0 dt true Ro os rest p g w g' w'→kw w r→False:=by
 induction T with
 |stop hk=>exact fun p g' w' S hO=>ha _ _ hk hO
 | @step g w G W E0 hr hone h4 ih=>
  intro p g' w' S hO;have hO2:kw (Go.Proofs.YtkgohmcmmcpigaaGreatDoor.af w w'.tape w'.drawn) r:=hO;have h8:=S.plain;by_cases h9:AtClose g
  ·obtain⟨hm,d,ds,a,t,c,r',h1,h2,h3⟩:=h9;have hst:∀w2,stepG (alt Q β) true g w2=PJ (alt Q β) {g.frame with defers:=ds} g.callers none ⟨.builtin .close a t c,#[.chan (some r')]⟩ w2:=fun w2=>by
    obtain⟨fr,cs,st,dy,off⟩:=g;dsimp only at h8 hm h1;obtain⟨rfl,_⟩:=h8;exact GT hm h1 h2 h3
   by_cases hch:∃o,w.heap[r']?=some o∧o.isChan=true
   ·obtain⟨o,ho,hoc⟩:=hch;have:=hO.2 r' o ho hoc;subst this;obtain⟨⟨cap,b,s,rc,tm,h0⟩,_⟩:=hO;obtain⟨es,hb,hes⟩:=Je (P:=alt Q β) (fr:= {g.frame with defers:=ds}) (cs:=g.callers) (a:=a) (t:=t) (c:=c) (w:=Go.Proofs.YtkgohmcmmcpigaaGreatDoor.af w w'.tape w'.drawn) h0;have hnb:¬ Big (stepG (alt Q β) true g (Go.Proofs.YtkgohmcmmcpigaaGreatDoor.af w w'.tape w'.drawn)).es:=by rw[hst,hes];exact bg hb av
    have ho:=hone _ _ hnb;have hi:=ih _ _ hnb;cases ho with
    |go hz=>
     rw[hst,hes]at hz;simp only[IS,GStep.go.injEq]at hz;obtain⟨h5,h6,_⟩:=hz;rw[← h5,← h6]at hi;exact hi p _ w' (((S.JA w'.tape w'.drawn).LO h1).Mf _ _) hO2
    |comm hz _=>rw[hst,hes]at hz;simp only[IS]at hz;cases hz
   ·obtain⟨es,o,hb,hes⟩:=AC (P:=alt Q β) (fr:= {g.frame with defers:=ds}) (cs:=g.callers) (a:=a) (t:=t) (c:=c) (r:=r') (w:=Go.Proofs.YtkgohmcmmcpigaaGreatDoor.af w w'.tape w'.drawn) fun o ho=>by
     cases hc:o.isChan
     ·rfl
     ·exact absurd ⟨o,ho,hc⟩ hch
    have hnb:¬ Big (stepG (alt Q β) true g (Go.Proofs.YtkgohmcmmcpigaaGreatDoor.af w w'.tape w'.drawn)).es:=by rw[hst,hes];exact bg hb av
    have ho:=hone _ _ hnb;cases ho with
    |go hz=>rw[hst,hes]at hz;simp only[IS]at hz;cases hz
    |comm hz _=>rw[hst,hes]at hz;simp only[IS]at hz;cases hz
  have hstep:=oL hD.toB7 E S false h9;rcases hstep with⟨g1,w1,es,g1',w1',es',p',hx,_,S1,hE,hnb⟩|⟨g1,c,sh,w1,es,g1',c',w1',es',p',hx,_,hC,hFin,S1,hcr,hE,hnb⟩|⟨g1,w1,es,hx,hf,hnb⟩|⟨h,_⟩|⟨hl,hnb⟩
  ·have ho:=hone _ _ hnb;have hi:=ih _ _ hnb;cases ho with
   |go hz=>
    rw[hx]at hz;simp only[GStep.go.injEq]at hz;obtain⟨h5,h6,_⟩:=hz;rw[← h5,← h6]at hi;exact hi p' g1' w1' S1 (hO.kinds hE.kinds hE.grown.le)
   |comm hz _=>rw[hx]at hz;cases hz
  ·have ho:=hone _ _ hnb;have hi:=ih _ _ hnb;have hru:=nP hK (h4 _ _ hnb);cases ho with
   |go hz=>rw[hx]at hz;cases hz
   |comm hz hd=>
    rw[hx]at hz;simp only[GStep.comm.injEq]at hz;obtain⟨rfl,rfl,rfl,rfl,rfl,rfl⟩:=hz;obtain⟨_,c0,hc0,he⟩:=hC;have hcc:c0=c:=by simpa using hc0.symm
    subst hcc;rcases he with⟨_,rfl,hg⟩|⟨h,_⟩
    ·obtain⟨v,hv⟩:=Qd.1 hg;have hO1:=hO.kinds hE.kinds hE.grown.le;obtain⟨e2,e3⟩:=E8 hO1 hv hd hru;have h7:=S1.plain;rw[e2,e3]at hi;have hb:=S1.Mf (alt Q β).rt.plainError "send on closed channel";obtain⟨fr1,cs1,st1,dy1,off1⟩:=g1;dsimp only at h7 hi hb;obtain⟨rfl,_,_,rfl⟩:=h7;exact hi p' _ w1' ⟨hb.part,⟨hb.gok.frame,hb.gok.callers,hb.gok.stack,hb.gok.last⟩,hb.iv,hb.ro,fun σ hσ=>let h:=hb.relG σ hσ;⟨h.frame,h.callers,h.dying,h.status⟩,hb.relW⟩ hO1
    ·cases h
  ·exfalso;have ho:=hone _ _ hnb;have ht:=h4 _ _ hnb;cases ho with
   |go hz=>
    rw[hx]at hz;simp only[GStep.go.injEq]at hz;obtain⟨h5,h6,_⟩:=hz;rw[← h5]at ht;exact oJ hβ hK ht hf
   |comm hz _=>rw[hx]at hz;cases hz
  ·cases h
  ·exfalso;have ho:=hone _ _ hnb;have ht:=h4 _ _ hnb;cases ho with
   |go hz=>
    rw[hz]at hl;exact rE E.apt hβ hK hD ht hl
   |comm hz _=>rw[hz]at hl;exact hl
theorem u0(E:mW Q β dt true)(hβ:ir β)(hK:sS Q β K)(hD:mi Q β D0){r cap rc:Nat}{tm:Bool}(h6:∀g w,K g w→∃b s,w.heap[r]?=some (.chan cap b false s rc tm)){g:AI}{w:By}(T:Tree (alt Q β) K g w)(h7:AtClose g)
 {p:Part} {g':AI} {w':By} {b:Array PG} {s:Nat} (S:Side Q β D0 dt true Ro os rest p g w g' w') (hO:cJ w r cap b s rc tm):K g w:=by
 cases T with
 |stop hk=>exact hk
 |step G W E0 hr hone h4=>
  exfalso;have h5:=S.plain;obtain⟨hm,d,ds,a,t,c,r',h1,h2,h3⟩:=h7;have hst:∀w2,stepG (alt Q β) true g w2=PJ (alt Q β) {g.frame with defers:=ds} g.callers none ⟨.builtin .close a t c,#[.chan (some r')]⟩ w2:=fun w2=>by
   obtain⟨fr,cs,st,dy,off⟩:=g;dsimp only at h5 hm h1;obtain⟨rfl,_⟩:=h5;exact GT hm h1 h2 h3
  by_cases hch:∃o,w.heap[r']?=some o∧o.isChan=true
  ·obtain⟨o,ho,hoc⟩:=hch;have:=hO.2 r' o ho hoc;subst this;obtain⟨es,hb,hes⟩:=Jf (P:=alt Q β) (fr:= {g.frame with defers:=ds}) (cs:=g.callers) (a:=a) (t:=t) (c:=c) (w:=Go.Proofs.YtkgohmcmmcpigaaGreatDoor.af w w'.tape w'.drawn) hO.1;have hnb:¬ Big (stepG (alt Q β) true g (Go.Proofs.YtkgohmcmmcpigaaGreatDoor.af w w'.tape w'.drawn)).es:=by rw[hst,hes];exact bg hb av
   have ho:=hone _ _ hnb;have ht:=h4 _ _ hnb;cases ho with
   |go hz=>
    rw[hst,hes]at hz;simp only[IS,GStep.go.injEq]at hz;obtain⟨h8,h9,_⟩:=hz;rw[← h8,← h9]at ht;have hlt:=(AT.1 hO.1).1;refine shut_tree (r:=r') E hβ hK hD (fun g w hk ha=> ?_) ht p _ w' (((S.JA w'.tape w'.drawn).LO h1).chan (r:=r') hO.1 rfl rfl) ⟨⟨cap,b,s,rc,tm,by simp[ay,af,hlt]⟩,fun i o ho hc=> ?_⟩
    ·obtain⟨b2,s2,hO2⟩:=h6 g w hk;obtain⟨⟨_,_,_,_,_,h0⟩,_⟩:=ha;rw[hO2]at h0;cases h0
    ·by_cases hi:r'=i
     ·exact hi.symm
     ·simp only[ay]at ho;rw[AS hi]at ho;exact hO.2 i o ho hc
   |comm hz _=>rw[hst,hes]at hz;simp only[IS]at hz;cases hz
  ·obtain⟨es,o,hb,hes⟩:=AC (P:=alt Q β) (fr:= {g.frame with defers:=ds}) (cs:=g.callers) (a:=a) (t:=t) (c:=c) (r:=r') (w:=Go.Proofs.YtkgohmcmmcpigaaGreatDoor.af w w'.tape w'.drawn) fun o ho=>by
    cases hc:o.isChan
    ·rfl
    ·exact absurd ⟨o,ho,hc⟩ hch
   have hnb:¬ Big (stepG (alt Q β) true g (Go.Proofs.YtkgohmcmmcpigaaGreatDoor.af w w'.tape w'.drawn)).es:=by rw[hst,hes];exact bg hb av
   have ho:=hone _ _ hnb;cases ho with
   |go hz=>rw[hst,hes]at hz;simp only[IS]at hz;cases hz
   |comm hz _=>rw[hst,hes]at hz;simp only[IS]at hz;cases hz
theorem leaf(E:mW Q β dt true)(hβ:ir β)(hK:sS Q β K)(hD:mi Q β D0){r cap rc:Nat}{tm:Bool}(h6:∀g w,K g w→∃b s,w.heap[r]?=some (.chan cap b false s rc tm)){g:AI}{w:By}(T:Tree (alt Q β) K g w):
 ∀p g' w' b s,Side Q β D0 dt true Ro os rest p g w g' w'→cJ w r cap b s rc tm→∃g2 w2 l s2,K g2 w2∧cJ w2 r cap (b++l) s2 rc tm∧w.heap.size≤w2.heap.size∧∀i,i<w.heap.size→aM w2 i→aM w i:=by
 induction T with
 |stop hk=>exact fun p g' w' b s S hO=>⟨_,_,#[],s,hk,by simpa using hO,Qa _,fun i _ h=>h⟩
 | @step g w G W E0 hr hone h0 ih=>
  intro p g' w' b s S hO;by_cases h4:AtClose g
  ·have hk:=u0 E hβ hK hD h6 (.step G W E0 hr hone h0) h4 S hO;exact⟨g,w,#[],s,hk,by simpa using hO,Qa _,fun i _ h=>h⟩
  have hstep:=oL hD.toB7 E S false h4;have hkeep:∀{p':Part}{w1 w1':By}{es:Array PD},Eff p p' Ro w w' w1 w1' es→∀w2,w1.heap.size≤w2.heap.size→(∀i,i<w1.heap.size→aM w2 i→aM w1 i)→∀i,i<w.heap.size→aM w2 i→aM w i:=fun{p' w1 w1' es} hE w2 hle h i hi hc=>by
   obtain⟨c,t,f,h1⟩:=h i (PZ hi hE.grown.le) hc;rcases hE.kinds i _ h1 with⟨h2,_⟩|⟨h2,_⟩|h2
   ·omega
   ·exact h2
   ·exact⟨c,t,f,h2⟩
  rcases hstep with⟨g1,w1,es,g1',w1',es',p',hx,_,S1,hE,hnb⟩|⟨g1,c,sh,w1,es,g1',c',w1',es',p',hx,_,hC,hFin,S1,hcr,hE,hnb⟩|⟨g1,w1,es,hx,hf,hnb⟩|⟨h,_⟩|⟨hl,hnb⟩
  ·have ho:=hone _ _ hnb;have hi:=ih _ _ hnb;cases ho with
   |go hz=>
    rw[hx]at hz;simp only[GStep.go.injEq]at hz;obtain⟨h3,h5,_⟩:=hz;rw[← h3,← h5]at hi;obtain⟨g2,w2,l,s2,k1,k2,k3,k4⟩:=hi p' g1' w1' b s S1 (hO.kinds hE.kinds hE.grown.le);exact⟨g2,w2,l,s2,k1,k2,Qn hE.grown.le k3,hkeep hE w2 k3 k4⟩
   |comm hz _=>rw[hx]at hz;cases hz
  ·have ho:=hone _ _ hnb;have hi:=ih _ _ hnb;have hru:=nP hK (h0 _ _ hnb);cases ho with
   |go hz=>rw[hx]at hz;cases hz
   |comm hz h7=>
    rw[hx]at hz;simp only[GStep.comm.injEq]at hz;obtain⟨rfl,rfl,rfl,rfl,rfl,rfl⟩:=hz;obtain⟨_,c0,hc0,h8⟩:=hC;have hcc:c0=c:=by simpa using hc0.symm
    subst hcc;rcases h8 with⟨_,rfl,h9⟩|⟨h,_⟩
    ·obtain⟨v,hv⟩:=Qd.1 h9;have hO1:=hO.kinds hE.kinds hE.grown.le;obtain⟨e1,e2,e3⟩:=vP hO1 hv h7 hru;rw[e2,e3]at hi;have S2:=S1.after (b2:=b.push v) (s2:=s+1) (rc2:=rc) hO1 hFin (v:=undef) (v':=undef) (fun σ _=>iC.symm);obtain⟨g2,w2,l,s2,k1,k2,k3,k4⟩:=hi p' _ w1' (b.push v) (s+1) S2 (hO1.to (s+1) rc);have hsz:(ay w1 r (.chan cap (b.push v) false (s+1) rc tm)).heap.size=w1.heap.size:=by simp[ay]
     rw[hsz]at k3 k4;refine⟨g2,w2,#[v]++l,s2,k1,?_,Qn hE.grown.le k3,hkeep hE w2 k3 fun i ha hc=> ?_⟩
     ·have:b++(#[v]++l)=b.push v++l:=by rw[← Array.append_assoc];simp
      rw[this];exact k2
     ·obtain⟨cc,t,f,h⟩:=k4 i ha hc;have hne:r≠i:=fun e=>by
       subst e;have:=(hO1.to (b2:=b.push v) (s+1) rc).1;rw[this]at h;cases h
      have:(ay w1 r (.chan cap (b.push v) false (s+1) rc tm)).heap[i]?=w1.heap[i]?:=by simp only[ay];rw[AS hne]
      exact⟨cc,t,f,this▸h⟩
    ·cases h
  ·exfalso;have ho:=hone _ _ hnb;have ht:=h0 _ _ hnb;cases ho with
   |go hz=>
    rw[hx]at hz;simp only[GStep.go.injEq]at hz;obtain⟨h3,h5,_⟩:=hz;rw[← h3]at ht;exact oJ hβ hK ht hf
   |comm hz _=>rw[hx]at hz;cases hz
  ·cases h
  ·exfalso;have ho:=hone _ _ hnb;have ht:=h0 _ _ hnb;cases ho with
   |go hz=>
    rw[hz]at hl;exact rE E.apt hβ hK hD ht hl
   |comm hz _=>rw[hz]at hl;exact hl
end
end
section
open Go.Conc
variable[aJ]
def TT(κ:Nat→Nat)(Ro:Nat→Prop)(w:By)(a:Touch):Prop:=
 (∀x,a.loc= .cell x→∃i,x.block=κ i∧aM w i∧(a.write=true→¬ Ro i))∧∀r,a.loc= .obj r→a.write=false
theorem xJ{κ:Nat→Nat}{Ro:Nat→Prop}{w:By}{e:PD}(h:Mq κ Ro w e){b:Touch}(hb:(Qh e).touch?=some b):TT κ Ro w b:=by
 obtain⟨loc,wr,sy⟩:=e;have key:b=⟨loc,wr,if sy then .atomic else .plain⟩→TT κ Ro w b:=fun e=>by
  subst e;exact⟨fun x hx=>h.cell x hx,fun r hr=>h.obj r hr⟩
 cases loc;case mark m=>
  have hm:=h.mark m rfl;cases m<;>first |exact hm.1.elim|(simp[Qh,Qr]at hb)
 case obj r=>
  have:=h.obj r rfl;dsimp only at this;subst this;simp only[Qh,Qr,Option.some.injEq]at hb;exact key hb.symm
 all_goals
  simp only[Qh,Qr,Option.some.injEq]at hb;exact key hb.symm
theorem xK{κ:Nat→Nat}{Ro:Nat→Prop}{w:By}{i:Nat}{fn:Q2}{pos:String}{es:Array PD}(h:∀e∈es,Mq κ Ro w e):Quiet (IT i fn pos es):=fun g op hop d=>by
 obtain⟨e,he,rfl⟩:=BY hop;have hr:=h e he;obtain⟨loc,wr,sy⟩:=e;cases loc;case mark m=>
  have hm:=hr.mark m rfl;cases m<;>first |exact hm.1.elim|rfl
 case obj r=>cases wr<;>cases sy<;>rfl
 all_goals rfl
theorem ofEvents_g{i:Nat}{fn:Q2}{pos:String}{es:Array PD}:∀op∈IT i fn pos es,op.g=i:=fun op hop=>by
 obtain⟨e,_,rfl⟩:=BY hop;rfl
section
variable{Q:If}{β:Nat→Option Code}{D0:IN}{dt:be}{cl:Bool}{Ro:Nat→Prop}{os:Os}{rest:List IN}{p p':Part}{g g' g1 g1':AI}{w w' w1 w1':By}{es':Array PD}
theorem Side.real(S:Side Q β D0 dt cl Ro os rest p g w g' w'){i:Nat}(h:aM w i):∃c e f,w'.heap[p.κ i]?=some (.cells c e f):=by
 obtain⟨c,t,f,hc⟩:=h;have hk:p.K i:=S.cells ⟨c,t,f,hc⟩;have hB:=(S.relW _ (bI S.part 0)).blk i _ hc;rw[(bI S.part 0).2 i hk]at hB;by_cases hr:Ro i
 ·obtain⟨f',h,_⟩:=(hB.1 hr).2;exact⟨_,_,_,h⟩
 ·exact⟨_,_,_,hB.2 hr⟩
theorem Side.Du(S:Side Q β D0 dt cl Ro os rest p g w g' w'){i:Nat}{a:Addr}{l:Bool}(h:w.heap[i]?=some (.number a l)):∃a',w'.heap[p.κ i]?=some (.number a' l):=by
 have hk:p.K i:=oV S.part S.relW h trivial;have hB:=(S.relW _ (bI S.part 0)).blk i _ h;rw[(bI S.part 0).2 i hk]at hB;exact⟨_,hB⟩
theorem Eff.turned(S:Side Q β D0 dt cl Ro os rest p g w g' w')(S1:Side Q β D0 dt cl Ro os rest p' g1 w1 g1' w1')(hE:Eff p p' Ro w w' w1 w1' es'){b:Nat}(hb:b<w'.heap.size)(hne:w1'.heap[b]?≠w'.heap[b]?):
 ∃i,p.κ i=b∧p'.κ i=b∧aM w i∧aM w1 i∧¬ Ro i:=by
 obtain⟨i,hi,hc,hr⟩:=hE.frame b hb hne;rcases hE.grown.new i (S1.cells hc)with hk|⟨_,h⟩
 ·obtain⟨c,t,f,h1⟩:=hc;have hdom:=S.part.dom i hk;refine⟨i,(hE.grown.old i hk).2.symm.trans hi,hi,?_,⟨c,t,f,h1⟩,hr⟩;rcases hE.kinds i _ h1 with⟨h2,_⟩|⟨h2,_⟩|h2
  ·omega
  ·exact h2
  ·exact⟨c,t,f,h2⟩
 ·omega
theorem Eff.CE(hE:Eff p p' Ro w w' w1 w1' es'){i:Nat}(h:aM w i):aM w1 i:=by
 obtain⟨c,t,f,hc⟩:=h;have hlt:=(AT.1 hc).1;have hlt1:i<w1.heap.size:=PZ hlt hE.grown.le;have h1:w1.heap[i]?=some w1.heap[i]:=No hlt1;rcases hE.kinds i _ h1 with⟨h2,_⟩|⟨_,c2,t2,f2,h2⟩|h2
 ·omega
 ·exact⟨c2,t2,f2,by rw[h1,h2]⟩
 ·rw[hc]at h2;exact⟨c,t,f,by rw[h1];exact h2.symm⟩
theorem Eff.pc(S:Side Q β D0 dt cl Ro os rest p g w g' w')(S1:Side Q β D0 dt cl Ro os rest p' g1 w1 g1' w1')(hE:Eff p p' Ro w w' w1 w1' es'){i:Nat}(h:aM w1 i):(aM w i∧p'.κ i=p.κ i)∨w'.heap.size≤p'.κ i:=by
 rcases hE.grown.new i (S1.cells h)with hk|⟨_,h2⟩
 ·refine .inl ⟨?_,(hE.grown.old i hk).2⟩;obtain⟨c,t,f,h1⟩:=h;have hdom:=S.part.dom i hk;rcases hE.kinds i _ h1 with⟨h2,_⟩|⟨h2,_⟩|h2
  ·omega
  ·exact h2
  ·exact⟨c,t,f,h2⟩
 ·exact .inr h2
end
end
section
open Go.Conc
variable[aJ]
structure Duo where
 Q:If
 βA:Nat→Option Code
 βB:Nat→Option Code
 DA:IN
 DB:IN
 dtA:be
 dtB:be
 RoA:Nat→Prop
 RoB:Nat→Prop
 os:Os
 restA:List IN
 restB:List IN
 k:Nat
 rA:Nat
 rB:Nat
 capA:Nat
 capB:Nat
 tmA:Bool
 tmB:Bool
 rcB:Nat
 c:Nat
 eA:Nat
 TA:Array PG
 N0:Nat
 h0:Array Obj
 out0:Array (Nat×ByteArray)
 MA:Nat→Prop
 MB:Nat→Prop
 cls:Bool
 lo:Nat
def yK(Z:Duo)(i:Nat)(a b:PG)(w:By):Prop:=
 (∀σ τ,a7 σ a=a7 τ b)∨(i+1=Z.TA.size∧∃e,Z.lo<e∧aM w e∧¬ Z.RoB e∧(∀σ τ,σ Z.eA=τ e→a7 σ a=a7 τ b)∧∀σ τ,a7 σ b=a7 τ b→σ e=τ e)
structure Inv2(Z:Duo)(n:Nat)(pA:Part)(gA:AI)(wA:By)(gA':AI)(pB:Part)(gB:AI)(wB:By)(gB':AI)(w':By)(t:Trace):Prop where
 SA:Side Z.Q Z.βA Z.DA Z.dtA false Z.RoA Z.os Z.restA pA gA wA gA' w'
 SB:Side Z.Q Z.βB Z.DB Z.dtB true Z.RoB Z.os Z.restB pB gB wB gB' w'
 cA:∃s rc,cJ wA Z.rA Z.capA (Z.TA.extract n Z.TA.size) s rc Z.tmA
 cB:∃b s,cJ wB Z.rB Z.capB b s Z.rcB Z.tmB∧b.size=n
 kA:pA.K Z.rA∧pA.κ Z.rA=Z.c
 kB:pB.K Z.rB∧pB.κ Z.rB=Z.c
 ch:∃tm,w'.heap[Z.c]?=some (.chan 0 #[] Z.cls n n tm)
 eA:Z.eA<wA.heap.size∧(∀o,wA.heap[Z.eA]?=some o→¬ iR o)∧(n<Z.TA.size→¬ pA.K Z.eA)
 nT:n≤Z.TA.size
 oth:∀i,pA.K i→(∃o,wA.heap[i]?=some o∧iR o)∨(∃j,j≤Z.lo∧pB.K j∧pB.κ j=pA.κ i)∨i=Z.rA∨i=Z.eA
 disj:∀i j,aM wA i→aM wB j→pA.κ i=pB.κ j→Z.RoA i∧Z.RoB j
 tr:PT Z.k (TT pA.κ Z.RoA wA) (TT pB.κ Z.RoB wB) t
 mA:∀i,aM wA i→¬ Z.RoA i→pA.κ i<Z.N0→Z.MA (pA.κ i)
 mB:∀i,aM wB i→¬ Z.RoB i→pB.κ i<Z.N0→Z.MB (pB.κ i)
 fr:∀b,b<Z.N0→b≠Z.c→¬ Z.MA b→¬ Z.MB b→w'.heap[b]?=Z.h0[b]?
 nz:Z.N0≤w'.heap.size
 out:w'.output=Z.out0
 val:∃b s,cJ wB Z.rB Z.capB b s Z.rcB Z.tmB∧∀(i:Nat)(x y:PG),Z.TA[i]?=some x→b[i]?=some y→∀σ τ,Ag pA σ→Ag pB τ→a7 σ x=a7 τ y
section
variable{Z:Duo}{n:Nat}{pA pB p':Part}{gA gA' gB gB' g1 g1':AI}{wA wB w' w1 w1':By}{t:Trace}{es':Array PD}
theorem uI{wA wB:By}(hd:∀i j,aM wA i→aM wB j→pA.κ i=pB.κ j→Z.RoA i∧Z.RoB j):Apart (TT pA.κ Z.RoA wA) (TT pB.κ Z.RoB wB):=by
 intro a b ha hb hl hm;obtain⟨la,wra,ka⟩:=a;obtain⟨lb,wrb,kb⟩:=b;dsimp only at hl hm ⊢;subst hl;cases la with
 |cell x=>
  obtain⟨i,hi,hci,h0⟩:=ha.1 x rfl;obtain⟨j,hj,h4,h3⟩:=hb.1 x rfl;obtain⟨h1,h2⟩:=hd i j hci h4 (hi.symm.trans hj);dsimp only at h0 h3;refine⟨?_,?_⟩
  ·cases wra with
   |false=>rfl
   |true=>exact absurd h1 (h0 rfl)
  ·cases wrb with
   |false=>rfl
   |true=>exact absurd h2 (h3 rfl)
 |obj r=>exact⟨ha.2 r rfl,hb.2 r rfl⟩
 |_=>cases hm
theorem Ag.less{p q:Part}{σ:Nat→Nat}(h:Ag q σ)(ho:∀i,p.K i→q.K i∧q.κ i=p.κ i):Ag p σ:=⟨h.1,fun i hi=>(h.2 i (ho i hi).1).trans (ho i hi).2⟩
theorem Inv2.Aj(I:Inv2 Z n pA gA wA gA' pB gB wB gB' w' t)(S1:Side Z.Q Z.βA Z.DA Z.dtA false Z.RoA Z.os Z.restA p' g1 w1 g1' w1')(hE:Eff pA p' Z.RoA wA w' w1 w1' es')(fn:Q2)(pos:String):
 Inv2 Z n p' g1 w1 g1' pB gB wB gB' w1' (t++IT 0 fn pos es'):=by
 have hturn:∀b,b<w'.heap.size→w1'.heap[b]?≠w'.heap[b]?→_:=fun b hb hne=>hE.turned I.SA S1 hb hne
 obtain⟨tm,hch⟩:=I.ch;have hclt:=(AT.1 hch).1;have h0:w1'.heap[Z.c]?=w'.heap[Z.c]?:=PU fun hne=>by
  obtain⟨i,h1,_,h3,_,_⟩:=hturn Z.c hclt hne;obtain⟨c,e,f,h⟩:=I.SA.real h3;rw[h1,hch]at h;cases h
 have hdisj:∀i j,aM w1 i→aM wB j→p'.κ i=pB.κ j→Z.RoA i∧Z.RoB j:=fun i j hi hj h=>by
  rcases hE.pc I.SA S1 hi with⟨h1,h2⟩|h1
  ·exact I.disj i j h1 hj (h2.symm.trans h)
  ·have:=I.SB.part.ran j (I.SB.cells hj);omega
 have hTA:∀a,TT pA.κ Z.RoA wA a→TT p'.κ Z.RoA w1 a:=fun a ha=>⟨fun x hx=>by
  obtain⟨i,h1,h2,h3⟩:=ha.1 x hx;exact⟨i,h1.trans (hE.grown.old i (I.SA.cells h2)).2.symm,hE.CE h2,h3⟩,ha.2⟩
 have hmA:∀i,aM w1 i→¬ Z.RoA i→p'.κ i<Z.N0→Z.MA (p'.κ i):=fun i hi hr hlt=>by
  rcases hE.pc I.SA S1 hi with⟨h1,h2⟩|h1
  ·rw[h2]at hlt ⊢;exact I.mA i h1 hr hlt
  ·have:=I.nz;omega
 refine⟨S1,I.SB.keep hE.grown.le' hE.os (fun j hj=> ?_) ⟨rfl,rfl,rfl,(I.SB.relG _ (bI I.SB.part 0)).status.2⟩,?_,I.cB,?_,I.kB,⟨tm,h0.trans hch⟩,⟨PZ I.eA.1 hE.grown.le,fun o ho hn=> ?_,fun hlt hk=> ?_⟩,I.nT,fun i hi=> ?_,hdisj,?_,hmA,I.mB,fun b hb hc h1 h2=> ?_,Qn I.nz hE.grown.le',hE.output.trans I.out,let⟨b,s,h1,h2⟩:=I.val;⟨b,s,h1,fun i x y hx hy σ τ hσ hτ=>h2 i x y hx hy σ τ (hσ.less hE.grown.old) hτ⟩⟩
 ·by_cases hsame:w1'.heap[pB.κ j]?=w'.heap[pB.κ j]?
  ·exact .inl hsame
  ·obtain⟨i,h1,h2,h3,h4,h5⟩:=hturn _ (I.SB.part.ran j hj) hsame;obtain⟨c,e,f,hr⟩:=I.SA.real h3;obtain⟨c2,e2,f2,h6⟩:=S1.real h4;refine .inr ⟨fun o ho hn=> ?_,.cells c2 e2 f2,by rw[← h2];exact h6,trivial,.inl ⟨_,_,_,rfl⟩⟩;cases o;case cells cc ee ff=>exact h5 (I.disj i j h3 ⟨cc,ee,ff,ho⟩ h1).1
   case number a l=>
    obtain⟨a',ha⟩:=I.SB.Du ho;rw[← h1,hr]at ha;cases ha
   all_goals exact hn
 ·obtain⟨s,rc,hO⟩:=I.cA;exact⟨s,rc,hO.kinds hE.kinds hE.grown.le⟩
 ·exact⟨(hE.grown.old _ I.kA.1).1,(hE.grown.old _ I.kA.1).2.trans I.kA.2⟩
 ·rcases hE.kinds _ _ ho with⟨h1,_⟩|⟨⟨c,t2,f,h1⟩,_⟩|h1
  ·have:=I.eA.1;omega
  ·exact I.eA.2.1 _ h1 trivial
  ·exact I.eA.2.1 _ h1 hn
 ·rcases hE.grown.new _ hk with h1|⟨h1,_⟩
  ·exact I.eA.2.2 hlt h1
  ·have:=I.eA.1;omega
 ·have hlt1:=S1.part.dom i hi;have h1:w1.heap[i]?=some w1.heap[i]:=No hlt1;rcases hE.grown.new i hi with hk|⟨hge,_⟩
  ·rcases I.oth i hk with⟨o,ho,hn⟩|h
   ·refine .inl ⟨_,h1,?_⟩;rcases hE.kinds i _ h1 with⟨_,h2⟩|⟨_,c,t2,f,h2⟩|h2
    ·exact h2
    ·rw[h2];trivial
    ·rw[ho]at h2;cases h2;exact hn
   ·rcases h with⟨j,hj,h7,hje⟩|h
    ·exact .inr (.inl ⟨j,hj,h7,hje.trans (hE.grown.old i hk).2.symm⟩)
    ·exact .inr (.inr h)
  ·refine .inl ⟨_,h1,?_⟩;rcases hE.kinds i _ h1 with⟨_,h2⟩|⟨_,c,t2,f,h2⟩|h2
   ·exact h2
   ·rw[h2];trivial
   ·have:=(AT.1 h2).1;omega
 ·refine(I.tr.mono hTA fun a h=>h).NV (uI hdisj) ofEvents_g (fun op hop b hb _=> ?_) (xK hE.events);obtain⟨e,he,rfl⟩:=BY hop;exact xJ (hE.events e he) hb
 ·rw[← I.fr b hb hc h1 h2];refine PU fun hne=> ?_
  obtain⟨i,k1,k2,k3,k4,k5⟩:=hturn b (PZ hb I.nz) hne;have:=I.mA i k3 k5 (by rw[k1];exact hb);rw[k1]at this;exact h1 this
theorem Inv2.Gw(I:Inv2 Z n pA gA wA gA' pB gB wB gB' w' t)(S1:Side Z.Q Z.βB Z.DB Z.dtB true Z.RoB Z.os Z.restB p' g1 w1 g1' w1')(hE:Eff pB p' Z.RoB wB w' w1 w1' es')(fn:Q2)(pos:String):
 Inv2 Z n pA gA wA gA' p' g1 w1 g1' w1' (t++IT Z.k fn pos es'):=by
 have hturn:∀b,b<w'.heap.size→w1'.heap[b]?≠w'.heap[b]?→_:=fun b hb hne=>hE.turned I.SB S1 hb hne
 obtain⟨tm,hch⟩:=I.ch;have hclt:=(AT.1 hch).1;have h0:w1'.heap[Z.c]?=w'.heap[Z.c]?:=PU fun hne=>by
  obtain⟨i,h1,_,h3,_,_⟩:=hturn Z.c hclt hne;obtain⟨c,e,f,h⟩:=I.SB.real h3;rw[h1,hch]at h;cases h
 have hdisj:∀i j,aM wA i→aM w1 j→pA.κ i=p'.κ j→Z.RoA i∧Z.RoB j:=fun i j hi hj h=>by
  rcases hE.pc I.SB S1 hj with⟨h1,h2⟩|h1
  ·exact I.disj i j hi h1 (h.trans h2)
  ·have:=I.SA.part.ran i (I.SA.cells hi);omega
 have hTB:∀a,TT pB.κ Z.RoB wB a→TT p'.κ Z.RoB w1 a:=fun a ha=>⟨fun x hx=>by
  obtain⟨i,h1,h2,h3⟩:=ha.1 x hx;exact⟨i,h1.trans (hE.grown.old i (I.SB.cells h2)).2.symm,hE.CE h2,h3⟩,ha.2⟩
 have hmB:∀i,aM w1 i→¬ Z.RoB i→p'.κ i<Z.N0→Z.MB (p'.κ i):=fun i hi hr hlt=>by
  rcases hE.pc I.SB S1 hi with⟨h1,h2⟩|h1
  ·rw[h2]at hlt ⊢;exact I.mB i h1 hr hlt
  ·have:=I.nz;omega
 refine⟨I.SA.keep hE.grown.le' hE.os (fun j hj=> ?_) ⟨rfl,rfl,rfl,(I.SA.relG _ (bI I.SA.part 0)).status.2⟩,S1,I.cA,?_,I.kA,?_,⟨tm,h0.trans hch⟩,I.eA,I.nT,fun i hi=>(I.oth i hi).imp id (·.imp (fun⟨j,hj,h6,hje⟩=>⟨j,hj,(hE.grown.old j h6).1,(hE.grown.old j h6).2.trans hje⟩) id),hdisj,?_,I.mA,hmB,fun b hb hc h1 h2=> ?_,Qn I.nz hE.grown.le',hE.output.trans I.out,let⟨b,s,h1,h2⟩:=I.val;⟨b,s,h1.kinds hE.kinds hE.grown.le,fun i x y hx hy σ τ hσ hτ=>h2 i x y hx hy σ τ hσ (hτ.less hE.grown.old)⟩⟩
 ·by_cases hsame:w1'.heap[pA.κ j]?=w'.heap[pA.κ j]?
  ·exact .inl hsame
  ·obtain⟨i,h1,h2,h3,h4,h5⟩:=hturn _ (I.SA.part.ran j hj) hsame;obtain⟨c,e,f,hr⟩:=I.SB.real h3;obtain⟨c2,e2,f2,h7⟩:=S1.real h4;refine .inr ⟨fun o ho hn=> ?_,.cells c2 e2 f2,by rw[← h2];exact h7,trivial,.inl ⟨_,_,_,rfl⟩⟩;cases o;case cells cc ee ff=>exact h5 (I.disj j i ⟨cc,ee,ff,ho⟩ h3 h1.symm).2
   case number a l=>
    obtain⟨a',ha⟩:=I.SA.Du ho;rw[← h1,hr]at ha;cases ha
   all_goals exact hn
 ·obtain⟨b,s,hO,hb⟩:=I.cB;exact⟨b,s,hO.kinds hE.kinds hE.grown.le,hb⟩
 ·exact⟨(hE.grown.old _ I.kB.1).1,(hE.grown.old _ I.kB.1).2.trans I.kB.2⟩
 ·refine(I.tr.mono (fun a h=>h) hTB).Mj (uI hdisj) ofEvents_g (fun op hop b hb _=> ?_) (xK hE.events);obtain⟨e,he,rfl⟩:=BY hop;exact xJ (hE.events e he) hb
 ·rw[← I.fr b hb hc h1 h2];refine PU fun hne=> ?_
  obtain⟨i,k1,k2,k3,k4,k5⟩:=hturn b (PZ hb I.nz) hne;have:=I.mB i k3 k5 (by rw[k1];exact hb);rw[k1]at this;exact h2 this
theorem Inv2.mute(I:Inv2 Z n pA gA wA gA' pB gB wB gB' w' t)(τ:Nat→PV→Nat)(d:Nat){u:Trace}(hn:∀op∈u,op.act.touch?=none)(h0:Deaf (t++u) 0=Deaf t 0)(hk:Deaf (t++u) Z.k=Deaf t Z.k):
 Inv2 Z n pA gA wA gA' pB gB wB gB' (af w' τ d) (t++u):=
 ⟨I.SA.af τ d,I.SB.af τ d,I.cA,I.cB,I.kA,I.kB,I.ch,I.eA,I.nT,I.oth,I.disj,I.tr.appMute hn h0 hk,I.mA,I.mB,I.fr,I.nz,I.out,I.val⟩
theorem FI(σ:Nat→Nat)(ok:Bool)(v:PG):a7 σ (recvd ok v true)=recvd ok (a7 σ v) true:=by
 cases ok<;>simp[recvd]
theorem Inv2.meet(hcl:Z.cls=false)(I:Inv2 Z n pA gA wA gA' pB gB wB gB' w' t){ok:Bool}{v v' a:PG}{s rc sB:Nat}{b:Array PG}{tm:Bool}(hc:w'.heap[Z.c]?=some (.chan 0 #[] false n n tm))(hA:cJ wA Z.rA Z.capA (Z.TA.extract n Z.TA.size) s rc Z.tmA)(hB:cJ wB Z.rB Z.capB b sB Z.rcB Z.tmB)(hb:b.size=n)
 (ha:Z.TA[n]?=some a) (h7:yK Z n a v wB) (hv:∀τ,Ag pB τ→v'=a7 τ v) (hfA:mh Z.dtA gA.frame) (hfB:mh Z.dtB gB.frame) (fk:Q2) (pk:String) (f0:Q2) (q0:String):
 ∃pA2,Inv2 Z (n+1) pA2 {gA with frame:=gA.frame.finish (recvd ok a true),status:=.running,offers:=none} (ay wA Z.rA (.chan Z.capA (Z.TA.extract (n+1) Z.TA.size) false s (rc+1) Z.tmA)) {gA' with frame:=gA'.frame.finish (recvd ok v' true),status:=.running,offers:=none}
  pB {gB with frame:=gB.frame.finish undef,status:=.running,offers:=none} (ay wB Z.rB (.chan Z.capB (b.push v) false (sB+1) Z.rcB Z.tmB)) {gB' with frame:=gB'.frame.finish undef,status:=.running,offers:=none}
  (w'.setChan Z.c 0 #[] false (n+1) (n+1) tm) (t++met Z.k 0 fk pk f0 q0 Z.c n 0):=by
 have hclt:=(AT.1 hc).1;have hnlt:n<Z.TA.size:=(AT.1 ha).1;have hset:∀i,i≠Z.c→(w'.setChan Z.c 0 #[] false (n+1) (n+1) tm).heap[i]?=w'.heap[i]?:=fun i hi=>by
  simp only[Q5];rw[AS (fun e=>hi e.symm)]
 have hsetc:(w'.setChan Z.c 0 #[] false (n+1) (n+1) tm).heap[Z.c]?=some (.chan 0 #[] false (n+1) (n+1) tm):=by simp[Q5,hclt]
 have hsz:(w'.setChan Z.c 0 #[] false (n+1) (n+1) tm).heap.size=w'.heap.size:=by simp[Q5]
 have hpA:∃pA2,Side Z.Q Z.βA Z.DA Z.dtA false Z.RoA Z.os Z.restA pA2 gA wA gA' w'∧(∀i,pA.K i→pA2.K i∧pA2.κ i=pA.κ i)∧(∀i,pA2.K i→pA.K i∨i=Z.eA)∧(n+1<Z.TA.size→¬ pA2.K Z.eA)∧∀σ,Ag pA2 σ→v'=a7 σ a:=by
  rcases h7 with hd|⟨hlast,e,he1,he2,he,he4,he5⟩
  ·exact⟨pA,I.SA,fun i hi=>⟨hi,rfl⟩,fun i hi=>.inl hi,fun _=>I.eA.2.2 hnlt,fun σ hσ=>(hv _ (bI I.SB.part 0)).trans (hd σ _).symm⟩
  ·have hne:=I.eA.2.2 hnlt;have h4:pB.K e:=I.SB.cells he2;refine⟨pA.also Z.eA (pB.κ e),I.SA.also hne I.eA.1 (I.SB.real he2) fun i hi heq=> ?_,fun i hi=>⟨.inl hi,?_⟩,fun i hi=>hi,fun h=>by omega,fun σ hσ=> ?_⟩
   ·rcases I.oth i hi with⟨o,ho,hno⟩|hg|rfl|rfl
    ·cases o;case cells cc t2 ff=>exact he (I.disj i e ⟨cc,t2,ff,ho⟩ he2 heq).2
     case number x l=>
      obtain⟨x',hx⟩:=I.SA.Du ho;obtain⟨c2,t2,f2,hr⟩:=I.SB.real he2;rw[heq,hr]at hx;cases hx
     all_goals exact hno
    ·obtain⟨j,hj,h0,hje⟩:=hg;have:=I.SB.part.inj j e h0 h4 (hje.trans heq);omega
    ·obtain⟨c2,t2,f2,hr⟩:=I.SB.real he2;rw[← heq,I.kA.2,hc]at hr;cases hr
    ·exact hne hi
   ·show(if i=Z.eA then pB.κ e else pA.κ i)=pA.κ i;rw[if_neg (fun h:i=Z.eA=>hne (h▸hi))]
   ·have hτ:=bI I.SB.part 0;have h1:σ Z.eA=pB.κ e:=by
     rw[hσ.2 Z.eA (.inr rfl)];show(if Z.eA=Z.eA then pB.κ e else pA.κ Z.eA)=pB.κ e;rw[if_pos rfl]
    rw[hv _ hτ];exact(he4 σ _ (h1.trans (hτ.2 e h4).symm)).symm
 obtain⟨pA2,SA2,hold,h8,h9,h3⟩:=hpA;have hκ:∀i,aM wA i→pA2.κ i=pA.κ i:=fun i hi=>(hold i (I.SA.cells hi)).2
 have hrA:pA2.K Z.rA∧pA2.κ Z.rA=Z.c:=⟨(hold _ I.kA.1).1,(hold _ I.kA.1).2.trans I.kA.2⟩;have keepA:∀i,pA2.K i→qo pA2 wA w' (w'.setChan Z.c 0 #[] false (n+1) (n+1) tm) i:=fun i hi=>by
  by_cases hic:pA2.κ i=Z.c
  ·have:i=Z.rA:=SA2.part.inj i Z.rA hi hrA.1 (hic.trans hrA.2.symm);subst this;refine .inr ⟨fun o ho hno=> ?_,.chan 0 #[] false (n+1) (n+1) tm,by rw[hic];exact hsetc,trivial,.inr fun o ho=> ?_⟩
   ·rw[hA.1]at ho;cases ho;exact hno
   ·rw[hA.1]at ho;cases ho;rfl
  ·exact .inl (hset _ hic)
 have keepB:∀i,pB.K i→qo pB wB w' (w'.setChan Z.c 0 #[] false (n+1) (n+1) tm) i:=fun i hi=>by
  by_cases hic:pB.κ i=Z.c
  ·have:i=Z.rB:=I.SB.part.inj i Z.rB hi I.kB.1 (hic.trans I.kB.2.symm);subst this;refine .inr ⟨fun o ho hno=> ?_,.chan 0 #[] false (n+1) (n+1) tm,by rw[hic];exact hsetc,trivial,.inr fun o ho=> ?_⟩
   ·rw[hB.1]at ho;cases ho;exact hno
   ·rw[hB.1]at ho;cases ho;rfl
  ·exact .inl (hset _ hic)
 have SA3:=SA2.keep (w2':=w'.setChan Z.c 0 #[] false (n+1) (n+1) tm) (g2':=gA') (by rw[hsz];exact Qa _) rfl keepA ⟨rfl,rfl,rfl,(I.SA.relG _ (bI I.SA.part 0)).status.2⟩;have SB3:=I.SB.keep (w2':=w'.setChan Z.c 0 #[] false (n+1) (n+1) tm) (g2':=gB') (by rw[hsz];exact Qa _) rfl keepB ⟨rfl,rfl,rfl,(I.SB.relG _ (bI I.SB.part 0)).status.2⟩;have SA4:=SA3.after (b2:=Z.TA.extract (n+1) Z.TA.size) (s2:=s) (rc2:=rc+1) hA hfA (v:=recvd ok a true) (v':=recvd ok v' true) fun σ hσ=>by rw[FI,← h3 σ hσ]
 have SB4:=SB3.after (b2:=b.push v) (s2:=sB+1) (rc2:=Z.rcB) hB hfB (v:=undef) (v':=undef) fun σ hσ=>iC.symm
 have cellsA:∀i,aM (ay wA Z.rA (.chan Z.capA (Z.TA.extract (n+1) Z.TA.size) false s (rc+1) Z.tmA)) i→aM wA i:=fun i ⟨cc,t2,ff,h⟩=>by
  by_cases hi:Z.rA=i
  ·subst hi;rw[(hA.to (b2:=Z.TA.extract (n+1) Z.TA.size) s (rc+1)).1]at h;cases h
  ·exact⟨cc,t2,ff,by simp only[ay]at h;rw[AS hi]at h;exact h⟩
 have cellsB:∀i,aM (ay wB Z.rB (.chan Z.capB (b.push v) false (sB+1) Z.rcB Z.tmB)) i→aM wB i:=fun i ⟨cc,t2,ff,h⟩=>by
  by_cases hi:Z.rB=i
  ·subst hi;rw[(hB.to (b2:=b.push v) (sB+1) Z.rcB).1]at h;cases h
  ·exact⟨cc,t2,ff,by simp only[ay]at h;rw[AS hi]at h;exact h⟩
 have hgetA:∀i,Z.rA≠i→(ay wA Z.rA (.chan Z.capA (Z.TA.extract (n+1) Z.TA.size) false s (rc+1) Z.tmA)).heap[i]?=wA.heap[i]?:=fun i hi=>by simp only[ay];rw[AS hi]
 have heNe:Z.rA≠Z.eA:=fun h=>I.eA.2.2 hnlt (h▸I.kA.1)
 refine⟨pA2,SA4,SB4,⟨s,rc+1,hA.to s (rc+1)⟩,⟨b.push v,sB+1,hB.to (sB+1) Z.rcB,by simp[hb]⟩,hrA,I.kB,⟨tm,by rw[hcl];exact hsetc⟩,⟨by simpa[ay]using I.eA.1,fun o ho=>I.eA.2.1 o (by rw[← hgetA _ heNe];exact ho),h9⟩,hnlt,fun i hi=> ?_,fun i j hi hj h=>I.disj i j (cellsA i hi) (cellsB j hj) ((hκ i (cellsA i hi)).symm.trans h),(I.tr.meet fk pk f0 q0 Z.c n).mono (fun _ h=>h.elim) (fun _ h=>h.elim),fun i hi hr hlt=> ?_,fun i hi hr hlt=>I.mB i (cellsB i hi) hr hlt,fun x hx h5 h1 h2=>(hset x h5).trans (I.fr x hx h5 h1 h2),by rw[hsz];exact I.nz,I.out,⟨b.push v,sB+1,hB.to (sB+1) Z.rcB,fun i x y hx hy σ τ hσ hτ=> ?_⟩⟩
 ·rcases h8 i hi with hk|rfl
  ·rcases I.oth i hk with⟨o,ho,hno⟩|h
   ·by_cases h6:Z.rA=i
    ·exact .inr (.inr (.inl h6.symm))
    ·exact .inl ⟨o,(hgetA i h6).trans ho,hno⟩
   ·rcases h with⟨j,hj,h0,hje⟩|h
    ·exact .inr (.inl ⟨j,hj,h0,hje.trans (hold i hk).2.symm⟩)
    ·exact .inr (.inr h)
  ·exact .inr (.inr (.inr rfl))
 ·have:=hκ i (cellsA i hi);rw[this]at hlt ⊢;exact I.mA i (cellsA i hi) hr hlt
 ·rw[Qb]at hy;split at hy
  ·next e=>
   cases hy;rw[e,hb,ha]at hx;cases hx;exact(h3 σ hσ).symm.trans (hv τ hτ)
  ·obtain⟨b0,s0,h1,h2⟩:=I.val;have:=h1.1.symm.trans hB.1;simp only[Option.some.injEq,Obj.chan.injEq]at this;rw[← this.2.1]at hy;exact h2 i x y hx hy σ τ (hσ.less hold) hτ
end
end
section
open Go.Conc
open Go.ConcN (sumTo upd sumTo_upd upd_ne upd_same)
variable[aJ]
def bm(g:AI):AI:= {frame:=g.frame,callers:=g.callers,status:=.running,dying:=none}
theorem l9{g:AI}(h:g.dying=none)(f:IN):({bm g with frame:=f,status:=.running,offers:=none}:AI)= {g with frame:=f,status:=.running,offers:=none}:=by
 obtain⟨fr,cs,st,dy,off⟩:=g;dsimp only at h;subst h;rfl
structure Off(Q:If)(β:Nat→Option Code)(dt:be)(p:Part)(g:AI)(c c':CommCase)(sh:CommShape):Prop where
 at_:sU g.frame
 gh:∀m w,stepG (alt Q β) m g w= .comm (bm g) #[c] true sh w #[]
 re:∀σ,Ag p σ→c'=kn σ c
 fin:mh dt g.frame
def iZ(P:If)(K:AI→By→Prop)(M:AI→By→Prop)(g:AI)(w:By):Prop:=
 ∃(G:(Nat→PV→Nat)→Nat→AI)(W:(Nat→PV→Nat)→Nat→By)(E:(Nat→PV→Nat)→Nat→Array PD),
  (∀τ d,¬ Big (stepG P true g (af w τ d)).es→iu P g (af w τ d) (G τ d) (W τ d) (E τ d))∧∀τ d,¬ Big (stepG P true g (af w τ d)).es→Tree P K (G τ d) (W τ d)∧M (G τ d) (W τ d)
section
variable{Q:If}{β:Nat→Option Code}{D0:IN}{dt:be}{cl:Bool}{Ro:Nat→Prop}{os:Os}{rest:List IN}{p p':Part}{g g' g1 g1':AI}{w w' w1 w1':By}{es es':Array PD}{c c':CommCase}{sh:CommShape}{K M:AI→By→Prop}
theorem wT(S:Side Q β D0 dt cl Ro os rest p g w g' w')(τ:Nat→PV→Nat)(d:Nat):Side Q β D0 dt cl Ro os rest p g (af w τ d) g' w':=
 ⟨S.part,S.gok,fP S.iv τ d,S.ro,S.relG,S.relW⟩
theorem Lm{n n' n1':Nat}(h:iY Q p' n n1')(G:Grown p p' n n' n n1'){σ:Nat→Nat}(hσ:Ag p σ):Ag p' σ:=by
 refine⟨hσ.1,fun i hi=> ?_⟩;rcases G.new i hi with hk|⟨h1,_⟩
 ·rw[(G.old i hk).2];exact hσ.2 i hk
 ·have:=h.dom i hi;omega
theorem vf(A:lw Q β)(S:Side Q β D0 dt cl Ro os rest p g w g' w'){m':Bool}(h:stepG (alt Q β) true g (af w w'.tape w'.drawn)= .comm g1 #[c] true sh w1 es)(h':stepG Q m' g' w'= .comm g1' #[c'] true sh w1' es')(hf:mh dt g1.frame)
 (S1:Side Q β D0 dt cl Ro os rest p' g1 w1 g1' w1') (h1:∀σ,Ag p' σ→c'=kn σ c) (hE:Eff p p' Ro w w' w1 w1' es'):
 stepG Q m' g' w'= .comm (bm g') #[c'] true sh w' #[]∧Off Q β dt p g c c' sh∧g1=bm g∧w1=af w w'.tape w'.drawn:=by
 have hat:=Ak A S.gok.frame S.plain.1 h;obtain⟨e1,_,e3⟩:=ua hat S.plain.1 S.plain.2.1 S.plain.2.2.1 h;have hrel:=S.relG _ (bI S.part 0);have h0:sU g'.frame:=by
  rw[hrel.frame];exact⟨by rw[fv,hat.mode];rfl,hat.at_⟩
 obtain⟨f1,f2,f3⟩:=ua h0 hrel.dying.2 (by rw[hrel.frame];exact S.plain.2.1) (by rw[hrel.frame];exact S.plain.2.2.1) h';rw[f1,f2,f3]at h';rw[e1]at hE S1;refine⟨h',⟨hat,Ez hat S.plain.1 S.plain.2.1 S.plain.2.2.1 h,fun σ hσ=>h1 σ (Lm S1.part hE.grown hσ),?_⟩,e3,e1⟩;rw[e3]at hf;exact hf
theorem oM(hD:mi Q β D0)(E:mW Q β dt cl)(hβ:ir β)(hK:sS Q β K)(S:Side Q β D0 dt cl Ro os rest p g w g' w')
 {G:(Nat→PV→Nat)→Nat→AI} {W:(Nat→PV→Nat)→Nat→By} {E0:(Nat→PV→Nat)→Nat→Array PD}
 (hone:∀τ d,¬ Big (stepG (alt Q β) true g (af w τ d)).es→iu (alt Q β) g (af w τ d) (G τ d) (W τ d) (E0 τ d)) (h0:∀τ d,¬ Big (stepG (alt Q β) true g (af w τ d)).es→Tree (alt Q β) K (G τ d) (W τ d)∧M (G τ d) (W τ d))
 (hnc:¬ AtClose g) (m':Bool):
 (∃g1 w1 g1' w1' es' p',stepG Q m' g' w'= .go g1' w1' es'∧Side Q β D0 dt cl Ro os rest p' g1 w1 g1' w1'∧Eff p p' Ro w w' w1 w1' es'∧Tree (alt Q β) K g1 w1∧M g1 w1)∨
 (∃c c' sh,stepG Q m' g' w'= .comm (bm g') #[c'] true sh w' #[]∧qm cl #[c] true sh∧Off Q β dt p g c c' sh)∨(cl=false∧Big (stepG Q m' g' w').es):=by
 rcases oL hD.toB7 E S m' hnc with⟨g1,w1,es,g1',w1',es',p',hx,hx',S1,hE,hnb⟩|⟨g1,c,sh,w1,es,g1',c',w1',es',p',hx,hx',hC,hFin,S1,h5,hE,hnb⟩|⟨g1,w1,es,hx,hf,hnb⟩|⟨h1,_,h3⟩|⟨hl,hnb⟩
 ·have ho:=hone _ _ hnb;have ht:=h0 _ _ hnb;cases ho with
  |go hz=>
   rw[hx]at hz;simp only[GStep.go.injEq]at hz;obtain⟨h2,h4,_⟩:=hz;rw[← h2,← h4]at ht;exact .inl ⟨g1,w1,g1',w1',es',p',hx',S1,hE,ht.1,ht.2⟩
  |comm hz _=>rw[hx]at hz;cases hz
 ·obtain⟨k1,k2,_,_⟩:=vf E.apt S hx hx' hFin S1 h5 hE;exact .inr (.inl ⟨c,c',sh,k1,hC,k2⟩)
 ·exfalso;have ho:=hone _ _ hnb;have ht:=(h0 _ _ hnb).1;cases ho with
  |go hz=>
   rw[hx]at hz;simp only[GStep.go.injEq]at hz;obtain⟨h2,h4,_⟩:=hz;rw[← h2]at ht;exact oJ hβ hK ht hf
  |comm hz _=>rw[hx]at hz;cases hz
 ·exact .inr (.inr ⟨h1,h3⟩)
 ·exfalso;have ho:=hone _ _ hnb;have ht:=(h0 _ _ hnb).1;cases ho with
  |go hz=>
   rw[hz]at hl;exact rE E.apt hβ hK hD ht hl
  |comm hz _=>rw[hz]at hl;exact hl
theorem lE(hD:mi Q β D0)(E:mW Q β dt cl)(S:Side Q β D0 dt cl Ro os rest p g w g' w')(hnc:¬ AtClose g)(hx:∀m w2,stepG (alt Q β) m g w2= .comm (bm g) #[c] true sh w2 #[])(m':Bool):
 ∃c',stepG Q m' g' w'= .comm (bm g') #[c'] true sh w' #[]∧qm cl #[c] true sh∧Off Q β dt p g c c' sh:=by
 have hx1:=hx true (af w w'.tape w'.drawn);rcases oL hD.toB7 E S m' hnc with⟨g1,w1,es,g1',w1',es',p',hy,hx',S1,hE,hnb⟩|⟨g1,c2,sh2,w1,es,g1',c',w1',es',p',hy,hx',hC,hFin,S1,h0,hE,hnb⟩|⟨g1,w1,es,hy,hf,hnb⟩|⟨h1,h2,h3⟩|⟨hl,hnb⟩
 ·rw[hx1]at hy;cases hy
 ·obtain⟨k1,k2,_,_⟩:=vf E.apt S hy hx' hFin S1 h0 hE;rw[hx1]at hy;simp only[GStep.comm.injEq]at hy;obtain⟨_,hc,_,hs,_⟩:=hy;have:c=c2:=by simpa using hc
  subst this hs;exact⟨c',k1,hC,k2⟩
 ·rw[hx1]at hy;cases hy
 ·exact h2.elim
 ·rw[hx1]at hl;exact hl.elim
theorem vC(hn:iZ (alt Q β) K M g w)(ho:∀m w,stepG (alt Q β) m g w= .comm (bm g) #[c] true sh w #[])(τ:Nat→PV→Nat)(d:Nat):
 ∃g1 w1,(communicate (alt Q β) ed #[ph] 0 (bm g) #[c] true sh (af w τ d)).1= .next (oneG g1 w1)∧Tree (alt Q β) K g1 w1∧M g1 w1:=by
 obtain⟨G,W,E0,hone,h0⟩:=hn;have hx:=ho true (af w τ d);have hnb:¬ Big (stepG (alt Q β) true g (af w τ d)).es:=av;have h1:=hone τ d hnb;have h2:=h0 τ d hnb;cases h1 with
 |go hz=>rw[hx]at hz;cases hz
 |comm hz h3=>
  rw[hx]at hz;simp only[GStep.comm.injEq]at hz;obtain⟨e1,e2,e3,e4,e5,_⟩:=hz;rw[← e1,← e2,← e3,← e4,← e5]at h3;exact⟨_,_,h3,h2.1,h2.2⟩
end
structure dj(Q:If)(k:Nat)(xA xB:AI)(gs:Array AI)(q:Nat→Nat)(t:Trace):Prop where
 a:gs[0]?=some xA
 b:gs[k]?=some xB
 old:∀i x,i≠0→i≠k→gs[i]?=some x→QuitsD Q (q i) (Deaf t i) x
 above:∀j,gs.size≤j→Deaf t j=0
section
variable{Q:If}{k:Nat}{xA xB yA yB:AI}{gs gs2:Array AI}{q:Nat→Nat}{t t2:Trace}{w w1:By}{sl:Option (Nat×Nat)}
theorem dj.to(C:dj Q k xA xB gs q t)(hs:gs2.size=gs.size)(ha:gs2[0]?=some yA)(hb:gs2[k]?=some yB)(ho:∀i x,i≠0→i≠k→gs2[i]?=some x→gs[i]?=some x)(hd:∀i,i≠0→i≠k→Deaf t2 i=Deaf t i):dj Q k yA yB gs2 q t2:=by
 have h0:=(AT.1 C.a).1;have hk:=(AT.1 C.b).1;refine⟨ha,hb,fun i x h1 h2 h3=> ?_,fun j hj=> ?_⟩
 ·rw[hd i h1 h2];exact C.old i x h1 h2 (ho i x h1 h2 h3)
 ·rw[hd j (by omega) (by omega)];exact C.above j (by omega)
theorem dj.Aj(C:dj Q k xA xB gs q t)(hk0:k≠0){x y:AI}(hB:woken Q x y w1 xB=xB){u:Trace}(hu:∀op∈u,op.g=0):dj Q k y xB ((gs.map (woken Q x y w1)).setIfInBounds 0 y) q (t++u):=by
 have h0:=(AT.1 C.a).1;refine C.to (by simp) (by simp[h0]) ?_ (fun i z h1 h2 hz=> ?_) fun i h1 _=>Deaf_other t (g':=0) (by omega) u hu
 ·rw[AS (fun e=>hk0 e.symm),OF,C.b,PO,hB]
 ·rw[AS (fun e=>h1 e.symm),OF]at hz;obtain⟨z2,h3,rfl⟩:=PE.1 hz;rw[woken_quitsD (C.old i z2 h1 h2 h3)];exact h3
theorem dj.Gw(C:dj Q k xA xB gs q t)(hk0:k≠0){x y:AI}(hA:woken Q x y w1 xA=yA){u:Trace}(hu:∀op∈u,op.g=k):dj Q k yA y ((gs.map (woken Q x y w1)).setIfInBounds k y) q (t++u):=by
 have hk:=(AT.1 C.b).1;refine C.to (by simp) ?_ (by simp[hk]) (fun i z h1 h2 hz=> ?_) fun i _ h2=>Deaf_other t (g':=k) (fun e=>h2 e.symm) u hu
 ·rw[AS hk0,OF,C.a,PO,hA]
 ·rw[AS (fun e=>h2 e.symm),OF]at hz;obtain⟨z2,h0,rfl⟩:=PE.1 hz;rw[woken_quitsD (C.old i z2 h1 h2 h0)];exact h0
theorem dj.zu(C:dj Q k xA xB gs q t)(hk0:k≠0)(y:AI):dj Q k y xB (gs.setIfInBounds 0 y) q t:=by
 have h0:=(AT.1 C.a).1;refine C.to (by simp) (by simp[h0]) ?_ (fun i z h1 h2 hz=> ?_) fun _ _ _=>rfl
 ·rw[AS (fun e=>hk0 e.symm)];exact C.b
 ·rw[AS (fun e=>h1 e.symm)]at hz;exact hz
theorem dj.setB(C:dj Q k xA xB gs q t)(hk0:k≠0)(y:AI):dj Q k xA y (gs.setIfInBounds k y) q t:=by
 have hk:=(AT.1 C.b).1;refine C.to (by simp) ?_ (by simp[hk]) (fun i z h1 h2 hz=> ?_) fun _ _ _=>rfl
 ·rw[AS hk0];exact C.a
 ·rw[AS (fun e=>h2 e.symm)]at hz;exact hz
theorem dj.trace(C:dj Q k xA xB gs q t)(hd:∀i,i≠0→i≠k→Deaf t2 i=Deaf t i):dj Q k xA xB gs q t2:=C.to rfl C.a C.b (fun _ _ _ _ h=>h) hd
theorem dj.quiet(C:dj Q k xA xB gs q t){i:Nat}{x:AI}(h1:i≠0)(h2:i≠k)(hx:gs[i]?=some x)(r:Nat)(s:Bool):offersAt x r s=[]:=
 offersAt_of_not_blocked (fun e=>by rcases(C.old i x h1 h2 hx).status with h|h<;>rw[h]at e<;>cases e) r s
theorem dj.pick(C:dj Q k xA xB gs q t)(hk0:k≠0)(h5:awake xA)(h6:awake xB)(hrun:xA.status= .running∨xB.status= .running)
 (hw:∀a a' d,woken Q a a' (af w w.tape d) xA=xA∧woken Q a a' (af w w.tape d) xB=xB):
 ∃d sl',(xA.status= .running∧stepT Q (crowd gs w sl)=runT Q (crowd gs (af w w.tape d) sl') 0)∨(xB.status= .running∧stepT Q (crowd gs w sl)=runT Q (crowd gs (af w w.tape d) sl') k)∨
  ∃gs2 q2 ops,stepT Q (crowd gs w sl)=(.next (crowd gs2 (af w w.tape d) sl'),ops)∧dj Q k xA xB gs2 q2 (t++ops)∧sumTo gs2.size q2<sumTo gs.size q∧(∀op∈ops,op.act.touch?=none)∧Deaf (t++ops) 0=Deaf t 0∧Deaf (t++ops) k=Deaf t k:=by
 have haw:∀x∈gs,awake x:=by
  intro x hx;obtain⟨i,hi,rfl⟩:=Qk.1 hx;by_cases h0:i=0
  ·subst h0;have:gs[0]=xA:=by simpa[No hi]using C.a
   rw[this];exact h5
  by_cases h1:i=k
  ·subst h1;have:gs[i]=xB:=by simpa[No hi]using C.b
   rw[this];exact h6
  exact awake_of ((C.old i _ h0 h1 (No hi)).status.elim .inl fun x=>.inr (.inr x))
 have hsome:∃(i:Nat)(g:AI),gs[i]?=some g∧g.status= .running:=by
  rcases hrun with h|h
  ·exact⟨0,xA,C.a,h⟩
  ·exact⟨k,xB,C.b,h⟩
 obtain⟨i,x,d,sl',hi,hx,hst⟩:=crowd_pick (P:=Q) (w:=w) (sl:=sl) haw hsome;have hat:w.at d=af w w.tape d:=rfl;rw[hat]at hst;refine⟨d,sl',?_⟩;by_cases h0:i=0
 ·subst h0;obtain rfl:xA=x:=Option.some.inj (C.a.symm.trans hi);exact .inl ⟨hx,hst⟩
 by_cases h1:i=k
 ·subst h1;obtain rfl:xB=x:=Option.some.inj (C.b.symm.trans hi);exact .inr (.inl ⟨hx,hst⟩)
 refine .inr (.inr ?_);have hq:=C.old i x h0 h1 hi;have hi0:(i==0)=false:=by simp;omega
 have hlt:i<gs.size:=(AT.1 hi).1;cases hqi:q i with
 |zero=>rw[hqi]at hq;rw[hq.1]at hx;cases hx
 |succ k2=>
  rw[hqi]at hq;rcases hq with⟨hf,_⟩|⟨_,g',es,hm,h4,h7⟩
  ·rw[hf]at hx;cases hx
  have h2:=runT_crowd_go (P:=Q) (sl:=sl') (i:=i) hi (by rw[hi0];exact h4 (af w w.tape d));have hsz:((gs.map (woken Q x g' (af w w.tape d))).setIfInBounds i g').size=gs.size:=by simp
  have hsum:sumTo gs.size (upd q i k2)+(k2+1)=sumTo gs.size q+k2:=by
   have:=sumTo_upd q k2 id hlt;simpa[hqi]using this
  have hother:∀j,i≠j→Deaf (t++IT i x.frame.fn x.frame.place es) j=Deaf t j:=fun j hj=>Deaf_other t hj _ (fun op hop=>by obtain⟨e,_,rfl⟩:=BY hop;rfl)
  refine⟨_,upd q i k2,_,hst.trans h2,⟨?_,?_,fun j y h8 h9 hy=> ?_,fun j hj=> ?_⟩,by rw[hsz];omega,fun op hop=> ?_,hother 0 h0,hother k h1⟩
  ·rw[AS h0,OF,C.a,PO,(hw x g' d).1]
  ·rw[AS h1,OF,C.b,PO,(hw x g' d).2]
  ·by_cases hji:i=j
   ·subst hji;rw[PW (by simpa using hlt)]at hy;obtain rfl:=Option.some.inj hy;rw[upd_same,Deaf_own];exact h7
   ·rw[AS hji,OF]at hy;obtain⟨z,hz,rfl⟩:=PE.1 hy;have h3:=C.old j z h8 h9 hz;rw[woken_quitsD h3,upd_ne q k2 (QP hji),hother j hji];exact h3
  ·rw[hother j (by simp at hj;omega)];exact C.above j (by simpa using hj)
  ·obtain⟨e,he,rfl⟩:=BY hop;exact touch_mute (hm e he)
end
end
section
open Go.Conc
open Go.ConcN (sumTo upd sumTo_upd upd_ne upd_same)
variable[aJ]
inductive Wt where
 |rr
 |ar (c:CommCase) (z:PG) (ok:Bool)
 |rb (c:CommCase) (v0 v z:PG)
def Wt.bit:Wt→Nat
 | .rr=>1
 |_=>0
def Wt.xA(Z:Duo):Wt→AI→AI
 | .ar _ z ok,g=>parked (bm g) #[rcase Z.c z] (.recv ok)
 |_,g=>g
def Wt.xB(Z:Duo):Wt→AI→AI
 | .rb _ _ v z,g=>parked (bm g) #[scase Z.c v z] .send
 |_,g=>g
def Wt.Ok(Z:Duo)(pA:Part)(gA:AI)(pB:Part)(gB:AI):Wt→Prop
 | .rr=>True
 | .ar c z ok=>c.chan= .chan (some Z.rA)∧c.send=none∧Off Z.Q Z.βA Z.dtA pA gA c (rcase Z.c z) (.recv ok)
 | .rb c v0 v z=>c.chan= .chan (some Z.rB)∧c.send=some v0∧Off Z.Q Z.βB Z.dtB pB gB c (scase Z.c v z) .send
structure eK(Z:Duo)(KA KB:AI→By→Prop):Prop where
 EA:mW Z.Q Z.βA Z.dtA false
 EB:mW Z.Q Z.βB Z.dtB true
 rA:ir Z.βA
 rB:ir Z.βB
 kA:sS Z.Q Z.βA KA
 kB:sS Z.Q Z.βB KB
 dA:mi Z.Q Z.βA Z.DA
 dB:mi Z.Q Z.βB Z.DB
 k0:Z.k≠0
 sA:∀g w,KA g w→(∃z ok,∀m w2,stepG (alt Z.Q Z.βA) m g w2= .comm (bm g) #[{chan:=.chan (some Z.rA),send:=none,zero:=z}] true (.recv ok) w2 #[])∧∃s rc,w.heap[Z.rA]?=some (.chan Z.capA #[] false s rc Z.tmA)
 sB:∀g w,KB g w→AtClose g∧∃F s,w.heap[Z.rB]?=some (.chan Z.capB F false s Z.rcB Z.tmB)∧F.size=Z.TA.size∧∀i a b,Z.TA[i]?=some a→F[i]?=some b→yK Z i a b w
def Closing(Z:Duo)(KA KB:AI→By→Prop)(m:Machine)(t:Trace):Prop:=
 ∃st gs sl q n pA gA wA gA' pB gB wB gB' w',m=crowd gs w' sl∧Inv2 Z n pA gA wA gA' pB gB wB gB' w' t∧Wt.Ok Z pA gA pB gB st∧dj Z.Q Z.k (st.xA Z gA') (st.xB Z gB') gs q t∧(∀c v0 v z,st≠.rb c v0 v z)∧Tree (alt Z.Q Z.βA) KA gA wA∧KB gB wB
def Claim(Z:Duo)(KA KB:AI→By→Prop)(gA:AI)(wA:By)(gB:AI)(wB:By):Prop:=
 ∀n pA gA' pB gB' w' t st gs sl q,Inv2 Z n pA gA wA gA' pB gB wB gB' w' t→Wt.Ok Z pA gA pB gB st→dj Z.Q Z.k (st.xA Z gA') (st.xB Z gB') gs q t→Runs Z.Q (crowd gs w' sl) t (Closing Z KA KB)
section
variable{Z:Duo}{KA KB M MB:AI→By→Prop}{n:Nat}{pA pB:Part}{gA gA' gB gB':AI}{wA wB w':By}{t:Trace}{st:Wt}{gs:Array AI}{q:Nat→Nat}{sl:Option (Nat×Nat)}
theorem eK.JB(H:eK Z KA KB):∀g w,KB g w→∃b s,w.heap[Z.rB]?=some (.chan Z.capB b false s Z.rcB Z.tmB):=fun g w h=>let⟨_,F,s,hF,_⟩:=H.sB g w h;⟨F,s,hF⟩
theorem Inv2.LJ(I:Inv2 Z n pA gA wA gA' pB gB wB gB' w' t)(τ:Nat→PV→Nat)(d:Nat):Inv2 Z n pA gA wA gA' pB gB wB gB' (af w' τ d) t:=
 ⟨I.SA.af τ d,I.SB.af τ d,I.cA,I.cB,I.kA,I.kB,I.ch,I.eA,I.nT,I.oth,I.disj,I.tr,I.mA,I.mB,I.fr,I.nz,I.out,I.val⟩
theorem Inv2.JA(I:Inv2 Z n pA gA wA gA' pB gB wB gB' w' t)(τ:Nat→PV→Nat)(d:Nat):Inv2 Z n pA gA (af wA τ d) gA' pB gB (af wB τ d) gB' w' t:=
 ⟨wT I.SA τ d,wT I.SB τ d,I.cA,I.cB,I.kA,I.kB,I.ch,I.eA,I.nT,I.oth,I.disj,I.tr,I.mA,I.mB,I.fr,I.nz,I.out,I.val⟩
theorem od(I:Inv2 Z n pA gA wA gA' pB gB wB gB' w' t):¬ AtClose gA:=fun⟨_,d,ds,a,t2,c,r,hd,hc,_⟩=>by
 have:=I.SA.gok.frame.defs d (by rw[hd];exact .head _);rw[hc]at this;exact absurd this (by intro h;cases h)
theorem token(H:eK Z KA KB)(I:Inv2 Z n pA gA wA gA' pB gB wB gB' w' t){c c':CommCase}{v0:PG}(ho:Off Z.Q Z.βB Z.dtB pB gB c c' .send)(hs:c.send=some v0)(hn:iZ (alt Z.Q Z.βB) KB MB gB wB):
 n<Z.TA.size∧c.chan= .chan (some Z.rB)∧(∀a,Z.TA[n]?=some a→yK Z n a v0 wB)∧∀b s,cJ wB Z.rB Z.capB b s Z.rcB Z.tmB→∀τ d,∃g1 w1,g1= {gB with frame:=gB.frame.finish undef,status:=.running,offers:=none}∧w1=ay (af wB τ d) Z.rB (.chan Z.capB (b.push v0) false (s+1) Z.rcB Z.tmB)∧Tree (alt Z.Q Z.βB) KB g1 w1∧MB g1 w1:=by
 obtain⟨b,s,hO,hb⟩:=I.cB;have hch:∀b s,cJ wB Z.rB Z.capB b s Z.rcB Z.tmB→∀τ d,c.chan= .chan (some Z.rB)∧∃g1 w1,g1= {gB with frame:=gB.frame.finish undef,status:=.running,offers:=none}∧w1=ay (af wB τ d) Z.rB (.chan Z.capB (b.push v0) false (s+1) Z.rcB Z.tmB)∧Tree (alt Z.Q Z.βB) KB g1 w1∧MB g1 w1:=fun b s hO τ d=>by
  obtain⟨g1,w1,hd,hT,hf⟩:=vC hn ho.gh τ d;have h0:cJ (af wB τ d) Z.rB Z.capB b s Z.rcB Z.tmB:=hO;obtain⟨e1,e2,e3⟩:=vP h0 hs hd (nP H.kB hT);refine⟨e1,g1,w1,?_,e3,hT,hf⟩;rw[e2];exact l9 I.SB.plain.1 _
 obtain⟨h7,g1,w1,e1,e2,hT,_⟩:=hch b s hO w'.tape w'.drawn;have h0:cJ (af wB w'.tape w'.drawn) Z.rB Z.capB b s Z.rcB Z.tmB:=hO;have S2:=(wT I.SB w'.tape w'.drawn).after (b2:=b.push v0) (s2:=s+1) (rc2:=Z.rcB) h0 ho.fin (v:=undef) (v':=undef) (fun σ _=>iC.symm);rw[← e1,← e2]at S2;have hO2:=h0.to (b2:=b.push v0) (s+1) Z.rcB;rw[← e2]at hO2;obtain⟨g2,w2,l,s2,k1,k2,k3,k4⟩:=leaf H.EB H.rB H.kB H.dB H.JB hT _ _ _ _ _ S2 hO2;obtain⟨_,F,s3,hF,hsz,h9⟩:=H.sB g2 w2 k1;have h8:F=b.push v0++l:=by
  have:=hF.symm.trans k2.1;simp only[Option.some.injEq,Obj.chan.injEq]at this;exact this.2.1
 have hnlt:n<Z.TA.size:=by
  rw[← hsz,h8];simp[hb];omega
 have hFn:F[n]?=some v0:=by
  rw[h8,Array.getElem?_append];subst hb;simp
 refine⟨hnlt,h7,fun a ha=> ?_,fun b s hO τ d=>(hch b s hO τ d).2⟩;rcases h9 n a v0 ha hFn with h|⟨h1,e,h2,h3,h4,h5,h6⟩
 ·exact .inl h
 ·refine .inr ⟨h1,e,h2,?_,h4,h5,h6⟩;have hKe:pB.K e:=by
   have hg:=ho.re _ (bI I.SB.part 0);have hr1:=ho.re _ (bI I.SB.part 1);have hv:a7 (pB.far w'.heap.size 0) v0=a7 (pB.far w'.heap.size 1) v0:=by
    have:=congrArg CommCase.send (hg.symm.trans hr1);simp only[kn,hs,PO,Option.some.injEq]at this;exact this
   have he:=h6 _ _ hv;refine PU fun hk=> ?_
   rw[qg hk,qg hk]at he;omega
  have hlt:e<wB.heap.size:=I.SB.part.dom e hKe;have hsz1:w1.heap.size=wB.heap.size:=by rw[e2];simp[ay,af]
  obtain⟨cc,tt,ff,hc⟩:=k4 e (by rw[hsz1];exact hlt) h3;have hne:Z.rB≠e:=fun h=>by
   subst h;rw[hO2.1]at hc;cases hc
  refine⟨cc,tt,ff,?_⟩;rw[e2]at hc;simp only[ay]at hc;rw[AS hne]at hc;exact hc
theorem taken(H:eK Z KA KB)(I:Inv2 Z n pA gA wA gA' pB gB wB gB' w' t){c c':CommCase}{ok:Bool}(ho:Off Z.Q Z.βA Z.dtA pA gA c c' (.recv ok))(hs:c.send=none)(hn:iZ (alt Z.Q Z.βA) KA M gA wA):
 c.chan= .chan (some Z.rA)∧∃a,Z.TA[n]?=some a∧∀s rc,cJ wA Z.rA Z.capA (Z.TA.extract n Z.TA.size) s rc Z.tmA→∀τ d,∃g1 w1,g1= {gA with frame:=gA.frame.finish (recvd ok a true),status:=.running,offers:=none}∧w1=ay (af wA τ d) Z.rA (.chan Z.capA (Z.TA.extract (n+1) Z.TA.size) false s (rc+1) Z.tmA)∧Tree (alt Z.Q Z.βA) KA g1 w1∧M g1 w1:=by
 have hch:∀s rc,cJ wA Z.rA Z.capA (Z.TA.extract n Z.TA.size) s rc Z.tmA→∀τ d,c.chan= .chan (some Z.rA)∧n<Z.TA.size∧∃g1 w1,g1= {gA with frame:=gA.frame.finish (recvd ok (Z.TA.getD n undef) true),status:=.running,offers:=none}∧w1=ay (af wA τ d) Z.rA (.chan Z.capA (Z.TA.extract (n+1) Z.TA.size) false s (rc+1) Z.tmA)∧Tree (alt Z.Q Z.βA) KA g1 w1∧M g1 w1:=fun s rc hO τ d=>by
  obtain⟨g1,w1,h0,hT,h3⟩:=vC hn ho.gh τ d;have h4:cJ (af wA τ d) Z.rA Z.capA (Z.TA.extract n Z.TA.size) s rc Z.tmA:=hO;obtain⟨e1,e0,e2,e3⟩:=E9 h4 hs h0 (nP H.kA hT);have hlt:n<Z.TA.size:=by simp at e0;omega
  refine⟨e1,hlt,g1,w1,?_,?_,hT,h3⟩
  ·rw[e2];have:(Z.TA.extract n Z.TA.size).getD 0 undef=Z.TA.getD n undef:=by
    have h1:0<Z.TA.size-n:=by omega
    simp[Array.getD_eq_getD_getElem?,Array.getElem?_extract,hlt,h1]
   rw[this];exact l9 I.SA.plain.1 _
  ·rw[e3];have:(Z.TA.extract n Z.TA.size).extract 1 (Z.TA.extract n Z.TA.size).size=Z.TA.extract (n+1) Z.TA.size:=by
    rw[Array.extract_extract];congr 1
    simp;omega
   rw[this]
 obtain⟨s,rc,hO⟩:=I.cA;obtain⟨h1,h2,_⟩:=hch s rc hO w'.tape w'.drawn;refine⟨h1,Z.TA[n],No h2,fun s rc hO τ d=> ?_⟩;obtain⟨_,_,h⟩:=hch s rc hO τ d;have:Z.TA.getD n undef=Z.TA[n]:=by simp[Array.getD,h2]
 rw[this]at h;exact h
theorem Cw(hcl:Z.cls=false)(H:eK Z KA KB)(I:Inv2 Z n pA gA wA gA' pB gB wB gB' w' t){tm:Bool}(hc:w'.heap[Z.c]?=some (.chan 0 #[] false n n tm)){ok:Bool}{cA cB:CommCase}{v0 v z zB:PG}
 (hA:iZ (alt Z.Q Z.βA) KA (fun g w=>∀gB wB,Tree (alt Z.Q Z.βB) KB gB wB→Claim Z KA KB g w gB wB) gA wA) (hB:iZ (alt Z.Q Z.βB) KB MB gB wB)
 (oA:Off Z.Q Z.βA Z.dtA pA gA cA (rcase Z.c z) (.recv ok)) (sA:cA.send=none) (oB:Off Z.Q Z.βB Z.dtB pB gB cB (scase Z.c v zB) .send) (sB:cB.send=some v0) (fk:Q2) (pk:String) (f0:Q2) (q0:String)
 (C:dj Z.Q Z.k (PY (bm gA') (recvd ok v true)) (PY (bm gB') undef) gs q t):
 Runs Z.Q (crowd gs (w'.setChan Z.c 0 #[] false (n+1) (n+1) tm) sl) (t++met Z.k 0 fk pk f0 q0 Z.c n 0) (Closing Z KA KB):=by
 obtain⟨hlt,_,h1,hB2⟩:=token H I oB sB hB;obtain⟨_,a,ha,hA2⟩:=taken H I oA sA hA;obtain⟨s,rc,h0⟩:=I.cA;obtain⟨b,sb,hOB,hb⟩:=I.cB;obtain⟨gA1,wA1,eA1,eA2,_,h2⟩:=hA2 s rc h0 w'.tape w'.drawn;obtain⟨gB1,wB1,eB1,eB2,h3,_⟩:=hB2 b sb hOB w'.tape w'.drawn;have I1:=I.JA w'.tape w'.drawn;have hv:∀τ,Ag pB τ→v=a7 τ v0:=fun τ hτ=>by
  have:=congrArg CommCase.send (oB.re τ hτ);simp only[kn,scase,sB,PO,Option.some.injEq]at this;exact this
 obtain⟨pA2,I2⟩:=I1.meet hcl (ok:=ok) (v:=v0) (v':=v) (a:=a) hc h0 hOB hb ha (h1 a ha) hv oA.fin oB.fin fk pk f0 q0;rw[← eA1,← eA2,← eB1,← eB2]at I2;have h4:gA'.dying=none:=(I.SA.relG _ (bI I.SA.part 0)).dying.2;have h5:gB'.dying=none:=(I.SB.relG _ (bI I.SB.part 0)).dying.2;have f1:PY (bm gA') (recvd ok v true)= {gA' with frame:=gA'.frame.finish (recvd ok v true),status:=.running,offers:=none}:=l9 h4 _;have f2:PY (bm gB') undef= {gB' with frame:=gB'.frame.finish undef,status:=.running,offers:=none}:=l9 h5 _;rw[f1,f2]at C;exact h2 gB1 wB1 h3 _ _ _ _ _ _ _ .rr gs sl q I2 trivial (C.trace fun i _ _=>Deaf_quiet (met_quiet Z.k 0 fk pk f0 q0 Z.c n 0 i))
end
end
section
open Go.Conc
open Go.ConcN (sumTo upd sumTo_upd upd_ne upd_same)
variable[aJ]
section
variable{Z:Duo}{KA KB M MB:AI→By→Prop}{n:Nat}{pA pB:Part}{gA gA' gB gB':AI}{wA wB w':By}{t:Trace}{st:Wt}{gs:Array AI}{q:Nat→Nat}{sl:Option (Nat×Nat)}
theorem yH(I:Inv2 Z n pA gA wA gA' pB gB wB gB' w' t):gA'.status= .running∧gA'.dying=none:=⟨(I.SA.relG _ (bI I.SA.part 0)).status.2,(I.SA.relG _ (bI I.SA.part 0)).dying.2⟩
theorem Jz(I:Inv2 Z n pA gA wA gA' pB gB wB gB' w' t):gB'.status= .running∧gB'.dying=none:=⟨(I.SB.relG _ (bI I.SB.part 0)).status.2,(I.SB.relG _ (bI I.SB.part 0)).dying.2⟩
theorem yZ(st:Wt)(hr:gA'.status= .running){w:By}{tm:Bool}(hc:w.heap[Z.c]?=some (.chan 0 #[] false n n tm))(a a':AI):woken Z.Q a a' w (st.xA Z gA')=st.xA Z gA':=by
 cases st with
 |rr=>exact woken_run hr
 |ar c z ok=>exact woken_recv_open a a' hc
 |rb c v0 v z=>exact woken_run hr
theorem yY(st:Wt)(hr:gB'.status= .running){w:By}{tm:Bool}(hc:w.heap[Z.c]?=some (.chan 0 #[] false n n tm))(a a':AI):woken Z.Q a a' w (st.xB Z gB')=st.xB Z gB':=by
 cases st with
 |rr=>exact woken_run hr
 |ar c z ok=>exact woken_run hr
 |rb c v0 v z=>exact woken_send_open a a' hc
theorem GY(st:Wt)(hr:gA'.status= .running):awake (st.xA Z gA'):=by
 cases st with
 |rr=>exact awake_of (.inl hr)
 |ar c z ok=>exact awake_of (.inr (.inl rfl))
 |rb c v0 v z=>exact awake_of (.inl hr)
theorem GX(st:Wt)(hr:gB'.status= .running):awake (st.xB Z gB'):=by
 cases st with
 |rr=>exact awake_of (.inl hr)
 |ar c z ok=>exact awake_of (.inl hr)
 |rb c v0 v z=>exact awake_of (.inr (.inl rfl))
theorem FP{xA xB:AI}(C:dj Z.Q Z.k xA xB gs q t)(k0:Z.k≠0)(r:Nat)(s:Bool)(h:offersAt xB r s=[]):partners (gs.setIfInBounds 0 ph) r s=[]:=
 partners_nil fun j g hj=>by
  rcases getElem?_stand gs 0 j g hj with⟨_,rfl⟩|⟨hne,hg⟩
  ·rfl
  ·by_cases hk:j=Z.k
   ·subst hk;rw[C.b]at hg;cases hg;exact h
   ·exact C.quiet hne hk hg r s
theorem LM{xA xB:AI}(C:dj Z.Q Z.k xA xB gs q t)(k0:Z.k≠0)(r:Nat)(s:Bool)(h:offersAt xA r s=[]):partners (gs.setIfInBounds Z.k ph) r s=[]:=
 partners_nil fun j g hj=>by
  rcases getElem?_stand gs Z.k j g hj with⟨_,rfl⟩|⟨hne,hg⟩
  ·rfl
  ·by_cases hk:j=0
   ·subst hk;rw[C.a]at hg;cases hg;exact h
   ·exact C.quiet hk hne hg r s
theorem NB{xA xB:AI}(C:dj Z.Q Z.k xA xB gs q t)(k0:Z.k≠0)(r:Nat)(s:Bool)(h:offersAt xB r s=[0]):partners (gs.setIfInBounds 0 ph) r s=[(Z.k,0)]:=by
 have hj:(gs.setIfInBounds 0 ph)[Z.k]?=some xB:=stand_get k0 C.b;rw[partners_one hj fun j g hne hg=> ?_,h]
 ·rfl
 ·rcases getElem?_stand gs 0 j g hg with⟨_,rfl⟩|⟨h0,hg⟩
  ·rfl
  ·exact C.quiet h0 hne hg r s
theorem NC{xA xB:AI}(C:dj Z.Q Z.k xA xB gs q t)(k0:Z.k≠0)(r:Nat)(s:Bool)(h:offersAt xA r s=[0]):partners (gs.setIfInBounds Z.k ph) r s=[(0,0)]:=by
 have hj:(gs.setIfInBounds Z.k ph)[0]?=some xA:=stand_get (fun e=>k0 e.symm) C.a;rw[partners_one hj fun j g hne hg=> ?_,h]
 ·rfl
 ·rcases getElem?_stand gs Z.k j g hg with⟨_,rfl⟩|⟨h0,hg⟩
  ·rfl
  ·exact C.quiet hne h0 hg r s
theorem mL{x:AI}(h:x.status= .running)(r:Nat)(s:Bool):offersAt x r s=[]:=offersAt_of_not_blocked (fun e=>by rw[h]at e;cases e) r s
theorem caseA{dt:be}{cl:Bool}{Q:If}{β:Nat→Option Code}{D0:IN}{Ro:Nat→Prop}{os:Os}{rest:List IN}{p:Part}{g g':AI}{w w':By}{r b:Nat}(S:Side Q β D0 dt cl Ro os rest p g w g' w')(hk:p.K r∧p.κ r=b){c c':CommCase}{sh:CommShape}(o:Off Q β dt p g c c' sh)(hc:c.chan= .chan (some r)):
 c'.chan= .chan (some b)∧c'.send.isSome=c.send.isSome:=by
 have:=o.re _ (bI S.part 0);have h2:=(bI S.part 0).2 r hk.1;rw[this];refine⟨?_,by simp[kn]⟩;show a7 _ c.chan=_;rw[hc,gz,PO,h2,hk.2]
end
section
variable{Z:Duo}{KA KB:AI→By→Prop}{gA gB:AI}{wA wB:By}
theorem oP(hcl:Z.cls=false)(H:eK Z KA KB)(TA:Tree (alt Z.Q Z.βA) KA gA wA)(TB:Tree (alt Z.Q Z.βB) KB gB wB)
 (hA:KA gA wA∨iZ (alt Z.Q Z.βA) KA (fun g w=>∀gB wB,Tree (alt Z.Q Z.βB) KB gB wB→Claim Z KA KB g w gB wB) gA wA)
 (hB:KB gB wB∨iZ (alt Z.Q Z.βB) KB (fun g w=>Claim Z KA KB gA wA g w) gB wB):Claim Z KA KB gA wA gB wB:=by
 intro n pA gA' pB gB' w' t st gs sl q I hst C;generalize hM:sumTo gs.size q+st.bit=M;induction M using Qc generalizing w' t st gs sl q with
 |ind M ih=>
 obtain⟨tm,hch⟩:=I.ch;rw[hcl]at hch;obtain⟨hrA,hdA⟩:=yH I;obtain⟨h8,hdB⟩:=Jz I;by_cases hKB:KB gB wB
 ·refine .here ⟨st,gs,sl,q,n,pA,gA,wA,gA',pB,gB,wB,gB',w',rfl,I,hst,C,fun c v0 v z e=> ?_,TA,hKB⟩;subst e;obtain⟨⟨hno,_⟩,_⟩:=H.sB gB wB hKB;exact hno hst.2.2.at_.mode
 have hBn:=hB.resolve_left hKB;have hsome:(st.xA Z gA').status= .running∨(st.xB Z gB').status= .running:=by
  cases st with
  |rr=>exact .inl hrA
  |ar c z ok=>exact .inr h8
  |rb c v0 v z=>exact .inl hrA
 obtain⟨d,sl',hpick⟩:=C.pick (w:=w') (sl:=sl) H.k0 (GY st hrA) (GX st h8) hsome fun a a' d=>⟨yZ st hrA hch a a',yY st h8 hch a a'⟩
 have I2:=I.LJ w'.tape d;have hch2:(af w' w'.tape d).heap[Z.c]?=some (.chan 0 #[] false n n tm):=hch;generalize hw2:af w' w'.tape d=w2 at I2 hch2 hpick;rcases hpick with⟨hrun,hstep⟩|⟨hrun,hstep⟩|⟨gs2,q2,ops,hstep,C2,hlt,hmute,h0,hk⟩
 ·
  have hxA:st.xA Z gA'=gA':=by
   cases st with
   |rr=>rfl
   |ar c z ok=>cases hrun
   |rb c v0 v z=>rfl
  have hga:gs[0]?=some gA':=C.a.trans (congrArg some hxA);have hgt:∀es:Array PD,∀op∈IT 0 gA'.frame.fn gA'.frame.place es,op.g=0:=fun es=>ofEvents_g
  have hoffer:∀c c' sh,stepG Z.Q (0==0) gA' w2= .comm (bm gA') #[c'] true sh w2 #[]→qm false #[c] true sh→Off Z.Q Z.βA Z.dtA pA gA c c' sh→c.chan= .chan (some Z.rA)→Runs Z.Q (crowd gs w' sl) t (Closing Z KA KB):=by
   intro c c' sh hj hC ho h3;obtain⟨_,c0,hc0,h9⟩:=hC;have hcc:c0=c:=by simpa using hc0.symm
   subst hcc;rcases h9 with⟨h,_⟩|⟨_,ok,rfl,hs⟩
   ·cases h
   obtain⟨k1,k2⟩:=caseA I.SA I.kA ho h3;obtain⟨ch',sd',z'⟩:=c';dsimp only at k1 k2;rw[hs]at k2;cases sd' with
   |some x=>cases k2
   |none=>
    subst k1;have hf:stepG Z.Q (0==0) gA' w2= .comm (bm gA') #[rcase Z.c z'] true (.recv ok) w2 #[]:=hj;have h4:Off Z.Q Z.βA Z.dtA pA gA c0 (rcase Z.c z') (.recv ok):=ho;cases st with
    |ar c z ok=>cases hrun
    |rr=>
     have hnw:∀cc∈(#[rcase Z.c z']:Array CommCase),NoWays w2 (gs.setIfInBounds 0 ph) cc:=fun cc hcc=>by
      have:cc=rcase Z.c z':=by simpa using hcc
      subst this;refine⟨made_recv z' hch2,?_⟩;have:=FP C H.k0 Z.c true (mL h8 Z.c true);simp[ways,rcase,hch2,this]
     have hr:=crowd_waits (sl:=sl') hga hf hnw;refine Runs.step (hstep.trans hr) ?_;have hes:IT 0 gA'.frame.fn gA'.frame.place #[]=#[]:=rfl;rw[hes,Qg];subst hw2;refine ih _ ?_ _ _ (.ar c0 z' ok) _ sl' q I2 ⟨h3,hs,h4⟩ (C.zu H.k0 _) rfl;rw[← hM];simp[Wt.bit]
    |rb cB v0 v zB=>
     obtain⟨hcB,hg,hh⟩:=hst;have h5:iZ (alt Z.Q Z.βA) KA (fun g w=>∀gB wB,Tree (alt Z.Q Z.βB) KB gB wB→Claim Z KA KB g w gB wB) gA wA:=by
      rcases hA with ha|h
      ·exfalso;obtain⟨_,s,rc,hO⟩:=H.sA gA wA ha;obtain⟨s2,rc2,hO2⟩:=I.cA;have:=hO.symm.trans hO2.1;simp only[Option.some.injEq,Obj.chan.injEq]at this;have h1:=congrArg Array.size this.2.1;have h2:=(token H I hh hg hBn).1;simp at h1;omega
      ·exact h
     have hp:=NB C H.k0 Z.c true (by rw[show Wt.xB Z (.rb cB v0 v zB) gB'=parked (bm gB') #[scase Z.c v zB] .send from rfl,offersAt_parked_send];simp);have hr:=crowd_recv_meets (sl:=sl') hga hf hch2 H.k0 C.b hp;rw[finishComm_send,finishComm_recv]at hr;refine Runs.step (hstep.trans hr) ?_;have h6:=(C.setB H.k0 (PY (bm gB') undef)).zu H.k0 (PY (bm gA') (recvd ok v true));exact Cw hcl H I2 hch2 h5 hBn h4 hs hh hg (bm gB').frame.fn (bm gB').frame.place (bm gA').frame.fn (bm gA').frame.place h6
  rcases hA with ha|h5
  ·obtain⟨⟨z,ok,hx⟩,_⟩:=H.sA gA wA ha;obtain⟨c',k1,k2,k3⟩:=lE H.dA H.EA I2.SA (od I2) hx (0==0);exact hoffer _ _ _ k1 k2 k3 rfl
  ·have hi:=h5;obtain⟨G,W,E0,hone,h7⟩:=h5;rcases oM (M:=fun g w=>∀gB wB,Tree (alt Z.Q Z.βB) KB gB wB→Claim Z KA KB g w gB wB) H.dA H.EA H.rA H.kA I2.SA hone h7 (od I2) (0==0)with⟨g1,w1,g1',w1',es',p',hx,S1,hE,hT,hc⟩|⟨c,c',sh,hx,hC,ho⟩|⟨_,hbig⟩
   ·have hr:=runT_crowd_go (P:=Z.Q) (sl:=sl') (i:=0) hga hx;refine Runs.step (hstep.trans hr) ?_;have I3:=I2.Aj S1 hE gA'.frame.fn gA'.frame.place;obtain⟨tm3,hch3⟩:=I3.ch;rw[hcl]at hch3;have C3:=C.Aj (x:=gA') (y:=g1') (w1:=w1') H.k0 (yY st h8 hch3 gA' g1') (hgt es');cases st with
    |ar c z ok=>cases hrun
    |rr=>exact hc gB wB TB n p' g1' pB gB' w1' _ .rr _ sl' q I3 trivial C3
    |rb cB v0 v zB=>exact hc gB wB TB n p' g1' pB gB' w1' _ (.rb cB v0 v zB) _ sl' q I3 hst C3
   ·have hC2:=hC;obtain⟨_,c0,hc0,h9⟩:=hC2;have hcc:c0=c:=by simpa using hc0.symm
    subst hcc;rcases h9 with⟨h,_⟩|⟨_,ok,rfl,hs⟩
    ·cases h
    exact hoffer _ _ _ hx hC ho (taken H I2 ho hs hi).1
   ·exact hbig.elim
 ·
  have hxB:st.xB Z gB'=gB':=by
   cases st with
   |rr=>rfl
   |ar c z ok=>rfl
   |rb c v0 v z=>cases hrun
  have hgb:gs[Z.k]?=some gB':=C.b.trans (congrArg some hxB);have hgt:∀es:Array PD,∀op∈IT Z.k gB'.frame.fn gB'.frame.place es,op.g=Z.k:=fun es=>ofEvents_g
  have hnc:¬ AtClose gB:=fun h=>let⟨b,s,hO,_⟩:=I2.cB;hKB (u0 H.EB H.rB H.kB H.dB H.JB TB h I2.SB hO)
  have he:=hBn;obtain⟨G,W,E0,hone,h7⟩:=hBn;rcases oM (M:=fun g w=>Claim Z KA KB gA wA g w) H.dB H.EB H.rB H.kB I2.SB hone h7 hnc (Z.k==0)with⟨g1,w1,g1',w1',es',p',hx,S1,hE,hT,hc⟩|⟨c,c',sh,hx,hC,ho⟩|⟨h,_⟩
  ·have hr:=runT_crowd_go (P:=Z.Q) (sl:=sl') (i:=Z.k) hgb hx;refine Runs.step (hstep.trans hr) ?_;have I3:=I2.Gw S1 hE gB'.frame.fn gB'.frame.place;obtain⟨tm3,hch3⟩:=I3.ch;rw[hcl]at hch3;have C3:=C.Gw (x:=gB') (y:=g1') (w1:=w1') H.k0 (yZ st hrA hch3 gB' g1') (hgt es');cases st with
   |rb cB v0 v zB=>cases hrun
   |rr=>exact hc n pA gA' p' g1' w1' _ .rr _ sl' q I3 trivial C3
   |ar c z ok=>exact hc n pA gA' p' g1' w1' _ (.ar c z ok) _ sl' q I3 hst C3
  ·obtain⟨_,c0,hc0,h9⟩:=hC;have hcc:c0=c:=by simpa using hc0.symm
   subst hcc;rcases h9 with⟨_,rfl,hl⟩|⟨h,_⟩
   ·obtain⟨v0,hd⟩:=Qd.1 hl;have h3:=(token H I2 ho hd he).2.1;obtain⟨k1,k2⟩:=caseA I.SB I.kB ho h3;obtain⟨ch',sd',z'⟩:=c';dsimp only at k1 k2;rw[hd]at k2;cases sd' with
    |none=>cases k2
    |some v=>
     subst k1;have hx':stepG Z.Q (Z.k==0) gB' w2= .comm (bm gB') #[scase Z.c v z'] true .send w2 #[]:=hx;have h4:Off Z.Q Z.βB Z.dtB pB gB c0 (scase Z.c v z') .send:=ho;cases st with
     |rb c v0 v z=>cases hrun
     |rr=>
      have hnw:∀cc∈(#[scase Z.c v z']:Array CommCase),NoWays w2 (gs.setIfInBounds Z.k ph) cc:=fun cc hcc=>by
       have:cc=scase Z.c v z':=by simpa using hcc
       subst this;refine⟨made_send v z' hch2,?_⟩;have:=LM C H.k0 Z.c false (mL hrA Z.c false);simp[ways,scase,hch2,this]
      have hr:=crowd_waits (sl:=sl') hgb hx' hnw;refine Runs.step (hstep.trans hr) ?_;have hes:IT Z.k gB'.frame.fn gB'.frame.place #[]=#[]:=rfl;rw[hes,Qg];subst hw2;refine ih _ ?_ _ _ (.rb c0 v0 v z') _ sl' q I2 ⟨h3,hd,h4⟩ (C.setB H.k0 _) rfl;rw[← hM];simp[Wt.bit]
     |ar cA z ok=>
      obtain⟨hcA,hm,hn⟩:=hst;have h5:iZ (alt Z.Q Z.βA) KA (fun g w=>∀gB wB,Tree (alt Z.Q Z.βB) KB gB wB→Claim Z KA KB g w gB wB) gA wA:=by
       rcases hA with ha|h
       ·exfalso;obtain⟨_,s,rc,hO⟩:=H.sA gA wA ha;obtain⟨s2,rc2,hO2⟩:=I.cA;have:=hO.symm.trans hO2.1;simp only[Option.some.injEq,Obj.chan.injEq]at this;have h1:=congrArg Array.size this.2.1;have h2:=(token H I h4 hd he).1;simp at h1;omega
       ·exact h
      have hp:=NC C H.k0 Z.c false (by rw[show Wt.xA Z (.ar cA z ok) gA'=parked (bm gA') #[rcase Z.c z] (.recv ok)from rfl,offersAt_parked_recv];simp);have hr:=crowd_send_meets (sl:=sl') hgb hx' hch2 (fun e=>H.k0 e.symm) C.a hp;rw[finishComm_send,finishComm_recv]at hr;refine Runs.step (hstep.trans hr) ?_;have h6:=(C.zu H.k0 (PY (bm gA') (recvd ok v true))).setB H.k0 (PY (bm gB') undef);exact Cw hcl H I2 hch2 h5 he hn hm h4 hd (bm gB').frame.fn (bm gB').frame.place (bm gA').frame.fn (bm gA').frame.place h6
   ·cases h
  ·cases h
 ·
  refine Runs.step hstep (ih (sumTo gs2.size q2+st.bit) (by omega) _ _ st gs2 sl' q2 ?_ hst C2 rfl);subst hw2;exact I.mute w'.tape d hmute h0 hk
theorem zQ(hcl:Z.cls=false)(H:eK Z KA KB)(TA:Tree (alt Z.Q Z.βA) KA gA wA):∀gB wB,Tree (alt Z.Q Z.βB) KB gB wB→Claim Z KA KB gA wA gB wB:=by
 induction TA with
 |stop h3=>
  intro gB wB TB;induction TB with
  |stop hKB=>exact oP hcl H (.stop h3) (.stop hKB) (.inl h3) (.inl hKB)
  |step G W E hr hone h0 ih=>exact oP hcl H (.stop h3) (.step G W E hr hone h0) (.inl h3) (.inr ⟨G,W,E,hone,fun τ d hb=>⟨h0 τ d hb,ih τ d hb⟩⟩)
 | @step gA wA GA WA EA hrA h2 h1 ihA=>
  intro gB wB TB;have hA:KA gA wA∨iZ (alt Z.Q Z.βA) KA (fun g w=>∀gB wB,Tree (alt Z.Q Z.βB) KB gB wB→Claim Z KA KB g w gB wB) gA wA:=.inr ⟨GA,WA,EA,h2,fun τ d hb=>⟨h1 τ d hb,ihA τ d hb⟩⟩;induction TB with
  |stop hKB=>exact oP hcl H (.step GA WA EA hrA h2 h1) (.stop hKB) hA (.inl hKB)
  |step G W E hr hone h0 ih=>exact oP hcl H (.step GA WA EA hrA h2 h1) (.step G W E hr hone h0) hA (.inr ⟨G,W,E,hone,fun τ d hb=>⟨h0 τ d hb,ih τ d hb⟩⟩)
end
end
section
open Go.Conc
open Go.ConcN (sumTo upd sumTo_upd upd_ne upd_same)
variable[aJ]
structure Hk(Q:If)(b:IN):Prop where
 mode:b.mode= .panicking [goexitEntry]
 defers:b.defers=[]
 fn:Q.funcs[b.fn]?=none
 todo:b.todo=[]
structure EL(Z:Duo)(KB:AI→By→Prop):Prop where
 rest:Z.restB=[]
 stop:∀g w,KB g w→(∃b,g.callers.dropLast=[b]∧Hk Z.Q b)∧g.frame.mode= .returning∧g.frame.kind= .deferred∧(∃ats t cs,g.frame.defers=[{target:=.builtin .close ats t cs,args:=#[.chan (some Z.rB)]}])∧∃fn,Z.Q.funcs[g.frame.fn]?=some fn∧fn.results=#[]
theorem Eu(P:If)(f:Q2)(c:Nat):seen P f (closeEvents c)=closeEvents c:=by
 simp[seen,closeEvents]
theorem Et{Q:If}{g:AI}{w:By}{c n:Nat}{tm:Bool}{ats:Array Qo}{t:Qo}{cs:Array Bool}(hd:g.dying=none)(hm:g.frame.mode= .returning)
 (hdf:g.frame.defers=[{target:=.builtin .close ats t cs,args:=#[.chan (some c)]}]) (hch:w.heap[c]?=some (.chan 0 #[] false n n tm)) (m:Bool):
 stepG Q m g w= .go {frame:= {g.frame with defers:=[]},callers:=g.callers,status:=.running,dying:=none} (w.setChan c 0 #[] true n n tm) (closeEvents c):=by
 obtain⟨fr,cl,st,dy,off⟩:=g;dsimp only at hd hm hdf ⊢;subst hd;have hr:(invoke (.builtin .close ats t cs) #[.chan (some c)]).runT Q w #[]=(.ok (.value (.tuple #[])) (w.setChan c 0 #[] true n n tm),closeEvents c):=by
  show((PX ats t #[.chan (some c)])>>=fun v=>pure (QM v)).runT Q w #[]=_;rw[aN,Qi,run_close_open _ _ hch,events_close_open _ _ hch];rfl
 unfold stepG;dsimp only;rw[hm];dsimp only;unfold unwind;rw[hdf];dsimp only;unfold PJ;dsimp only;rw[hr];simp only[Eu];simp[IS,hm]
def Shut(k c:Nat)(t:Trace):Prop:=∃m op,t[m]?=some op∧op.g=k∧op.act= .close c∧(∀i x,m<i→t[i]?=some x→x.g=k→x.act.touch?=none)∧t.deaf k m=0
theorem Shut.app{k c:Nat}{t:Trace}(h:Shut k c t){u:Trace}(hu:∀op∈u,op.g=k→op.act.touch?=none):Shut k c (t++u):=by
 obtain⟨m,op,h1,h2,h3,h4,h5⟩:=h;have hlt:=lt_size_of_getElem? h1;refine⟨m,op,by rw[getElem?_append_old hlt];exact h1,h2,h3,fun i x hi hx hg=> ?_,by rw[deaf_old (Nat.le_of_lt hlt)];exact h5⟩;rcases getElem?_append_cases hx with⟨_,hx'⟩|⟨_,h0⟩
 ·exact h4 i x hi hx' hg
 ·exact hu x h0 hg
def Duo.shut(Z:Duo):Duo:= {Z with cls:=true}
section
variable{Z:Duo}{n:Nat}{pA pB p':Part}{gA gA' gB gB' g1 g1':AI}{wA wB w' w1 w1':By}{t:Trace}{es':Array PD}
theorem Inv2.shut(I:Inv2 Z n pA gA wA gA' pB gB wB gB' w' t){tm:Bool}(hc:w'.heap[Z.c]?=some (.chan 0 #[] false n n tm))(fn:Q2)(pos:String):
 Inv2 Z.shut n pA gA wA gA' pB gB wB gB' (w'.setChan Z.c 0 #[] true n n tm) (t++IT Z.k fn pos (closeEvents Z.c))∧Shut Z.k Z.c (t++IT Z.k fn pos (closeEvents Z.c)):=by
 have hclt:=(AT.1 hc).1;have hset:∀i,i≠Z.c→(w'.setChan Z.c 0 #[] true n n tm).heap[i]?=w'.heap[i]?:=fun i hi=>by
  simp only[Q5];rw[AS (fun e=>hi e.symm)]
 have hsetc:(w'.setChan Z.c 0 #[] true n n tm).heap[Z.c]?=some (.chan 0 #[] true n n tm):=by simp[Q5,hclt]
 have hsz:(w'.setChan Z.c 0 #[] true n n tm).heap.size=w'.heap.size:=by simp[Q5]
 obtain⟨sA,rcA,hA⟩:=I.cA;obtain⟨b,sB,hB,hb⟩:=I.cB;have keepA:∀i,pA.K i→qo pA wA w' (w'.setChan Z.c 0 #[] true n n tm) i:=fun i hi=>by
  by_cases hic:pA.κ i=Z.c
  ·have:i=Z.rA:=I.SA.part.inj i Z.rA hi I.kA.1 (hic.trans I.kA.2.symm);subst this;refine .inr ⟨fun o ho hno=> ?_,.chan 0 #[] true n n tm,by rw[hic];exact hsetc,trivial,.inr fun o ho=> ?_⟩
   ·rw[hA.1]at ho;cases ho;exact hno
   ·rw[hA.1]at ho;cases ho;rfl
  ·exact .inl (hset _ hic)
 have keepB:∀i,pB.K i→qo pB wB w' (w'.setChan Z.c 0 #[] true n n tm) i:=fun i hi=>by
  by_cases hic:pB.κ i=Z.c
  ·have:i=Z.rB:=I.SB.part.inj i Z.rB hi I.kB.1 (hic.trans I.kB.2.symm);subst this;refine .inr ⟨fun o ho hno=> ?_,.chan 0 #[] true n n tm,by rw[hic];exact hsetc,trivial,.inr fun o ho=> ?_⟩
   ·rw[hB.1]at ho;cases ho;exact hno
   ·rw[hB.1]at ho;cases ho;rfl
  ·exact .inl (hset _ hic)
 have SA3:=I.SA.keep (w2':=w'.setChan Z.c 0 #[] true n n tm) (g2':=gA') (by rw[hsz];exact Qa _) rfl keepA ⟨rfl,rfl,rfl,(I.SA.relG _ (bI I.SA.part 0)).status.2⟩;have SB3:=I.SB.keep (w2':=w'.setChan Z.c 0 #[] true n n tm) (g2':=gB') (by rw[hsz];exact Qa _) rfl keepB ⟨rfl,rfl,rfl,(I.SB.relG _ (bI I.SB.part 0)).status.2⟩;have h0:=closeOps Z.k fn pos Z.c;have htr:PT Z.k (TT pA.κ Z.RoA wA) (TT pB.κ Z.RoB wB) (t++IT Z.k fn pos (closeEvents Z.c)):=by
  refine I.tr.Mj (uI I.disj) ofEvents_g (fun op hop b hb hm=> ?_) fun g op hop d=> ?_
  ·rw[h0]at hop;simp only[Q4,Q9,Q3,or_false]at hop;rcases hop with rfl|rfl
   ·simp only[Qr,Qh,Option.some.injEq]at hb;subst hb;exact⟨(fun x hx=>by cases hx),fun r hr=>rfl⟩
   ·cases hb
  ·rw[h0]at hop;simp only[Q4,Q9,Q3,or_false]at hop;rcases hop with rfl|rfl<;>rfl
 refine⟨⟨SA3,SB3,I.cA,I.cB,I.kA,I.kB,⟨tm,hsetc⟩,I.eA,I.nT,I.oth,I.disj,htr,I.mA,I.mB,fun x hx h3 h1 h2=>(hset x h3).trans (I.fr x hx h3 h1 h2),by rw[hsz];exact I.nz,I.out,I.val⟩,?_⟩;rw[h0];refine⟨t.size+1,{g:=Z.k,fn:=fn,pos:=pos,act:=.close Z.c},by rw[at_new];rfl,rfl,rfl,fun i x hi hx hg=> ?_,?_⟩
 ·have:=lt_size_of_getElem? hx;simp at this;omega
 ·refine(deaf_quiet (k:=1) (fun op hop d=> ?_) (by simp)).trans I.tr.hB;simp only[Q4,Q9,Q3,or_false]at hop;rcases hop with rfl|rfl<;>rfl
end
end
section
open Go.Conc
open Go.ConcN (sumTo upd sumTo_upd upd_ne upd_same)
variable[aJ]
def m5(Q:If):Nat→AI→Prop
 |0,x=>x.status= .finished
 |n+1,x=>x.status= .running∧∃y,(∀w,stepG Q false x w= .go y w #[])∧m5 Q n y
def Bst(Q:If)(x:AI):Prop:=∃n,m5 Q n x
theorem Lg{Q:If}{fr b:IN}{fn:Func}(hm:fr.mode= .returning)(hk:fr.kind= .deferred)(hd:fr.defers=[])(hf:Q.funcs[fr.fn]?=some fn)(hr:fn.results=#[]){chain:List PanicEntry}(hb1:b.mode= .panicking chain)(hch:chain.head?.any (·.goexit)=true)(h0:∀e l,chain=e::l→e.recovered=false)(hb2:b.defers=[])(h3:b.catches Q=false):
 Bst Q {frame:=fr,callers:=[b],status:=.running,dying:=none}:=by
 refine⟨2,rfl,{frame:=b,callers:=[],status:=.running,dying:=none},fun w=> ?_,rfl,{frame:=b,callers:=[],status:=.finished,dying:=none},fun w=> ?_,rfl⟩
 ·have h1:=results_none hr fr.tmps Q w;have h2:(results fn fr.tmps).events Q w #[]=#[]:=events_results_none hr _ _;unfold stepG;dsimp only;rw[hm];dsimp only;unfold unwind;rw[hd];dsimp only;rw[hm];dsimp only;rw[hf];dsimp only;rw[Qi,h1,h2];dsimp only;rw[seen_none];unfold doReturn;dsimp only;rw[hk];dsimp only;rw[hb1];cases chain with
  |nil=>cases hch
  |cons e l=>
   have:=h0 e l rfl;obtain⟨v,rc,gx⟩:=e;dsimp only at this;subst this;rfl
 ·unfold stepG;dsimp only;rw[hb1];dsimp only;unfold unwind;rw[hb2];dsimp only;rw[hb1];dsimp only;rw[h3,hch];rfl
theorem m5.quits{Q:If}:∀{n:Nat}{x:AI},m5 Q n x→QuitsD Q n 0 x
 |0,_,h=>⟨h,rfl⟩
 |n+1,_,⟨h,y,hy,hn⟩=>.inr ⟨h,y,#[],by simp,hy,hn.quits⟩
theorem m5.status{Q:If}{n:Nat}{x:AI}(h:m5 Q n x):x.status= .finished∨x.status= .running:=by
 cases n with
 |zero=>exact .inl h
 |succ n=>exact .inr h.1
theorem m5.woken{Q:If}{n:Nat}{x a a':AI}(h:m5 Q n x)(w:By):woken Q a a' w x=x:=by
 unfold Go.Conc.woken;split
 ·exact again_running _ (h.status.elim .inr .inl)
 ·rfl
theorem m5.awake{Q:If}{n:Nat}{x:AI}(h:m5 Q n x):awake x:=awake_of (h.status.elim (fun h=>.inr (.inr h)) .inl)
theorem m5.quiet{Q:If}{n:Nat}{x:AI}(h:m5 Q n x)(r:Nat)(s:Bool):offersAt x r s=[]:=offersAt_of_not_blocked (fun e=>by rcases h.status with h|h<;>simp[e]at h) r s
structure Nu(x g:AI):Prop where
 frame:x.frame=g.frame
 callers:x.callers=g.callers
 dying:x.dying=g.dying
 status:x.status= .running
def Done(Z:Duo)(KA KB:AI→By→Prop)(m:Machine)(t:Trace):Prop:=
 ∃gs sl q pA gA wA gA' pB gB wB gB' w' c0 z ok t0,m=crowd gs w' sl∧Inv2 Z.shut Z.TA.size pA gA wA gA' pB gB wB gB' w' t0∧KA gA wA∧KB gB wB∧(∀m w2,stepG (alt Z.Q Z.βA) m gA w2= .comm (bm gA) #[c0] true (.recv ok) w2 #[])∧(∀σ,Ag pA σ→rcase Z.c z=kn σ c0)∧
  gs[0]?=some (PY (bm gA') (recvd ok z false))∧Leavers Z.Q t gs q∧Held t∧Deaf t 0=0
section
variable{Z:Duo}{KA KB M MB:AI→By→Prop}
theorem eK.shut(H:eK Z KA KB):eK Z.shut KA KB:=⟨H.EA,H.EB,H.rA,H.rB,H.kA,H.kB,H.dA,H.dB,H.k0,H.sA,H.sB⟩
def wC(Z:Duo)(KA KB:AI→By→Prop)(gA:AI)(wA:By):Prop:=
 ∀pA gA' pB gB wB gB' w' t gs sl q x y,Inv2 Z.shut Z.TA.size pA gA wA gA' pB gB wB gB' w' t→KB gB wB→Shut Z.k Z.c t→Nu x gA'→Bst Z.Q y→dj Z.Q Z.k x y gs q t→Runs Z.Q (crowd gs w' sl) t (Done Z KA KB)
theorem HU{xA xB:AI}{gs:Array AI}{q:Nat→Nat}{t:Trace}(C:dj Z.Q Z.k xA xB gs q t)(r:Nat)(s:Bool)(h:offersAt xB r s=[]):partners (gs.setIfInBounds 0 ph) r s=[]:=
 partners_nil fun j g hj=>by
  rcases getElem?_stand gs 0 j g hj with⟨_,rfl⟩|⟨hne,hg⟩
  ·rfl
  ·by_cases hk:j=Z.k
   ·subst hk;rw[C.b]at hg;cases hg;exact h
   ·exact C.quiet hne hk hg r s
theorem dj.leavers{Q:If}{k:Nat}{xA xB:AI}{gs:Array AI}{q:Nat→Nat}{t:Trace}(C:dj Q k xA xB gs q t){n:Nat}(hB:m5 Q n xB)(hd:Deaf t k=0):Leavers Q t gs (upd q k n):=by
 refine⟨fun i g hi hg=> ?_,C.above⟩;by_cases hk:i=k
 ·subst hk;rw[C.b]at hg;cases hg;rw[upd_same,hd];exact hB.quits
 ·rw[upd_ne q n hk];exact C.old i g (by omega) hk hg
theorem wk(H:eK Z KA KB){gA:AI}{wA:By}(hA:KA gA wA∨iZ (alt Z.Q Z.βA) KA (fun g w=>wC Z KA KB g w) gA wA):wC Z KA KB gA wA:=by
 intro pA gA' pB gB wB gB' w' t gs sl q x y I hKB hS hx ⟨n,hy⟩ C;generalize hM:sumTo gs.size q+n=M;induction M using Qc generalizing w' t gs sl q x y n with
 |ind M ih=>
 obtain⟨tm,hch⟩:=I.ch;obtain⟨hrA,hdA⟩:=yH I;have h3:=od I;obtain⟨d,sl',hpick⟩:=C.pick (w:=w') (sl:=sl) H.k0 (awake_of (.inl hx.status)) hy.awake (.inl hx.status) fun a a' d=>⟨woken_run hx.status,hy.woken _⟩
 have I2:=I.LJ w'.tape d;have hch2:(af w' w'.tape d).heap[Z.c]?=some (.chan 0 #[] true Z.TA.size Z.TA.size tm):=hch;generalize hw2:af w' w'.tape d=w2 at I2 hch2 hpick;have hsame:∀m,stepG Z.Q m x w2=stepG Z.Q m gA' w2:=fun m=>stepG_same hx.frame hx.callers hx.dying w2
 have hga:gs[0]?=some x:=C.a;rcases hpick with⟨_,hstep⟩|⟨hrun,hstep⟩|⟨gs2,q2,ops,hstep,C2,hlt,hmute,h0,hk⟩
 ·
  rcases hA with h4|h5
  ·obtain⟨⟨z,ok,hx1⟩,_⟩:=H.sA gA wA h4;obtain⟨c',k1,k2,k3⟩:=lE H.dA H.EA I2.SA h3 hx1 (0==0);obtain⟨e1,e2⟩:=caseA I2.SA I2.kA k3 rfl;obtain⟨ch',sd',z'⟩:=c';dsimp only at e1 e2;cases sd' with
   |some v=>cases e2
   |none=>
    subst e1;have h7:stepG Z.Q (0==0) x w2= .comm (bm gA') #[rcase Z.c z'] true (.recv ok) w2 #[]:=(hsame _).trans k1;have hp:=HU C Z.c true (hy.quiet Z.c true);have hr:=crowd_recv_closed (sl:=sl') hga h7 hch2 hp;rw[finishComm_recv]at hr;refine Runs.step (hstep.trans hr) (.here ?_);have hes:IT 0 x.frame.fn x.frame.place #[]=#[]:=rfl;rw[hes,Array.empty_append];obtain⟨m,op,s1,s2,s3,s4,s5⟩:=hS;have h1:=I2.tr.found (y:= {g:=0,fn:=(bm gA').frame.fn,pos:=(bm gA').frame.place,act:=.recvClosed Z.c}) s1 s2 ⟨_,s3,trivial⟩ s3 s4 s5 rfl rfl;have hq:Quiet (#[{g:=0,fn:=(bm gA').frame.fn,pos:=(bm gA').frame.place,act:=.recvClosed Z.c}]:Trace):=fun g op hop d=>by
     simp only[Q4,Q9,Q3,or_false]at hop;subst hop;rfl
    have C2:=(C.zu H.k0 (PY (bm gA') (recvd ok z' false))).trace (t2:=t++ #[{g:=0,fn:=(bm gA').frame.fn,pos:=(bm gA').frame.place,act:=.recvClosed Z.c}]) fun i _ _=>Deaf_quiet (hq i)
    exact⟨_,_,_,pA,gA,wA,gA',pB,gB,wB,gB',w2,_,z',ok,t,rfl,I2,h4,hKB,hx1,k3.re,C2.a,C2.leavers hy ((Deaf_quiet (hq Z.k)).trans I2.tr.hB),h1,(Deaf_quiet (hq 0)).trans I2.tr.hA⟩
  ·have h6:=h5;obtain⟨G,W,E0,hone,h2⟩:=h5;rcases oM (M:=fun g w=>wC Z KA KB g w) H.dA H.EA H.rA H.kA I2.SA hone h2 h3 (0==0)with⟨g1,w1,g1',w1',es',p',hx1,S1,hE,hT,h8⟩|⟨c,c',sh,hx1,hC,ho⟩|⟨_,hbig⟩
   ·have hr:=runT_crowd_go (P:=Z.Q) (sl:=sl') (i:=0) hga ((hsame _).trans hx1);refine Runs.step (hstep.trans hr) ?_;have I3:=I2.Aj S1 hE x.frame.fn x.frame.place;have C3:=C.Aj (x:=x) (y:=g1') (w1:=w1') H.k0 (hy.woken _) (u:=IT 0 x.frame.fn x.frame.place es') ofEvents_g;obtain⟨hr1,hd1⟩:=yH I3;exact h8 p' g1' pB gB wB gB' w1' _ _ sl' q g1' y I3 hKB (hS.app fun op hop hg=>by have:=ofEvents_g op hop;rw[hg]at this;exact absurd this H.k0) ⟨rfl,rfl,rfl,hr1⟩ ⟨n,hy⟩ C3
   ·exfalso;obtain⟨_,c0,hc0,h9⟩:=hC;have hcc:c0=c:=by simpa using hc0.symm
    subst hcc;rcases h9 with⟨h,_⟩|⟨_,ok,rfl,hs⟩
    ·cases h
    obtain⟨_,a,ha,_⟩:=taken H.shut I2 ho hs h6;have:=(AT.1 ha).1;exact absurd this (Nat.lt_irrefl _)
   ·exact hbig.elim
 ·
  cases n with
  |zero=>have:y.status= .finished:=hy;rw[this]at hrun;cases hrun
  |succ n=>
  obtain⟨_,y2,hy2,hf⟩:=hy;have hgb:gs[Z.k]?=some y:=C.b;have hk0:(Z.k==0)=false:=by simpa using H.k0
  have hr:=runT_crowd_go (P:=Z.Q) (sl:=sl') (i:=Z.k) hgb (by rw[hk0];exact hy2 w2);refine Runs.step (hstep.trans hr) ?_;have C3:=C.Gw (x:=y) (y:=y2) (w1:=w2) H.k0 (woken_run hx.status) (u:=IT Z.k y.frame.fn y.frame.place #[]) ofEvents_g;have hes:IT Z.k y.frame.fn y.frame.place #[]=#[]:=rfl;rw[hes,Qg]at C3 ⊢;subst hw2;refine ih _ ?_ _ _ _ sl' q x y2 I2 hS hx n hf C3 rfl;rw[← hM];simp
 ·refine Runs.step hstep (ih (sumTo gs2.size q2+n) (by omega) _ _ gs2 sl' q2 x y ?_ (hS.app fun op hop _=>hmute op hop) hx n hy C2 rfl);subst hw2;exact I.mute w'.tape d hmute h0 hk
theorem H8(H:eK Z KA KB){gA:AI}{wA:By}(TA:Tree (alt Z.Q Z.βA) KA gA wA):wC Z KA KB gA wA:=by
 induction TA with
 |stop h1=>exact wk H (.inl h1)
 |step G W E hr hone h0 ih=>exact wk H (.inr ⟨G,W,E,hone,fun τ d hb=>⟨h0 τ d hb,ih τ d hb⟩⟩)
def ww(Z:Duo)(KA KB:AI→By→Prop)(gA:AI)(wA:By):Prop:=
 ∀pA gA' pB gB wB gB' w' t st gs sl q,Inv2 Z Z.TA.size pA gA wA gA' pB gB wB gB' w' t→Wt.Ok Z pA gA pB gB st→dj Z.Q Z.k (st.xA Z gA') (st.xB Z gB') gs q t→(∀c v0 v z,st≠.rb c v0 v z)→KB gB wB→Runs Z.Q (crowd gs w' sl) t (Done Z KA KB)
theorem shut_node(hcl:Z.cls=false)(H:eK Z KA KB)(HB:EL Z KB){gA:AI}{wA:By}(TA:Tree (alt Z.Q Z.βA) KA gA wA)(hA:KA gA wA∨iZ (alt Z.Q Z.βA) KA (fun g w=>ww Z KA KB g w) gA wA):ww Z KA KB gA wA:=by
 intro pA gA' pB gB wB gB' w' t st gs sl q I hst C h1 hKB;generalize hM:sumTo gs.size q+st.bit=M;induction M using Qc generalizing w' t st gs sl q with
 |ind M ih=>
 obtain⟨tm,hch⟩:=I.ch;rw[hcl]at hch;obtain⟨hrA,h8⟩:=yH I;obtain⟨h2,h9⟩:=Jz I;have hxB:st.xB Z gB'=gB':=by
  cases st with
  |rr=>rfl
  |ar c z ok=>rfl
  |rb c v0 v z=>exact absurd rfl (h1 c v0 v z)
 obtain⟨d,sl',hpick⟩:=C.pick (w:=w') (sl:=sl) H.k0 (GY st hrA) (GX st h2) (.inr (by rw[hxB];exact h2)) fun a a' d=>⟨yZ st hrA hch a a',yY st h2 hch a a'⟩
 have I2:=I.LJ w'.tape d;have hch2:(af w' w'.tape d).heap[Z.c]?=some (.chan 0 #[] false Z.TA.size Z.TA.size tm):=hch;generalize hw2:af w' w'.tape d=w2 at I2 hch2 hpick;rcases hpick with⟨hrun,hstep⟩|⟨hrun,hstep⟩|⟨gs2,q2,ops,hstep,C2,hlt,hmute,h0,hk⟩
 ·
  have hxA:st= .rr:=by
   cases st with
   |rr=>rfl
   |ar c z ok=>cases hrun
   |rb c v0 v z=>exact absurd rfl (h1 c v0 v z)
  subst hxA;have hga:gs[0]?=some gA':=C.a;rcases hA with hc|h4
  ·obtain⟨⟨z,ok,hx1⟩,_⟩:=H.sA gA wA hc;obtain⟨c',k1,k2,k3⟩:=lE H.dA H.EA I2.SA (od I2) hx1 (0==0);obtain⟨e1,e2⟩:=caseA I2.SA I2.kA k3 rfl;obtain⟨ch',sd',z'⟩:=c';dsimp only at e1 e2;cases sd' with
   |some v=>cases e2
   |none=>
    subst e1;have h5:stepG Z.Q (0==0) gA' w2= .comm (bm gA') #[rcase Z.c z'] true (.recv ok) w2 #[]:=k1;have hnw:∀cc∈(#[rcase Z.c z']:Array CommCase),NoWays w2 (gs.setIfInBounds 0 ph) cc:=fun cc hcc=>by
     have:cc=rcase Z.c z':=by simpa using hcc
     subst this;refine⟨made_recv z' hch2,?_⟩;have:=FP C H.k0 Z.c true (mL h2 Z.c true);simp[ways,rcase,hch2,this]
    have hr:=crowd_waits (sl:=sl') hga h5 hnw;refine Runs.step (hstep.trans hr) ?_;have hes:IT 0 gA'.frame.fn gA'.frame.place #[]=#[]:=rfl;rw[hes,Qg];subst hw2;refine ih _ ?_ _ _ (.ar {chan:=.chan (some Z.rA),send:=none,zero:=z} z' ok) _ sl' q I2 ⟨rfl,rfl,k3⟩ (C.zu H.k0 _) (fun _ _ _ _ e=>by cases e) rfl;rw[← hM];simp[Wt.bit]
  ·have h6:=h4;obtain⟨G,W,E0,hone,h3⟩:=h4;rcases oM (M:=fun g w=>ww Z KA KB g w) H.dA H.EA H.rA H.kA I2.SA hone h3 (od I2) (0==0)with⟨g1,w1,g1',w1',es',p',hx1,S1,hE,hT,hd⟩|⟨c,c',sh,hx1,hC,ho⟩|⟨_,hbig⟩
   ·have hr:=runT_crowd_go (P:=Z.Q) (sl:=sl') (i:=0) hga hx1;refine Runs.step (hstep.trans hr) ?_;have I3:=I2.Aj S1 hE gA'.frame.fn gA'.frame.place;have C3:=C.Aj (x:=gA') (y:=g1') (w1:=w1') H.k0 (woken_run h2) (u:=IT 0 gA'.frame.fn gA'.frame.place es') ofEvents_g;exact hd p' g1' pB gB wB gB' w1' _ .rr _ sl' q I3 trivial C3 (fun _ _ _ _ e=>by cases e) hKB
   ·exfalso;obtain⟨_,c0,hc0,he⟩:=hC;have hcc:c0=c:=by simpa using hc0.symm
    subst hcc;rcases he with⟨h,_⟩|⟨_,ok,rfl,hs⟩
    ·cases h
    obtain⟨_,a,ha,_⟩:=taken H I2 ho hs h6;have:=(AT.1 ha).1;exact absurd this (Nat.lt_irrefl _)
   ·exact hbig.elim
 ·
  have hgb:gs[Z.k]?=some gB':=C.b.trans (congrArg some hxB);obtain⟨⟨bf,hcs,hbo⟩,hmo,hki,⟨ats,tt,cs,hdf⟩,fn,hfn,hres⟩:=HB.stop gB wB hKB;have hrel:=I2.SB.relG _ (bI I2.SB.part 0);have hkap:pB.far w2.heap.size 0 Z.rB=Z.c:=((bI I2.SB.part 0).2 _ I2.kB.1).trans I2.kB.2;have f1:gB'.frame.mode= .returning:=by rw[hrel.frame,fv,hmo];rfl
  have f2:gB'.frame.kind= .deferred:=by rw[hrel.frame,oO];exact hki
  obtain⟨bf',f3,hb1,hb2,hf,hg⟩:∃bf',gB'.callers=[bf']∧bf'.mode= .panicking [goexitEntry]∧bf'.defers=[]∧bf'.fn=bf.fn∧bf'.todo=bf.todo:=by
   refine⟨aH (pB.far w2.heap.size 0) bf,?_,?_,?_,rfl,rfl⟩
   ·rw[hrel.callers,hcs,HB.rest];rfl
   ·rw[fv,hbo.mode];simp[lG,jG,goexitEntry]
   ·rw[jS,hbo.defers];rfl
  have f4:gB'.frame.defers=[{target:=.builtin .close ats tt cs,args:=#[.chan (some Z.c)]}]:=by
   rw[hrel.frame,jS,hdf];simp[km,wY,hkap]
  have f5:gB'.frame.fn=gB.frame.fn:=by rw[hrel.frame];rfl
  have hst2:=Et (Q:=Z.Q) h9 f1 f4 hch2 (Z.k==0);rw[f3]at hst2;have hr:=runT_crowd_go (P:=Z.Q) (sl:=sl') (i:=Z.k) hgb hst2;refine Runs.step (hstep.trans hr) ?_;obtain⟨I3,hS⟩:=I2.shut hch2 gB'.frame.fn gB'.frame.place;have hclt:=(AT.1 hch2).1;have hsetc:(w2.setChan Z.c 0 #[] true Z.TA.size Z.TA.size tm).heap[Z.c]?=some (.chan 0 #[] true Z.TA.size Z.TA.size tm):=by simp[Q5,hclt]
  have hmw:mayWake Z.Q gB'=true:=by unfold mayWake;rw[f1]
  obtain⟨x,hh,h7⟩:∃x,woken Z.Q gB' {frame:= {gB'.frame with defers:=[]},callers:=[bf'],status:=.running,dying:=none} (w2.setChan Z.c 0 #[] true Z.TA.size Z.TA.size tm) (st.xA Z gA')=x∧Nu x gA':=by
   cases st with
   |rr=>exact⟨gA',woken_run hrA,rfl,rfl,rfl,hrA⟩
   |rb c v0 v z=>exact absurd rfl (h1 c v0 v z)
   |ar c z ok=>
    refine⟨{parked (bm gA') #[rcase Z.c z] (.recv ok)with status:=.running},?_,rfl,rfl,?_,rfl⟩
    ·show Go.Conc.woken _ _ _ _ (parked (bm gA') #[rcase Z.c z] (.recv ok))=_;unfold Go.Conc.woken;rw[hmw];exact(if_pos rfl).trans (again_recv_closed hsetc)
    ·exact h8.symm
  have C3:=C.Gw (x:=gB') (y:= {frame:= {gB'.frame with defers:=[]},callers:=[bf'],status:=.running,dying:=none}) (w1:=w2.setChan Z.c 0 #[] true Z.TA.size Z.TA.size tm) H.k0 hh (u:=IT Z.k gB'.frame.fn gB'.frame.place (closeEvents Z.c)) ofEvents_g;exact H8 H TA pA gA' pB gB wB gB' _ _ _ sl' q x _ I3 hKB hS h7 (Lg (fr:= {gB'.frame with defers:=[]}) f1 f2 rfl (by rw[show({gB'.frame with defers:=[]}:IN).fn=gB'.frame.fn from rfl,f5];exact hfn) hres hb1 rfl (fun e l h=>by cases h;rfl) hb2 (by unfold Frame.catches;rw[hf,hg,hbo.fn,hbo.todo])) C3
 ·refine Runs.step hstep (ih (sumTo gs2.size q2+st.bit) (by omega) _ _ st gs2 sl' q2 ?_ hst C2 h1 rfl);subst hw2;exact I.mute w'.tape d hmute h0 hk
theorem HH(hcl:Z.cls=false)(H:eK Z KA KB)(HB:EL Z KB){gA:AI}{wA:By}(TA:Tree (alt Z.Q Z.βA) KA gA wA):ww Z KA KB gA wA:=by
 induction TA with
 |stop h1=>exact shut_node hcl H HB (.stop h1) (.inl h1)
 |step G W E hr hone h0 ih=>exact shut_node hcl H HB (.step G W E hr hone h0) (.inr ⟨G,W,E,hone,fun τ d hb=>⟨h0 τ d hb,ih τ d hb⟩⟩)
theorem pair(hcl:Z.cls=false)(H:eK Z KA KB)(HB:EL Z KB){gA gB gA' gB':AI}{wA wB w':By}{pA pB:Part}{t:Trace}{gs:Array AI}{sl:Option (Nat×Nat)}{q:Nat→Nat}
 (TA:Tree (alt Z.Q Z.βA) KA gA wA) (TB:Tree (alt Z.Q Z.βB) KB gB wB) (I:Inv2 Z 0 pA gA wA gA' pB gB wB gB' w' t) (C:dj Z.Q Z.k gA' gB' gs q t):Runs Z.Q (crowd gs w' sl) t (Done Z KA KB):=by
 refine(zQ hcl H TA gB wB TB 0 pA gA' pB gB' w' t .rr gs sl q I trivial C).bind fun m' t' h=> ?_
 obtain⟨st,gs2,sl2,q2,n,pA2,gA2,wA2,gA2',pB2,gB2,wB2,gB2',w2',rfl,I2,hst,C2,h0,TA2,hKB⟩:=h;have hn:n=Z.TA.size:=by
  obtain⟨b,s,hO,hb⟩:=I2.cB;obtain⟨_,F,s3,hF,hsz,_⟩:=H.sB gB2 wB2 hKB;have:=hF.symm.trans hO.1;simp only[Option.some.injEq,Obj.chan.injEq]at this;rw[← hsz,this.2.1,hb]
 subst hn;exact HH hcl H HB TA2 pA2 gA2' pB2 gB2 wB2 gB2' w2' t' st gs2 sl2 q2 I2 hst C2 h0 hKB
end
end
section
open Go.Conc
variable[aJ]
structure bj(h0:Array Obj)(w w':By):Prop where
 size:w'.heap.size=w.heap.size
 tape:w'.tape=w.tape
 drawn:w'.drawn=w.drawn
 os:w'.os=w.os
 output:w'.output=w.output
 blk:∀i:Nat,w.heap[i]?=w'.heap[i]?∨(w.heap[i]?=some (.coro none)∧((∃l,w'.heap[i]?=some (.loop l))∨∃d,w'.heap[i]?=some (.deferred d)))
 keep:∀i:Nat,w.heap[i]?=some (.coro none)→w'.heap[i]?=h0[i]?
section
variable{P:If}{w w' w1:By}{h0:Array Obj}
theorem bj.af(h:bj h0 w w')(τ:Nat→PV→Nat)(d:Nat):bj h0 (af w τ d) (af w' τ d):=⟨h.size,rfl,rfl,h.os,h.output,h.blk,h.keep⟩
theorem bj.cell(h:bj h0 w w')(a:Addr):w'.cell? a=w.cell? a:=by
 unfold World.cell?;rcases h.blk a.block with e|⟨e,⟨l,e'⟩|⟨l,e'⟩⟩
 ·rw[e]
 ·rw[e,e']
 ·rw[e,e']
theorem bj.shape(h:bj h0 w w')(r:Nat):w'.shape? r=w.shape? r:=by
 unfold World.shape?;rcases h.blk r with e|⟨e,⟨l,e'⟩|⟨l,e'⟩⟩
 ·rw[e]
 ·rw[e,e']
 ·rw[e,e']
theorem bj.frozen(h:bj h0 w w')(a:Addr):w'.frozen? a=w.frozen? a:=by
 unfold World.frozen?;rcases h.blk a.block with e|⟨e,⟨l,e'⟩|⟨l,e'⟩⟩
 ·rw[e]
 ·rw[e,e']
 ·rw[e,e']
theorem bj.noCell(h:bj h0 w w')(a:Addr)(s:String):w'.noCell a s=w.noCell a s:=by
 unfold World.noCell;rcases h.blk a.block with e|⟨e,⟨l,e'⟩|⟨l,e'⟩⟩
 ·rw[e]
 ·rw[e,e']
 ·rw[e,e']
theorem bj.seen(h:bj h0 w w')(x:Addr)(u:Qo)(a:Addr)(b:Bool):w'.seen P x u a b=w.seen P x u a b:=by
 unfold World.seen;rcases h.blk x.block with e|⟨e,⟨l,e'⟩|⟨l,e'⟩⟩
 ·rw[e]
 ·rw[e,e']
 ·rw[e,e']
theorem bj.load(h:bj h0 w w')(a:Addr)(b:Bool):w'.farLoad P a b=w.farLoad P a b:=by
 unfold World.farLoad;rw[h.noCell];have hv:∀x u,w'.viewLoad P x u a b=w.viewLoad P x u a b:=fun x u=>by unfold World.viewLoad;rw[h.seen]
 rcases h.blk a.block with e|⟨e,⟨l,e'⟩|⟨l,e'⟩⟩
 ·rw[e];simp only[hv]
 ·rw[e,e']
 ·rw[e,e']
theorem bj.set(h:bj h0 w w')(r:Nat)(o:Obj)(ho:pm o):bj h0 {w with heap:=w.heap.setIfInBounds r o} {w' with heap:=w'.heap.setIfInBounds r o}:=by
 refine⟨by simp[h.size],h.tape,h.drawn,h.os,h.output,fun i=> ?_,fun i h1=> ?_⟩
 ·dsimp only;by_cases hi:r=i
  ·subst hi;rw[Q7,Q7,h.size,if_pos rfl,if_pos rfl];exact .inl rfl
  ·rw[AS hi,AS hi];exact h.blk i
 ·dsimp only at h1 ⊢;by_cases hi:r=i
  ·subst hi;rw[Q7,if_pos rfl]at h1;split at h1
   ·cases h1;exact ho.elim
   ·cases h1
  ·rw[AS hi]at h1 ⊢;exact h.keep i h1
theorem bj.push(h:bj h0 w w')(o:Obj)(ho:pm o):bj h0 {w with heap:=w.heap.push o} {w' with heap:=w'.heap.push o}:=by
 refine⟨by simp[h.size],h.tape,h.drawn,h.os,h.output,fun i=> ?_,fun i h1=> ?_⟩
 ·dsimp only;rw[Qb,Qb,h.size];split
  ·exact .inl rfl
  ·exact h.blk i
 ·dsimp only at h1 ⊢;rw[Qb]at h1 ⊢;rw[h.size];split at h1
  ·cases h1;exact ho.elim
  ·rename_i hne;rw[if_neg hne];exact h.keep i h1
theorem bj.modify(h:bj h0 w w')(r:Nat)(f:Obj→Obj)(h1:f (.coro none)= .coro none)(h2:∀l,f (.loop l)= .loop l)(h3:∀d,f (.deferred d)= .deferred d)(h4:∀o,f o= .coro none→o= .coro none):bj h0 {w with heap:=w.heap.modify r f} {w' with heap:=w'.heap.modify r f}:=by
 refine⟨by simp[h.size],h.tape,h.drawn,h.os,h.output,fun i=> ?_,fun i h5=> ?_⟩
 ·dsimp only;rw[Ql,Ql];split
  ·rcases h.blk i with e|⟨e,⟨l,e'⟩|⟨l,e'⟩⟩
   ·rw[e];exact .inl rfl
   ·rw[e,e'];exact .inr ⟨by simp[h1],.inl ⟨l,by simp[h2]⟩⟩
   ·rw[e,e'];exact .inr ⟨by simp[h1],.inr ⟨l,by simp[h3]⟩⟩
  ·exact h.blk i
 ·dsimp only at h5 ⊢;rw[Ql]at h5 ⊢;split at h5
  ·rename_i h6;obtain⟨o,ho,he⟩:=PE.1 h5;have:=h4 o he;subst this;have hk:=h.keep i ho;rw[if_pos h6];rcases h.blk i with e|⟨e,⟨l,e'⟩|⟨l,e'⟩⟩
   ·rw[← e,ho]at hk ⊢;rw[← hk];simp[h1]
   ·rw[← hk,e'];simp[h2]
   ·rw[← hk,e'];simp[h3]
  ·rename_i h6;rw[if_neg h6];exact h.keep i h5
theorem bj.setCell(h:bj h0 w w')(a:Addr)(v:PG):bj h0 (w.setCell a v) (w'.setCell a v):=h.modify _ _ rfl (fun _=>rfl) (fun _=>rfl) fun o ho=>by cases o<;>first |rfl|(exact ho)|(cases ho)
theorem bj.freeze(h:bj h0 w w')(a:Addr)(n:Nat):bj h0 (w.freeze a n) (w'.freeze a n):=by
 unfold World.freeze;split
 ·exact h
 ·exact h.modify _ _ rfl (fun _=>rfl) (fun _=>rfl) fun o ho=>by cases o<;>first |rfl|(exact ho)|(cases ho)
theorem bj.LB(h:bj h0 w w')(a:Addr)(v:PG)(b:Bool){x:Halt}(e:w.farStore P a v b= .error x):w'.farStore P a v b= .error x:=by
 unfold Qx at e ⊢;rw[h.noCell];have hv:∀x u y,w.viewStore P x u a v b= .error y→w'.viewStore P x u a v b= .error y:=fun x u y e=>by
  unfold QL at e ⊢;rw[h.seen];simp only[bind,Except.bind,pure,Except.pure]at e ⊢;by_cases ht:tight P P.depth u=true
  ·simp only[ht,QC,PR,if_false]at e ⊢;cases hs:w.seen P x u a b with
   |error z=>rw[hs]at e;exact e
   |ok z=>
    rw[hs]at e;obtain⟨c,e2,fz,first,like,cells⟩:=z;dsimp only at e ⊢;cases hb:v.bytes? with
    |none=>rw[hb]at e;exact e
    |some bytes=>
     rw[hb]at e;dsimp only at e ⊢;split at e
     ·rename_i hc;rw[if_pos hc];exact e
     ·rename_i hc;rw[if_neg hc];split at e
      ·exact e
      ·cases e
  ·simp only[ht]at e ⊢;exact e
 rcases h.blk a.block with e1|⟨e1,⟨l,e'⟩|⟨l,e'⟩⟩
 ·rw[← e1];split at e
  ·split at e
   ·cases e
   ·rename_i h1;rw[hv _ _ _ h1];exact e
  ·exact e
 ·rw[e1]at e;rw[e'];exact e
 ·rw[e1]at e;rw[e'];exact e
theorem bj.LA(h:bj h0 w w')(a:Addr)(v:PG)(b:Bool){l:List Addr}(e:w.farStore P a v b= .ok (w1,l)):∃w1',w'.farStore P a v b= .ok (w1',l)∧bj h0 w1 w1':=by
 unfold Qx at e ⊢;have hv:∀x u y,w.viewStore P x u a v b= .ok y→∃y',w'.viewStore P x u a v b= .ok (y',y.2)∧bj h0 y.1 y':=fun x u y e=>by
  unfold QL at e ⊢;rw[h.seen];simp only[bind,Except.bind,pure,Except.pure]at e ⊢;by_cases ht:tight P P.depth u=true
  ·simp only[ht,QC,PR,if_false]at e ⊢;cases hs:w.seen P x u a b with
   |error z=>rw[hs]at e;cases e
   |ok z=>
    rw[hs]at e;obtain⟨c,e2,fz,first,like,cells⟩:=z;dsimp only at e ⊢;cases hb:v.bytes? with
    |none=>rw[hb]at e;cases e
    |some bytes=>
     rw[hb]at e;dsimp only at e ⊢;split at e
     ·cases e
     ·rename_i hc;rw[if_neg hc];split at e
      ·cases e
      ·cases e;exact⟨_,rfl,h.set _ _ trivial⟩
  ·simp only[ht]at e;cases e
 rcases h.blk a.block with e1|⟨e1,⟨l2,e'⟩|⟨l2,e'⟩⟩
 ·rw[← e1];split at e
  ·split at e
   ·rename_i h1;obtain⟨y',k1,k2⟩:=hv _ _ _ h1;rw[k1];cases e;exact⟨_,rfl,k2⟩
   ·cases e
  ·cases e
 ·rw[e1]at e;cases e
 ·rw[e1]at e;cases e
theorem Li{α:Type}(x:Ask α):∀{w w':By},bj h0 w w'→(w'.ask x).1=(w.ask x).1∧bj h0 (w.ask x).2 (w'.ask x).2:=by
 induction x with
 |done a=>exact fun h=>⟨rfl,h⟩
 |ask what range k ih=>
  intro w w' h;by_cases hf:(Question.extern what range).forced=true
  ·rw[xl _ _ _ _ hf,xl _ _ _ _ hf];exact ih _ h
  ·rw[AP _ _ _ _ hf,AP _ _ _ _ hf,h.tape,h.drawn];exact ih _ (h.af _ _)
theorem Kd(c:Sys)(h:bj h0 w w'):(w'.sys c).1=(w.sys c).1∧bj h0 (w.sys c).2 (w'.sys c).2:=by
 unfold World.sys;rw[h.os];obtain⟨h1,h2⟩:=Li (Qy c w.os) h;generalize w.ask (Qy c w.os)=x at h1 h2 ⊢;generalize w'.ask (Qy c w.os)=x' at h1 h2 ⊢;obtain⟨⟨r,os⟩,u⟩:=x;obtain⟨⟨r',os'⟩,u'⟩:=x';cases h1;cases r<;>first |exact⟨rfl,h⟩|exact⟨rfl,h2.size,h2.tape,h2.drawn,rfl,h2.output,h2.blk,h2.keep⟩
def oe{α:Type}(r:Except Halt α)(u:By):Result α:=match r with
 | .ok a=>.ok a u
 | .error h=>.halt h u
theorem ul{α:Type}{dy mk:Bool}{s:Sem α}(hs:ct P dy mk s):∀(w w':By)(es:Array PD),am w→bj h0 w w'→(dy=true∧∃h u e,s.runT P w es=(.halt h u,e)∧Dead h)∨∃r u u' e,s.runT P w es=(oe r u,e)∧s.runT P w' es=(oe r u',e)∧bj h0 u u':=by
 induction s with
 |pure a=>exact fun w w' es _ h=>.inr ⟨.ok a,w,w',es,rfl,rfl,h⟩
 |halt x=>exact fun w w' es _ h=>.inr ⟨.error x,w,w',es,rfl,rfl,h⟩
 |load m a k ih=>
  intro w w' es hw h;simp only[PM,h.cell,h.load];cases w.cell? a with
  |some v=>exact ih _ (hs _) _ _ _ hw h
  |none=>
   dsimp only;cases w.farLoad P a (m== .atomic)with
   |ok r=>exact ih _ (hs _) _ _ _ hw h
   |error e=>exact .inr ⟨.error e,w,w',_,rfl,rfl,h⟩
 |store m a v k ih=>
  intro w w' es hw h;have e0:v.oneCell'=true→∀u:By,(Sem.store m a v k).runT P u es=(match u.cell? a with
   |some _=>if u.frozen? a then(.halt (.unsupported (.unsafePointer "a write to bytes that a string shares")) u,es)else k.runT P (u.setCell a v) (es.push ⟨.cell a,true,m== .atomic⟩)
   |none=>match u.farStore P a v (m== .atomic)with
    | .ok (u,touched)=>k.runT P u (es++touched.toArray.map (⟨.cell ·,true,m== .atomic⟩))
    | .error h=>(.halt h u,es)):=fun hv u=>by
   cases v<;>first |rfl|(exact absurd hv (by decide))|(simp[Value.oneCell']at hv)
  by_cases hv:v.oneCell'=true
  ·rw[e0 hv,e0 hv,h.cell,h.frozen];cases hc:w.cell? a with
   |some o=>
    dsimp only;split
    ·exact .inr ⟨.error _,w,w',_,rfl,rfl,h⟩
    ·exact ih hs _ _ _ (ik hw _ _) (h.setCell a v)
   |none=>
    dsimp only;cases hf:w.farStore P a v (m== .atomic)with
    |ok r=>
     obtain⟨w1,l⟩:=r;obtain⟨w1',k1,k2⟩:=h.LA a v _ hf;rw[k1];exact ih hs _ _ _ (gF hw hf) k2
    |error e=>
     rw[h.LB a v _ hf];exact .inr ⟨.error e,w,w',_,rfl,rfl,h⟩
  ·have e1:∀u:By,(Sem.store m a v k).runT P u es=(.halt (.stuck "store: not the value of one cell") u,es):=fun u=>by
    cases v<;>first |rfl|(exact absurd rfl hv)
   rw[e1,e1];exact .inr ⟨.error _,w,w',es,rfl,rfl,h⟩
 |new o k ih=>
  intro w w' es hw h;simp only[PM,h.size];exact ih _ (hs.2 _) _ _ _ (jV hw hs.1) (h.push o hs.1)
 |shape r k ih=>
  intro w w' es hw h;simp only[PM,h.shape];exact ih _ (hs _) _ _ _ hw h
 |freeze a n k ih=>exact fun w w' es hw h=>ih hs _ _ _ (iW hw _ _) (h.freeze a n)
 |frozen a k ih=>
  intro w w' es hw h;simp only[PM,h.frozen];exact ih _ (hs _) _ _ _ hw h
 |getObj r k ih=>
  intro w w' es hw h;rcases h.blk r with e|⟨e,e'⟩
  ·cases ho:w.heap[r]? with
   |none=>
    simp only[PM,← e,ho];exact .inr ⟨.error _,w,w',es,rfl,rfl,h⟩
   |some o=>
    have hk:=hs.1 o (hw _ _ ho).i;simp only[PM,← e,ho];cases o;case cells c t f=>exact .inr ⟨.error _,w,w',es,rfl,rfl,h⟩
    all_goals exact ih _ hk _ _ _ hw h
  ·have key:∀o:Obj,w'.heap[r]?=some o→o.isChan=false→k o=k (.coro none)→(∀c t f,o≠.cells c t f)→(dy=true∧∃h u e,(Qm r k).runT P w es=(.halt h u,e)∧Dead h)∨∃x u u' e,(Qm r k).runT P w es=(oe x u,e)∧(Qm r k).runT P w' es=(oe x u',e)∧bj h0 u u':=fun o ho hc h3 hnc=>by
    have h1:(Qm r k).runT P w es=(k (.coro none)).runT P w (es.push ⟨.obj r,false,false⟩):=by simp only[PM,e];rfl
    have h2:(Qm r k).runT P w' es=(k (.coro none)).runT P w' (es.push ⟨.obj r,false,false⟩):=by
     rw[← h3,← hc];simp only[PM,ho];cases o<;>first |rfl|exact absurd rfl (hnc _ _ _)|cases hc
    rw[h1,h2];exact ih _ (hs.1 _ (.inr (.inr ⟨_,rfl⟩))) _ _ _ hw h
   rcases hs.2 with⟨hy,x,hx,hd⟩|⟨hl,hd⟩
   ·refine .inl ⟨hy,x,w,es.push ⟨.obj r,false,false⟩,?_,hd⟩;have h1:(Qm r k).runT P w es=(k (.coro none)).runT P w (es.push ⟨.obj r,false,false⟩):=by simp only[PM,e];rfl
    rw[h1,hx];rfl
   ·rcases e' with⟨l,e'⟩|⟨d,e'⟩
    ·exact key _ e' rfl (hl l) (fun _ _ _ h=>by cases h)
    ·exact key _ e' rfl (hd d) (fun _ _ _ h=>by cases h)
 |setObj r o k ih=>
  intro w w' es hw h;have hgo:(∃o1,w.heap[r]?=some o1∧∀c t f,o1≠.cells c t f)→(∃o1,w'.heap[r]?=some o1∧∀c t f,o1≠.cells c t f)→(dy=true∧∃h u e,(QB r o k).runT P w es=(.halt h u,e)∧Dead h)∨∃x u u' e,(QB r o k).runT P w es=(oe x u,e)∧(QB r o k).runT P w' es=(oe x u',e)∧bj h0 u u':=fun⟨o1,h1,n1⟩ ⟨o2,h2,n2⟩=>by
   have e0:∀(u:By)(o1:Obj),u.heap[r]?=some o1→(∀c t f,o1≠.cells c t f)→(QB r o k).runT P u es=k.runT P {u with heap:=u.heap.setIfInBounds r o} (es.push ⟨.obj r,true,o.isChan⟩):=fun u o1 hu hn=>by
    simp only[PM,hu];try(cases o1<;>first |rfl|exact absurd rfl (hn _ _ _))
   rw[e0 w o1 h1 n1,e0 w' o2 h2 n2];exact ih hs.2 _ _ _ (eH hw hs.1) (h.set r o hs.1)
  rcases h.blk r with e|⟨e,e'⟩
  ·cases ho:w.heap[r]? with
   |none=>
    simp only[PM,← e,ho];exact .inr ⟨.error _,w,w',es,rfl,rfl,h⟩
   |some o1=>
    by_cases hc:∃c t f,o1= .cells c t f
    ·obtain⟨c,t,f,rfl⟩:=hc;simp only[PM,← e,ho];exact .inr ⟨.error _,w,w',es,rfl,rfl,h⟩
    ·have hn:∀c t f,o1≠.cells c t f:=fun c t f h=>hc ⟨c,t,f,h⟩
     exact hgo ⟨o1,ho,hn⟩ ⟨o1,e▸ho,hn⟩
  ·rcases e' with⟨l,e'⟩|⟨d,e'⟩
   ·exact hgo ⟨_,e,fun _ _ _ h=>(by cases h)⟩ ⟨_,e',fun _ _ _ h=>(by cases h)⟩
   ·exact hgo ⟨_,e,fun _ _ _ h=>(by cases h)⟩ ⟨_,e',fun _ _ _ h=>(by cases h)⟩
 |choose q k ih=>
  intro w w' es hw h;have ht:=h.tape;have hd:=h.drawn;simp only[PM,ht,hd];split
  ·exact ih _ (hs _) _ _ _ hw h
  ·exact ih _ (hs _) {w with drawn:=w.drawn+1} {w' with tape:=w.tape,drawn:=w.drawn+1} _ hw ⟨h.size,rfl,rfl,h.os,h.output,h.blk,h.keep⟩
 |sys c k ih=>
  intro w w' es hw h;obtain⟨h1,h2⟩:=Kd c h;simp only[PM,h1];exact ih _ (hs.2 _) _ _ _ (lf hw c) h2
 |program k ih=>exact fun w w' es hw h=>ih _ hs _ _ _ hw h
 |mark m k ih=>exact fun w w' es hw h=>ih hs.2 _ _ _ hw h
end
end
section
open Go.Conc
variable[aJ]
def g6(h0:Array Obj)(Q:If)(β:Nat→Option Code)(x x':GStep):Prop:=
 (∀g1 w1 es,x= .go g1 w1 es→g1.status= .running→pU Q β g1∨∃w1',x'= .go g1 w1' es∧bj h0 w1 w1')∧(Big x.es→Big x'.es)
def j9(x:GStep):Prop:=(∀g1 w1 es,x= .go g1 w1 es→g1.status= .running→False)∧¬ Big x.es
section
variable{Q:If}{β:Nat→Option Code}{x x':GStep}{w w' u u':By}{h0:Array Obj}
theorem bc(h:bj h0 u u'){g:AI}{es:Array PD}:g6 h0 Q β (.go g u es) (.go g u' es):=⟨fun g1 w1 es1 e _=>by
 cases e;exact .inr ⟨u',rfl,h⟩,id⟩
theorem nn(h:bj h0 u u')(f:Q2)(args:Array PG)(k:CallKind)(cs:List IN){dy:Option Dying}(hdy:∀d,dy=some d→d.calling=true)(es:Array PD):g6 h0 Q β (.go {frame:=Qq (alt Q β) f args k,callers:=cs,status:=.running,dying:=dy} u es) (.go {frame:=Qq Q f args k,callers:=cs,status:=.running,dying:=dy} u' es):=by
 refine⟨fun g1 w1 es1 e _=> ?_,id⟩;cases e;have hn:=Ek (Q:=Q) (β:=β) f args k cs dy u es hdy;rcases hn with e|⟨g,w,es2,e,hf,_⟩
 ·have e2:(GStep.go {frame:=Qq Q f args k,callers:=cs,status:=.running,dying:=dy} u' es)= .go {frame:=Qq (alt Q β) f args k,callers:=cs,status:=.running,dying:=dy} u' es:=by
   simp only[GStep.go.injEq,Goroutine.mk.injEq]at e;rw[e.1.1]
  exact .inr ⟨u',e2,h⟩
 ·cases e;exact .inl hf
theorem eY(h:∀g u es,x≠.go g u es)(hb:x.es=#[]):j9 x:=⟨fun g1 w1 es e _=>absurd e (h _ _ _),by rw[hb];exact av⟩
theorem oy{g:AI}(h:g.status≠.running):j9 (.go g u):=⟨fun g1 w1 es1 e h1=>by
 cases e;exact h h1,av⟩
theorem dn{E:Array PD}(hE:¬ Big E)(h:j9 x):j9 (IS E x):=by
 refine⟨?_,bg hE h.2⟩;intro g1 w1 es e h1;cases x<;>simp only[IS]at e<;>try(cases e;done)
 simp only[GStep.go.injEq]at e;obtain⟨rfl,rfl,rfl⟩:=e;exact h.1 _ _ _ rfl h1
theorem j9.pat(h:j9 x):g6 h0 Q β x x':=⟨fun g1 w1 es e h1=>(h.1 _ _ _ e h1).elim,fun hb=>absurd hb h.2⟩
theorem aY(h:∀g u es,x≠.go g u es)(hb:x.es=#[]):g6 h0 Q β x x':=(eY h hb).pat
theorem o9{g:AI}(h:g.status≠.running):g6 h0 Q β (.go g u) x':=(oy h).pat
theorem bR{E:Array PD}(h:g6 h0 Q β x x'):g6 h0 Q β (IS E x) (IS E x'):=by
 refine⟨?_,fun hb=> ?_⟩
 ·intro g1 w1 es e h1;cases x<;>simp only[IS]at e<;>try(cases e;done)
  simp only[GStep.go.injEq]at e;obtain⟨rfl,rfl,rfl⟩:=e;rcases h.1 _ _ _ rfl h1 with hf|⟨w1',rfl,hp⟩
  ·exact .inl hf
  ·exact .inr ⟨w1',rfl,hp⟩
 ·exact hb
theorem iH{c:Prop}[Decidable c]{A B A' B':GStep}(ha:g6 h0 Q β A A')(hb:g6 h0 Q β B B'):g6 h0 Q β (if c then A else B) (if c then A' else B'):=by
 split
 ·exact ha
 ·exact hb
theorem Jm{c:Prop}[Decidable c]{A B:GStep}(ha:j9 A)(hb:j9 B):j9 (if c then A else B):=by
 split
 ·exact ha
 ·exact hb
theorem i9{P:If}{α:Type}{s:Sem α}(hs:Sep P s)(hw:am w)(h:bj h0 w w'):(∃x u e,s.runT P w #[]=(.halt x u,e)∧Dead x∧¬ Big e)∨∃r u u' e,s.runT P w #[]=(oe r u,e)∧s.runT P w' #[]=(oe r u',e)∧bj h0 u u':=by
 rcases hs with hs|hs
 ·rcases ul hs w w' #[] hw h with⟨_,x,u,e,h1,h2⟩|h1
  ·have:=vi hs w #[] hw av;rw[h1]at this;exact .inl ⟨x,u,e,h1,h2,this⟩
  ·exact .inr h1
 ·rcases ul hs w w' #[] hw h with⟨h0,_⟩|h1
  ·cases h0
  ·exact .inr h1
theorem kY{P:If}{α:Type}{s:Sem α}(h:bN P true false s):Sep P s:=.inl h.st
theorem uk{P:If}{α:Type}{s:Sem α}(hs:Sep P s)(hw:am w)(h:bj h0 w w'):(∃x u,s.run P w= .halt x u∧Dead x)∨∃r u u',s.run P w=oe r u∧s.run P w'=oe r u'∧bj h0 u u':=by
 rw[← QD P s w #[],← QD P s w' #[]];rcases i9 hs hw h with⟨x,u,e,e1,hd,hb⟩|⟨r,u,u',e,e1,e2,hp⟩
 ·exact .inl ⟨x,u,by rw[e1],hd⟩
 ·exact .inr ⟨r,u,u',by rw[e1],by rw[e2],hp⟩
theorem vw{fr:IN}{cs:List IN}{dy:Option Dying}{m:String}(hw:am u)(h:bj h0 u u'):g6 h0 Q β (endFatal (alt Q β) fr cs dy m u) (endFatal Q fr cs dy m u'):=by
 rw[← Au (β:=β) (w:=u')];unfold endFatal;dsimp only;have H:∀(shown:Sem (List (ByteArray×String)×List ByteArray)),bN (alt Q β) true false shown→g6 h0 Q β (match shown.run (alt Q β) u with
  | .ok (texts,tabs) w=>dieOf fr (panicPieces texts++tabs) m true w
  | .halt (.unsupported u) w=>.ended (.unsupported u "") w
  | .halt _ w=>.ended (.stuck "the report of a panic" "") w) (match shown.run (alt Q β) u' with
  | .ok (texts,tabs) w=>dieOf fr (panicPieces texts++tabs) m true w
  | .halt (.unsupported u) w=>.ended (.unsupported u "") w
  | .halt _ w=>.ended (.stuck "the report of a panic" "") w):=by
  intro s hs;rcases uk (kY hs) hw h with⟨x,u,e1,hd⟩|⟨r,u,u',e1,e2,hp⟩
  ·rw[e1];cases x<;>exact aY (fun _ _ _ h=>by cases h) rfl
  ·rw[e1,e2];cases r with
   |ok a=>exact bc hp
   |error x=>cases x<;>exact aY (fun _ _ _ h=>by cases h) rfl
 have hraw:∀vs:List (PG×String),bN (alt Q β) true false (vs.mapM fun(v,mark)=>match panicText (alt Q β) true v with
  | .text s=>pure (s,mark)
  | .address s=>do pure (← withAddress s,mark)
  |_=>(unsupported (.noEntry "a fatal error during a panic whose value the report cannot show"):Sem (ByteArray×String))):=by
  intro vs;refine @px _ _ _ _ _ _ _ (fun x=> ?_) _;dsimp only;split <;>exact zq2
 refine H _ ?_;split
 ·exact zq2
 ·refine @aS _ _ _ _ _ _ _ _ zq2 fun _=> ?_
  exact @aS _ _ _ _ _ _ _ _ (hraw _) fun _=>zq2
 ·exact @aS _ _ _ _ _ _ _ _ (hraw _) fun _=>zq2
 ·exact zq2
theorem wO{s:Sem Next}(hs:oE Q β s):∀(w w':By)(es:Array PD),am w→bj h0 w w'→¬ Big es→
 s.runT (alt Q β) w' es=s.runT Q w' es∨(∃f args u e,s.runT (alt Q β) w es=(.ok (.enter f args) u,e)∧(β f).isSome=true∧¬ Big e)∨∃x u e,s.runT (alt Q β) w es=(.halt x u,e)∧Dead x∧¬ Big e:=by
 induction hs with
 |sm h=>exact fun w w' es _ _ _=>.inl (iB h w' es)
 |foul hf h=>exact fun w w' es _ _ hb=>.inr (.inl ⟨_,_,w,es,h w es,hf,hb⟩)
 | @bind α s f hs hst hf ih=>
  intro w w' es hw hp hb;have h1:=ca (Jw hst:bN (alt Q β) true true s).st w es hw;have h2:=vi hst.st w es hw hb;simp only[aN];rw[← iB hs];rcases ul hst.st w w' es hw hp with⟨_,x,u,e,e1,hd⟩|⟨r,u,u',e,e1,e2,hp'⟩
  ·rw[e1]at h1 h2 ⊢;exact .inr (.inr ⟨x,u,e,rfl,hd,h2⟩)
  ·rw[e1]at h1 h2;rw[e1,e2];cases r with
   |ok a=>exact ih a u u' e h1 hp' h2
   |error x=>exact .inl rfl
 | @prog f e h ih=>
  intro w w' es hw hp hb;show(f (alt Q β)).runT (alt Q β) w' es=(f Q).runT Q w' es∨(∃f2 args u e,(f (alt Q β)).runT (alt Q β) w es=(.ok (.enter f2 args) u,e)∧(β f2).isSome=true∧¬ Big e)∨∃x u e,(f (alt Q β)).runT (alt Q β) w es=(.halt x u,e)∧Dead x∧¬ Big e;rw[e];exact ih w w' es hw hp hb
theorem yd{s:Sem Next}{fr:IN}{cs:List IN}{dy:Option Dying}{x:Halt}{u:By}{e:Array PD}(e1:s.runT (alt Q β) w #[]=(.halt x u,e))(hd:Dead x)(hb:¬ Big e):j9 (stepG.apply (alt Q β) true fr cs dy s w):=by
 unfold stepG.apply;simp only[if_true];rw[e1];have hE:∀E:Array PD,(∀z∈E,z∈e)→¬ Big (seen (alt Q β) fr.fn (if(fr.kind== .early)=true then #[]else E)):=fun E hE=>av
 have hn:∀z∈(#[]:Array PD),z∈e:=fun z hz=>by simp at hz
 cases x;case blocked=>exact dn (hE _ hn) (oy (by simp))
 case waiting=>exact dn (hE _ hn) (oy (by simp))
 case unsupported v=>
  cases v;case initOrder g=>exact hd.elim
  all_goals exact dn (hE _ fun z hz=>hz) (eY (fun _ _ _ h=>by cases h) rfl)
 case stuck m=>exact dn (hE _ fun z hz=>hz) (eY (fun _ _ _ h=>by cases h) rfl)
 all_goals exact hd.elim
theorem kH(T:ei (alt Q β)){s:Sem Next}(hs:Sep (alt Q β) s)(hst:St (alt Q β) s)(h1:oE Q β s){fr:IN}{cs:List IN}{dy:Option Dying}(hdy:∀d,dy=some d→d.calling=true)(hw:am w)(h:bj h0 w w'):g6 h0 Q β (stepG.apply (alt Q β) true fr cs dy s w) (stepG.apply Q true fr cs dy s w'):=by
 rcases i9 hs hw h with⟨x,u,e,e1,hd,hb⟩|⟨r,u,u',e,e1,e2,hp⟩
 ·exact(yd e1 hd hb).pat
 ·have hI:=pF hst.st w #[] hw;have hH:=ca hst.st w #[] hw;rw[e1]at hI hH;rcases wO h1 w w' #[] hw h av with hq|⟨f,args,u2,e3,hq,hf,hb⟩|⟨x,u2,e3,hq,hd,hb⟩
  rotate_left
  ·unfold stepG.apply;simp only[if_true];rw[hq];refine⟨fun g1 w1 es1 he _=> ?_,fun h=>h⟩;cases he;exact .inl ⟨f,args,_,rfl,hf,rfl,hdy⟩
  ·exact(yd hq hd hb).pat
  unfold stepG.apply;simp only[if_true];rw[← hq,e1,e2];simp only[ji];cases r with
  |ok n=>
   dsimp only[oe];refine bR ?_;cases n;case enter f args=>exact nn hp _ _ _ _ hdy _
   case recover=>
    dsimp only;have e0:(alt Q β).follows .rangeFuncRecover=Q.follows .rangeFuncRecover:=rfl;rw[e0];split
    ·exact bc hp
    ·exact bc hp
   case spawn d=>
    dsimp only;have e0:(alt Q β).follows .goNilFatal=Q.follows .goNilFatal:=rfl;rw[e0,zX];exact iH (bc hp) (aY (fun _ _ _ h=>by cases h) rfl)
   case callThen d a b c=>
    dsimp only;unfold Frame.ofExtern;rw[lV];split
    ·exact bc hp
    ·exact bc hp
   case row a b=>
    dsimp only;unfold QI;rw[lV];split
    ·exact bc hp
    ·exact bc hp
   case stack a b=>
    dsimp only;unfold QI;rw[lV];split
    ·exact bc hp
    ·exact bc hp
   all_goals first
    |exact bc hp
    |exact aY (fun _ _ _ h=>by cases h) rfl
  |error x=>
   dsimp only[oe];cases x;case unsupported v=>
    cases v;case initOrder g=>
     have hg:aJ.lim≤g:=hI _ _ _ rfl;dsimp only;rw[oq T hg];exact bR (aY (fun _ _ _ h=>by cases h) rfl)
    all_goals exact bR (aY (fun _ _ _ h=>by cases h) rfl)
   case fatal m=>exact bR (vw hH hp)
   case throw m=>exact bR (bc hp)
   all_goals
    refine bR ?_;first
     |exact bc hp
     |exact aY (fun _ _ _ h=>by cases h) rfl
theorem ot(T:Twin Q β)(hp:bj h0 u u'){main:Bool}{fr:IN}{cs:List IN}{v:PG}{dy:Option Dying}(hdy:∀d,dy=some d→d.calling=true):g6 h0 Q β (doReturn (alt Q β) main fr cs dy v u) (doReturn Q main fr cs dy v u'):=by
 unfold doReturn;simp only[A9 T];cases cs with
 |cons c cs=>
  dsimp only;split <;>exact bc hp
 |nil=>
  dsimp only;split
  ·exact bc hp
  ·exact aY (fun _ _ _ h=>by cases h) rfl
  ·refine iH (o9 (by simp)) ?_;have e0:(alt Q β).inits=Q.inits:=rfl;rw[e0];split
   ·exact nn hp _ _ _ _ (fun _ h=>by cases h) _
   ·exact aY (fun _ _ _ h=>by cases h) rfl
theorem mY{d:Qj}{fr:IN}{cs:List IN}{dy:Option Dying}{x:Halt}{u:By}{e:Array PD}(e1:(invoke d.target d.args).runT (alt Q β) w #[]=(.halt x u,e))(hd:Dead x)(hb:¬ Big e):j9 (PJ (alt Q β) fr cs dy d w):=by
 unfold PJ;refine Jm (eY (fun _ _ _ h=>by cases h) rfl) ?_;rw[e1];cases x;case blocked=>exact dn (aV av) (oy (by simp))
 case waiting=>exact dn (aV av) (oy (by simp))
 case unsupported v=>
  cases v;case initOrder g=>exact hd.elim
  all_goals exact dn (aV hb) (eY (fun _ _ _ h=>by cases h) rfl)
 case stuck m=>exact dn (aV hb) (eY (fun _ _ _ h=>by cases h) rfl)
 all_goals exact hd.elim
theorem uG(T:Twin Q β)(TM:ei (alt Q β)){d:Qj}{fr:IN}{cs:List IN}{dy:Option Dying}(hdy:∀d,dy=some d→d.calling=true)(hw:am w)(h:bj h0 w w'):g6 h0 Q β (PJ (alt Q β) fr cs dy d w) (PJ Q fr cs dy d w'):=by
 rcases i9 (kZ TM d.target d.args) hw h with⟨x,u,e,e1,hd,hb⟩|⟨r,u,u',e,e1,e2,hp⟩
 ·exact(mY e1 hd hb).pat
 ·have hH:=ca (eL TM d.target d.args).st w #[] hw;rw[e1]at hH;rcases wO (na (β:=β) T d.target d.args) w w' #[] hw h av with hq|⟨f,args,u2,e3,hq,hf,hb⟩|⟨x,u2,e3,hq,hd,hb⟩
  rotate_left
  ·unfold PJ;refine iH (aY (fun _ _ _ h=>by cases h) rfl) ?_;rw[hq];refine⟨fun g1 w1 es1 he _=> ?_,fun h=>h⟩;cases he;exact .inl ⟨f,args,_,rfl,hf,rfl,hdy⟩
  ·exact(mY hq hd hb).pat
  unfold PJ;refine iH (aY (fun _ _ _ h=>by cases h) rfl) ?_;rw[← hq,e1,e2];simp only[ji];cases r with
  |ok n=>
   dsimp only[oe];refine bR ?_;cases n;case enter f args=>exact nn hp _ _ _ _ hdy _
   case recover=>
    dsimp only;split
    ·exact bc hp
    ·exact bc hp
   case callThen d a b c=>dsimp only;unfold Frame.ofExtern;rw[lV];exact bc hp
   case row r a=>dsimp only;unfold QI;rw[lV];exact bc hp
   case coroswitch c e=>cases e<;>exact aY (fun _ _ _ h=>by cases h) rfl
   case alone b v=>cases b<;>exact aY (fun _ _ _ h=>by cases h) rfl
   all_goals first
    |exact bc hp
    |exact aY (fun _ _ _ h=>by cases h) rfl
  |error x=>
   dsimp only[oe];cases x;case fatal m=>exact bR (vw hH hp)
   case throw m=>exact bR (bc hp)
   all_goals
    refine bR ?_;first
     |exact bc hp
     |exact aY (fun _ _ _ h=>by cases h) rfl
theorem Dt(P:If){dy mk:Bool}(fn:Func)(tmps:Array PG):bN P dy mk (results fn tmps):=by
 unfold results;refine @aS _ _ _ _ _ _ _ _ (@sY _ _ _ _ _ _ _ (fun a=> ?_) _) fun _=>zq2
 split <;>exact zq2
theorem CQ(T:Twin Q β)(TM:ei (alt Q β)){main:Bool}{fr:IN}{cs:List IN}{dy:Option Dying}(hdy:∀d,dy=some d→d.calling=true)(hw:am w)(h:bj h0 w w'):g6 h0 Q β (unwind (alt Q β) main fr cs dy w) (unwind Q main fr cs dy w'):=by
 unfold unwind;cases hd:fr.defers with
 |cons x ds=>
  obtain⟨tg,ar⟩:=x;cases tg with
  |collected b=>
   dsimp only;rw[← iB (zq2:Sm Q (aw β) (Qf b))];rcases i9 (kY (zq2:bN (alt Q β) true false (Qf b))) hw h with⟨x,u,e,e1,hd,hb⟩|⟨r,u,u',e,e1,e2,hp⟩
   ·refine j9.pat ?_;rw[e1];exact dn (aV hb) (eY (fun _ _ _ h=>by cases h) rfl)
   ·rw[e1,e2];simp only[ji];cases r with
    |ok n=>exact bR (bc hp)
    |error x=>exact bR (aY (fun _ _ _ h=>by cases h) rfl)
  |_=>exact uG T TM hdy hw h
 |nil=>
  dsimp only;cases fr.mode with
  |run=>exact aY (fun _ _ _ h=>by cases h) rfl
  |panicking chain=>
   dsimp only;rw[Cc];refine iH (aY (fun _ _ _ h=>by cases h) rfl) ?_;cases cs with
   |cons c cs=>exact bc h
   |nil=>
    dsimp only;cases dy with
    |none=>
     dsimp only;refine iH (o9 (by simp)) ?_;have e0:isRuntimeError (alt Q β)=isRuntimeError Q:=rfl;rw[← kC (zq2:Sm Q (aw β) (reportChain chain false)) w'];rcases uk (kY (zq2:bN (alt Q β) true false (reportChain chain false))) hw h with⟨x,u,e1,hd⟩|⟨r,u,u',e1,e2,hp⟩
     ·rw[e1];cases x<;>exact aY (fun _ _ _ h=>by cases h) rfl
     ·rw[e1,e2];cases r with
      |ok a=>exact bc hp
      |error x=>cases x<;>exact aY (fun _ _ _ h=>by cases h) rfl
    |some d=>
     dsimp only;split
     ·unfold endPrinting;dsimp only;have e0:(alt Q β).info?=Q.info?:=rfl;have e1:(alt Q β).rt=Q.rt:=rfl;rw[e0,e1];split
      ·exact bc h
      ·exact aY (fun _ _ _ h=>by cases h) rfl
     ·exact aY (fun _ _ _ h=>by cases h) rfl
  |returning=>
   dsimp only;rw[j6];cases Q.funcs[fr.fn]? with
   |none=>exact ot T h hdy
   |some fn=>
    dsimp only[PO];have hr:results (aw β fr.fn fn) fr.tmps=results fn fr.tmps:=by
     unfold results;rw[lI]
    rw[hr];have h1:Sm Q (aw β) (results fn fr.tmps):=by
     unfold results;refine @gZ _ _ _ _ _ _ (@Ci _ _ _ _ _ (fun _=> ?_) _) fun _=>zq2
     split <;>first |exact zq2|exact @gZ _ _ _ _ _ _ zq2 fun _=>zq2
    rw[← iB (β:=β) h1 w' #[]];rcases i9 (kY (Dt (alt Q β) fn fr.tmps)) hw h with⟨x,u,e,e1,hd,hb⟩|⟨r,u,u',e,e1,e2,hp⟩
    ·refine j9.pat ?_;rw[e1];cases x<;>exact dn (aV hb) (eY (fun _ _ _ h=>by cases h) rfl)
    ·rw[e1,e2];simp only[ji];cases r with
     |ok n=>exact bR (ot T hp hdy)
     |error x=>cases x<;>exact bR (aY (fun _ _ _ h=>by cases h) rfl)
end
end
section
open Go.Conc
open Go.ConcN (sumTo upd sumTo_upd upd_ne upd_same)
variable[aJ]
section
variable{Q:If}{β:Nat→Option Code}{x x':GStep}{w w' u u':By}{h0:Array Obj}
theorem Ik(T:Twin Q β)(TM:ei (alt Q β)){fr:IN}{cs:List IN}{dy:Option Dying}(hdy:∀d,dy=some d→d.calling=true)(hw:am w)(h:bj h0 w w'):g6 h0 Q β (stepG.oper (alt Q β) true fr cs dy w) (stepG.oper Q true fr cs dy w'):=by
 unfold stepG.oper;split
 ·exact aY (fun _ _ _ h=>by cases h) rfl
 ·rename_i o ho;split
  ·rename_i l c h1 h2;have h3:∀d,oG d→bN (alt Q β) true false (Instr.deferInRound l d):=fun d hd=>kz _ l d hd
   refine kH TM (.inl ?_) (ec _ _ _ _) (eD zq2) hdy hw h;unfold resolve;dsimp only;cases c.callee with
   |builtin b=>exact(@aS _ _ _ _ _ _ _ _ (h3 _ (by exact trivial)) fun _=>zq2).st
   |invoke r n=>exact(@aS _ _ _ _ _ _ _ _ (h3 _ (by exact trivial)) fun _=>zq2).st
   |value f=>
    dsimp only;unfold Deferred.ofValue;cases fr.eval f;case func fn a b=>exact(@aS _ _ _ _ _ _ _ _ (h3 _ (by exact trivial)) fun _=>zq2).st
    case nilFunc=>exact(@aS _ _ _ _ _ _ _ _ (h3 _ (by exact trivial)) fun _=>zq2).st
    all_goals trivial
  ·exact kH TM (Dj TM _ _) (gq TM _ _) (D1 T _ _) hdy hw h
theorem oT(T:Twin Q β){main:Bool}{fr:IN}{cs:List IN}{dy:Option Dying}(hdy:∀d,dy=some d→d.calling=true)(hw:am w)(h:bj h0 w w')(l:Nat)(j:Option Code)(hj:∀c,j=some c→cW c=true):g6 h0 Q β (IS (seen (alt Q β) fr.fn ((PN l j).runT (alt Q β) w #[]).2) (match((PN l j).runT (alt Q β) w #[]).1 with
 | .ok v w=>doReturn (alt Q β) main fr cs dy v w
 | .halt _ w=>.ended (.stuck "range over a function: no such loop" (fr.pos (alt Q β))) w))
 (IS (seen Q fr.fn ((PN l j).runT Q w' #[]).2) (match((PN l j).runT Q w' #[]).1 with
  | .ok v w=>doReturn Q main fr cs dy v w
  | .halt _ w=>.ended (.stuck "range over a function: no such loop" (fr.pos Q)) w)):=by
 rw[← iB (zq2:Sm Q (aw β) (PN l j)) w' #[]];have hsp:Sep (alt Q β) (PN l j):=.inl (jP (alt Q β) l j hj:bN (alt Q β) true false _).st;rcases i9 hsp hw h with⟨x,u,e,e1,hd,hb⟩|⟨r,u,u',e,e1,e2,hp⟩
 ·refine j9.pat ?_;rw[e1];exact dn (aV hb) (eY (fun _ _ _ h=>by cases h) rfl)
 ·rw[e1,e2];simp only[ji];cases r with
  |ok n=>exact bR (ot T hp hdy)
  |error x=>exact bR (aY (fun _ _ _ h=>by cases h) rfl)
theorem IY(T:Twin Q β)(TM:ei (alt Q β)){main:Bool}{fr:IN}{cs:List IN}{dy:Option Dying}(hdy:∀d,dy=some d→d.calling=true)(hw:am w)(h:bj h0 w w')(hf:dc fr):g6 h0 Q β (stepG.exec (alt Q β) main true fr cs dy w) (stepG.exec Q main true fr cs dy w'):=by
 unfold stepG.exec;dsimp only;cases ht:fr.todo with
 |nil=>
  dsimp only;cases fr.roundOf with
  |none=>exact bc h
  |some l=>exact oT T hdy hw h _ _ nofun
 |cons it rest=>
  cases it with
  |code c=>
   cases c with
   |ret=>
    dsimp only;cases fr.roundOf with
    |none=>exact bc h
    |some l=>exact oT T hdy hw h _ _ (fun c hc=>by cases hc;rfl)
   |exit id=>
    dsimp only;cases exitTo id rest with
    |some k=>exact bc h
    |none=>
     dsimp only[Qv];cases fr.roundOf with
     |none=>exact aY (fun _ _ _ h=>by cases h) rfl
     |some l=>exact oT T hdy hw h _ _ (fun c hc=>by cases hc;rfl)
   |goto id=>
    dsimp only;cases gotoIn id rest with
    |some k=>exact bc h
    |none=>
     dsimp only[Qv];cases fr.roundOf with
     |none=>exact aY (fun _ _ _ h=>by cases h) rfl
     |some l=>exact oT T hdy hw h _ _ (fun c hc=>by cases hc;rfl)
   |rangeFunc f params assign body=>
    dsimp only;have h3:cW assign=true∧cW body=true:=by
     have h0:=hf.1 (.code (.rangeFunc f params assign body)) (by rw[ht];exact PP ..);simpa[jz,cW]using h0
    have hst:=cT (mk:=false) (alt Q β) fr.fn fr.tmps params assign body fr.roundOf h3.1 h3.2;have hH:=ca (cT (mk:=true) (alt Q β) fr.fn fr.tmps params assign body fr.roundOf h3.1 h3.2).st w #[] hw;rw[← iB (zq2:Sm Q (aw β) (Qu fr.fn fr.tmps params assign body fr.roundOf)) w' #[]];rcases i9 (kY hst) hw h with⟨x,u,e,e1,hd,hb⟩|⟨r,u,u',e,e1,e2,hp⟩
    ·refine j9.pat ?_;rw[e1];exact dn (aV hb) (eY (fun _ _ _ h=>by cases h) rfl)
    ·rw[e1]at hH;rw[e1,e2];simp only[ji];cases r with
     |ok a=>
      obtain⟨l,mark⟩:=a;exact bR (kH TM (tQ TM _ _ _) (@aS _ _ _ _ _ _ _ _ zq2 fun d=>eL TM _ _) (nX zq2 zq2 fun d=>na T _ _) hdy hH hp)
     |error x=>exact bR (aY (fun _ _ _ h=>by cases h) rfl)
   |region id ops draw=>
    dsimp only;refine iH (bc h) ?_;have h1:(choose (.order fr.fn id)).run (alt Q β) w=((choose (.order fr.fn id)).runT (alt Q β) w #[]).1:=by rw[Qi]
    have h2:(choose (.order fr.fn id)).run Q w'=((choose (.order fr.fn id)).runT (alt Q β) w' #[]).1:=by rw[iB (zq2:Sm Q (aw β) (choose (.order fr.fn id))),Qi]
    have e0:(alt Q β).follows .mixedOrders=Q.follows .mixedOrders:=rfl;rw[h1,h2,e0];rcases i9 (kY (zq2:bN (alt Q β) true false (choose (.order fr.fn id)))) hw h with⟨x,u,e,e1,hd,hb⟩|⟨r,u,u',e,e1,e2,hp⟩
    ·rw[e1];exact aY (fun _ _ _ h=>by cases h) rfl
    ·rw[e1,e2];cases r with
     |ok a=>exact bc hp
     |error x=>exact aY (fun _ _ _ h=>by cases h) rfl
   |cond c a b=>
    dsimp only;split
    ·exact bc h
    ·exact aY (fun _ _ _ h=>by cases h) rfl
   |refuse why=>exact aY (fun _ _ _ h=>by cases h) rfl
   |_=>exact bc h
  |inRangeFunc id=>exact aY (fun _ _ _ h=>by cases h) rfl
  |beginRound=>
   cases hro:fr.roundOf with
   |none=>
    refine kH TM (.inl ?_) ?_ (eD ?_) hdy hw h
    ·trivial
    ·exact⟨trivial⟩
    ·exact @gZ _ _ _ _ _ _ (HA _ _ _) fun _=>zq2
   |some l=>
    refine kH TM (.inl ?_) ?_ (eD ?_) hdy hw h
    ·exact(@aS _ _ _ _ _ _ _ _ (dW (mk:=false) (alt Q β) l) fun _=>zq2).st
    ·exact @aS _ _ _ _ _ _ _ _ (dW _ l) fun _=>zq2
    ·exact @gZ _ _ _ _ _ _ (rz _ _ l) fun _=>zq2
  |call d a b c=>exact(hf.1 (.call d a b c) (by rw[ht];exact PP ..)).elim
  |extern row args=>
   have hrow:row=printRow:=hf.1 (.extern row args) (by rw[ht];exact PP ..);subst hrow;dsimp only;rw[l8];exact kH TM (.inl (ly (dy:=true) (mk:=false) (alt Q β) _ _ _).st) (ly (alt Q β) _ _ _) (eD (HC _ _ _ _ _)) hdy hw h
  |endRangeFunc l=>
   dsimp only;rw[← iB (zq2:Sm Q (aw β) (Qs l)) w' #[]];rcases i9 (kY (zq2:bN (alt Q β) true false (Qs l))) hw h with⟨x,u,e,e1,hd,hb⟩|⟨r,u,u',e,e1,e2,hp⟩
   ·refine j9.pat ?_;rw[e1];cases x<;>first |exact hd.elim|exact dn (aV hb) (eY (fun _ _ _ h=>by cases h) rfl)
   ·rw[e1,e2];simp only[ji];cases r with
    |ok a=>exact bR (bc hp)
    |error x=>cases x<;>first |exact bR (bc hp)|exact bR (aY (fun _ _ _ h=>by cases h) rfl)
  |inRegion ops todo=>
   cases todo with
   |nil=>exact bc h
   |cons i is=>
    dsimp only;exact iH (Ik T TM hdy hw h) (bc h)
  |inBlock id=>exact bc h
  |inScope id=>exact bc h
  |inLoop id=>exact bc h
theorem Bc{fr:IN}{d:Dying}{f:Fatal}(hw:am w)(h:bj h0 w w'):g6 h0 Q β (writeOn (alt Q β) fr d f w) (writeOn Q fr d f w'):=by
 rw[← Be (β:=β) fr d f w'];unfold writeOn;split
 ·exact aY (fun _ _ _ h=>by cases h) rfl
 ·rename_i piece rest _;dsimp only;have H:∀s:Sem Unit,bN (alt Q β) true false s→g6 h0 Q β (match s.runT (alt Q β) w #[]with
   |(.ok _ w,es)=>.go {frame:=fr,callers:=[],status:=.running,dying:=some {d with fatal:=some {f with pieces:=rest,begun:=true}}} w es
   |(.halt .blocked w,_)=>.go {frame:=fr,callers:=[],status:=.blocked,dying:=some {d with fatal:=some f}} w #[]
   |(.halt (.unsupported u) w,_)=>.ended (.unsupported u "") w
   |(.halt _ w,_)=>.ended (.stuck "the report of a fatal error" "") w) (match s.runT (alt Q β) w' #[]with
   |(.ok _ w,es)=>.go {frame:=fr,callers:=[],status:=.running,dying:=some {d with fatal:=some {f with pieces:=rest,begun:=true}}} w es
   |(.halt .blocked w,_)=>.go {frame:=fr,callers:=[],status:=.blocked,dying:=some {d with fatal:=some f}} w #[]
   |(.halt (.unsupported u) w,_)=>.ended (.unsupported u "") w
   |(.halt _ w,_)=>.ended (.stuck "the report of a fatal error" "") w):=by
   intro s hs;rcases i9 (kY hs) hw h with⟨x,u,e,e1,hd,hb⟩|⟨r,u,u',e,e1,e2,hp⟩
   ·rw[e1];cases x;case blocked=>exact o9 (by simp)
    all_goals exact aY (fun _ _ _ h=>by cases h) rfl
   ·rw[e1,e2];cases r with
    |ok a=>exact bc hp
    |error x=>
     cases x;case blocked=>exact o9 (by simp)
     all_goals exact aY (fun _ _ _ h=>by cases h) rfl
  refine H _ ?_;have h1:∀b:ByteArray,bN (alt Q β) true false (do
   match← sys (.write 2 b)with
   | .int n=>if n !=b.size then unsupported (.noEntry "a report that its descriptor cannot take whole")
   | .err _=>pure ()
   |_=>unsupported (.noEntry "a report that its descriptor cannot take whole"):Sem Unit):=by
   intro b;refine⟨⟨⟨_,rfl,trivial⟩,fun v=> ?_⟩⟩;cases v<;>first
    |trivial
    |(
     show ct (alt Q β) true false (if _ then _ else _);split <;>trivial)
  repeat' (first
   |exact zq2
   |exact h1 _
   |(refine @aS _ _ _ _ _ _ _ _ ?_ (fun _=> ?_))
   |(refine @kT _ _ _ _ _ _ _ _ _ ?_ ?_)
   |split
   |(intro _)
   |dsimp only)
theorem Em(w:By)(fd:Nat)(t:ByteArray)(o:Outcome):(∀g u es,endWith w fd t o≠.go g u es):=by
 intro g u es h;unfold endWith at h;dsimp only at h;repeat' split at h
 all_goals cases h
theorem La(T:Twin Q β)(TM:ei (alt Q β)){fr:IN}{d:Dying}(hw:am w)(h:bj h0 w w'):g6 h0 Q β (die (alt Q β) fr d w) (die Q fr d w'):=by
 unfold die;split
 ·exact Bc hw h
 ·split
  ·have e0:printLockHeld Q w'=printLockHeld (alt Q β) w:=by
    unfold printLockHeld;rw[h.cell];rfl
   rw[e0];exact iH (o9 (by simp)) (aY (Em _ _ _ _) (En _ _ _))
  ·rename_i v mark rest _;dsimp only;rw[rl];split
   ·exact bc h
   ·rename_i s _;rw[← kC (zq2:Sm Q (aw β) (withAddress s)) w'];rcases uk (kY (zq2:bN (alt Q β) true false (withAddress s))) hw h with⟨x,u,e1,hd⟩|⟨r,u,u',e1,e2,hp⟩
    ·rw[e1];exact aY (fun _ _ _ h=>by cases h) rfl
    ·rw[e1,e2];cases r with
     |ok a=>exact bc hp
     |error x=>exact aY (fun _ _ _ h=>by cases h) rfl
   ·rename_i t recv name _;rcases wO (na (β:=β) T (.fn (.method name) #[]) #[.iface t recv]) w w' #[] hw h av with hq|⟨f,args,u2,e3,hq,hf,hb⟩|⟨x,u2,e3,hq,hd,hb⟩
    rotate_left
    ·rw[hq];refine⟨fun g1 w1 es1 he _=> ?_,fun h=>h⟩;cases he;exact .inl ⟨f,args,_,rfl,hf,rfl,fun d' hd'=>by cases hd';rfl⟩
    ·refine j9.pat ?_;rw[hq];cases x;case panic v=>exact hd.elim
     all_goals exact dn (aV hb) (eY (fun _ _ _ h=>by cases h) rfl)
    rw[← hq];rcases i9 (kZ TM (.fn (.method name) #[]) #[.iface t recv]) hw h with⟨x,u,e,e1,hd,hb⟩|⟨r,u,u',e,e1,e2,hp⟩
    ·refine j9.pat ?_;rw[e1];cases x;case panic v=>exact hd.elim
     all_goals exact dn (aV hb) (eY (fun _ _ _ h=>by cases h) rfl)
    ·rw[e1,e2];simp only[ji];cases r with
     |ok n=>
      refine bR ?_;cases n;case enter f args=>exact nn hp _ _ _ _ (fun d' hd'=>by cases hd';rfl) _
      case value u=>cases u<;>first |exact bc hp|exact aY (fun _ _ _ h=>by cases h) rfl
      all_goals exact aY (fun _ _ _ h=>by cases h) rfl
     |error x=>
      refine bR ?_;cases x;case panic v=>
       dsimp only[oe];unfold endPrinting;dsimp only;have e0:(alt Q β).info?=Q.info?:=rfl;have e1:(alt Q β).rt=Q.rt:=rfl;rw[e0,e1];split
       ·exact bc hp
       ·exact aY (fun _ _ _ h=>by cases h) rfl
      all_goals exact aY (fun _ _ _ h=>by cases h) rfl
   ·exact aY (fun _ _ _ h=>by cases h) rfl
theorem F0(T:Twin Q β)(TM:ei (alt Q β))(main:Bool){g:AI}(hw:am w)(h:bj h0 w w')(hj:(∀d,g.dying=some d→d.calling=true)→dc g.frame):g6 h0 Q β (stepG (alt Q β) main g w) (stepG Q main g w'):=by
 obtain⟨fr,cs,st,dy,off⟩:=g;unfold stepG;dsimp only at hj ⊢;have key:(∀a b c e f i,dy=some ⟨a,b,false,c,e,f,i⟩→False)→∀d,dy=some d→d.calling=true:=fun hn d hd=>by
  subst hd;cases hc:d.calling with
  |true=>rfl
  |false=>
   obtain⟨a,b,c,e,f,i,j⟩:=d;dsimp only at hc;subst hc;exact(hn _ _ _ _ _ _ rfl).elim
 split
 ·exact La T TM hw h
 ·rename_i hn hm;exact IY T TM (key (fun a b c e f i hd=>hn _ _ _ _ _ _ hd)) hw h (hj (key (fun a b c e f i hd=>hn _ _ _ _ _ _ hd)))
 ·rename_i hn hm;exact CQ T TM (key (fun a b c e f i hd=>hn _ _ _ _ _ _ hd)) hw h
structure K7(h0:Array Obj)(Q:If)(g:AI)(w:By)(m:Machine)(t:Trace):Prop where
 is:∃gs sl q w',m=crowd gs w' sl∧bj h0 (af w w'.tape w'.drawn) w'∧gs[0]?=some g∧Leavers Q t gs q
 held:Held t
 hears:Deaf t 0=0
def Calm(es:Array PD):Prop:=∀e∈es,e.loc≠.mark .disable∧e.loc≠.mark .enable
theorem Calm.deaf{es:Array PD}(h:Calm es){t:Trace}{fn:Q2}{pos:String}:Deaf (t++IT 0 fn pos es) 0=Deaf t 0:=by
 rw[Deaf_own,deafBehind_still h]
def Mu(P:If):Prop:=∀g w g1 w1 es,Iv g w→stepG P true g w= .go g1 w1 es→g1.status= .running→PK 0 es=0
variable{K:AI→By→Prop}
theorem z8(T:Twin Q β)(TM:bw (alt Q β))(hβ:∀f c,β f=some c→∃why,c= .refuse why)(hnc:¬ aJ.cm)(hush:Mu (alt Q β))
 (hKr:∀g w,K g w→g.status= .running) (h9:∀g w,K g w→¬ pU Q β g) {g:AI} {w:By} (h:Tree (alt Q β) K g w):Iv g w→∀m t,K7 h0 Q g w m t→Runs Q m t fun m' t'=>∃g' w',K g' w'∧Iv g' w'∧K7 h0 Q g' w' m' t':=by
 induction h with
 |stop hK=>exact fun hI m t hF=>.here ⟨_,_,hK,hI,hF⟩
 | @step g w G W E hr hone h3 ih=>
  intro hI m t hF;obtain⟨⟨gs,sl,q,w',rfl,hp,k0,hL⟩,hH,hD⟩:=hF;have key:∀M gs sl q w' t,sumTo gs.size q=M→bj h0 (af w w'.tape w'.drawn) w'→gs[0]?=some g→Leavers Q t gs q→Held t→Deaf t 0=0→Runs Q (crowd gs w' sl) t fun m' t'=>∃g' w',K g' w'∧Iv g' w'∧K7 h0 Q g' w' m' t':=by
   intro M;induction M using Qc with
   |ind M ihM=>
   intro gs sl q w' t hM hp h0 hL hH hD;have haw:∀x∈gs,awake x:=by
    intro x hx;obtain⟨i,hi,rfl⟩:=Qk.1 hx;rcases Qe i with rfl|hpos
    ·have:gs[0]=g:=by simpa[No hi]using h0
     rw[this];exact awake_of (.inl hr)
    ·exact awake_of ((hL.old i _ hpos (No hi)).status.elim .inl fun x=>.inr (.inr x))
   obtain⟨i,x,d',sl',hi,hx,hst⟩:=crowd_pick (P:=Q) (w:=w') (sl:=sl) haw ⟨0,g,h0,hr⟩;have hat:w'.at d'=af w' w'.tape d':=rfl;rw[hat]at hst;have hp':bj _ (af w w'.tape d') (af w' w'.tape d'):=hp.af w'.tape d';rcases Qe i with rfl|hpos
   ·obtain rfl:x=g:=by rw[h0]at hi;exact(Option.some.inj hi).symm
    have hIv:Iv x (af w w'.tape d'):=fP hI _ _;have hpat:=F0 T TM.toei true hIv.1 hp' (vJ hI);by_cases hbig:Big (stepG (alt Q β) true x (af w w'.tape d')).es
    ·exact hbig.elim
    ·have ho:=hone w'.tape d' hbig;have htr:=h3 w'.tape d' hbig;cases ho with
     |comm hc _=>
      exfalso;rcases og TM hIv with⟨_,_,_,e,_⟩|⟨_,_,_,_,_,_,_,_,ha⟩|⟨_,_,_,e⟩
      ·rw[hc]at e;cases e
      ·exact hnc ha
      ·rw[hc]at e;cases e
     |go hg=>
      have hru:(G w'.tape d').status= .running:=by
       cases htr with
       |stop hK=>exact hKr _ _ hK
       |step _ _ _ h5 _ _=>exact h5
      rcases hpat.1 _ _ _ hg hru with hfoul|⟨w1',hd,h2⟩
      ·exfalso;cases htr with
       |stop hK=>exact h9 _ _ hK hfoul
       |step G2 W2 E2 h5 h4 htree2=>
        obtain⟨o,he⟩:=vS hβ hfoul (af (W w'.tape d') w'.tape 0);have hnb:¬ Big (stepG (alt Q β) true (G w'.tape d') (af (W w'.tape d') w'.tape 0)).es:=av;cases h4 w'.tape 0 hnb with
        |go hz=>rw[he]at hz;cases hz
        |comm hz _=>rw[he]at hz;cases hz
      ·have h1:=runT_crowd_go (P:=Q) (sl:=sl') (i:=0) h0 (show stepG Q (0==0) x (af w' w'.tape d')=_ from hd);have hlt:0<gs.size:=(AT.1 h0).1;have h7:bj _ (af (W w'.tape d') w1'.tape w1'.drawn) w1':=⟨h2.size,rfl,rfl,h2.os,h2.output,h2.blk,h2.keep⟩;refine Runs.step (hst.trans h1) (ih w'.tape d' hbig (nJ TM hIv (.go hg)) _ _ ⟨⟨_,sl',q,w1',rfl,h7,by simp[hlt],?_⟩,hH.own fun op hop=>by obtain⟨e,_,rfl⟩:=BY hop;rfl,by rw[Deaf_own,hD];exact hush _ _ _ _ _ hIv hg hru⟩);refine⟨fun j y hj hy=> ?_,fun j hj=> ?_⟩
       ·have hne:0≠j:=by omega
        rw[AS hne,OF]at hy;obtain⟨z,hz,rfl⟩:=PE.1 hy;have hq:=hL.old j z hj hz;rw[woken_quitsD hq,Deaf_other t (by omega) _ (fun op hop=>by obtain⟨e,_,rfl⟩:=BY hop;rfl)];exact hq
       ·rw[Deaf_other t (g':=0) (by simp at hj;omega) _ (fun op hop=>by obtain⟨e,_,rfl⟩:=BY hop;rfl)];exact hL.above j (by simpa using hj)
   ·
    have hq:=hL.old i x hpos hi;have hi0:(i==0)=false:=by simp;omega
    have hlt:i<gs.size:=(AT.1 hi).1;cases hqi:q i with
    |zero=>rw[hqi]at hq;rw[hq.1]at hx;cases hx
    |succ k=>
     rw[hqi]at hq;rcases hq with⟨hf,_⟩|⟨_,g',es,hm,h8,hh⟩
     ·rw[hf]at hx;cases hx
     have h1:=runT_crowd_go (P:=Q) (sl:=sl') (i:=i) hi (by rw[hi0];exact h8 (af w' w'.tape d'));have hsz:((gs.map (woken Q x g' (af w' w'.tape d'))).setIfInBounds i g').size=gs.size:=by simp
     have hsum:sumTo gs.size (upd q i k)+(k+1)=sumTo gs.size q+k:=by
      have:=sumTo_upd q k id hlt;simpa[hqi]using this
     refine Runs.step (hst.trans h1) (ihM (sumTo gs.size (upd q i k)) (by rw[← hM];omega) _ sl' (upd q i k) (af w' w'.tape d') _ (by rw[hsz]) hp' ?_ ?_ (hH.mute (g:=i) (by omega) (fun op hop=>by obtain⟨e,_,rfl⟩:=BY hop;rfl) fun op hop=>by obtain⟨e,he,rfl⟩:=BY hop;exact touch_mute (hm e he)) ((Deaf_other t (show i≠0 by omega) _ (fun op hop=>by obtain⟨e,_,rfl⟩:=BY hop;rfl)).trans hD))
     ·have hne:i≠0:=by omega
      rw[AS hne,OF,h0];simp[woken_run hr]
     ·refine⟨fun j y hj hy=> ?_,fun j hj=> ?_⟩
      ·by_cases hji:i=j
       ·subst hji;rw[PW (by simpa using hlt)]at hy;obtain rfl:=Option.some.inj hy;rw[upd_same,Deaf_own];exact hh
       ·rw[AS hji,OF]at hy;obtain⟨z,hz,rfl⟩:=PE.1 hy;have h6:=hL.old j z hj hz;rw[woken_quitsD h6,upd_ne q k (QP hji),Deaf_other t hji _ (fun op hop=>by obtain⟨e,_,rfl⟩:=BY hop;rfl)];exact h6
      ·rw[Deaf_other t (g':=i) (by simp at hj;omega) _ (fun op hop=>by obtain⟨e,_,rfl⟩:=BY hop;rfl)];exact hL.above j (by simpa using hj)
  exact key _ gs sl q w' t rfl hp k0 hL hH hD
end
open Classical in
noncomputable def dV(o:Obj):Obj:=if pm o∨(∃c t,o= .pending c t)∨(∃c,o= .coro c)then o else .coro none
noncomputable def strike(w:By):By:= {w with heap:=w.heap.map dV}
theorem kR(w:By)(i:Nat):(strike w).heap[i]?=(w.heap[i]?).map dV:=by
 show(w.heap.map dV)[i]?=_;rw[OF]
theorem CV(w:By):bj w.heap (strike w) w:=by
 have key:∀o,dV o=o∨(dV o= .coro none∧((∃l,o= .loop l)∨∃d,o= .deferred d)):=fun o=>by
  unfold dV;split
  ·exact .inl rfl
  ·rename_i hn;refine .inr ⟨rfl,?_⟩;cases o;case loop l=>exact .inl ⟨l,rfl⟩
   case deferred d=>exact .inr ⟨d,rfl⟩
   case pending c t=>exact absurd (.inr (.inl ⟨c,t,rfl⟩)) hn
   case coro c=>exact absurd (.inr (.inr ⟨c,rfl⟩)) hn
   all_goals exact absurd (.inl trivial) hn
 refine⟨by simp[strike],rfl,rfl,rfl,rfl,fun i=> ?_,fun i _=>rfl⟩;rw[kR];cases w.heap[i]? with
 |none=>exact .inl rfl
 |some o=>
  rcases key o with e|⟨e,⟨l,rfl⟩|⟨l,rfl⟩⟩
  ·exact .inl (congrArg some e)
  ·exact .inr ⟨congrArg some e,.inl ⟨l,rfl⟩⟩
  ·exact .inr ⟨congrArg some e,.inr ⟨l,rfl⟩⟩
def NoWait(h:Array Obj):Prop:=∀(i:Nat)(c:Array PG)(t:Qo),h[i]?=some (.pending c t)→aJ.lim≤i
theorem EY{w:By}(hn:NoWait w.heap):am (strike w):=by
 intro r o ho;rw[kR]at ho;obtain⟨x,hx,rfl⟩:=PE.1 ho;unfold dV;split
 ·rename_i h;rcases h with h|⟨c,t,rfl⟩|h
  ·exact .inl h
  ·exact .inr (.inl ⟨⟨c,t,rfl⟩,hn r c t hx⟩)
  ·exact .inr (.inr h)
 ·exact .inr (.inr ⟨_,rfl⟩)
theorem bj.cells{h0:Array Obj}{w1 w1':By}(h:bj h0 w1 w1'){i:Nat}{c:Array PG}{t:Qo}{f:Nat×Nat}:w1'.heap[i]?=some (.cells c t f)↔w1.heap[i]?=some (.cells c t f):=by
 rcases h.blk i with e|⟨e,⟨l,e'⟩|⟨l,e'⟩⟩
 ·rw[e]
 ·rw[e,e'];exact⟨fun h=>(by cases h),fun h=>(by cases h)⟩
 ·rw[e,e'];exact⟨fun h=>(by cases h),fun h=>(by cases h)⟩
end
section
open Go.Conc
def Ev(es:Array PD):Prop:=∀e∈es,e.loc= .mark .disable∨e.loc= .mark .enable→e.sync=true
theorem GI:Ev #[]:=fun e he=>by simp at he
theorem qT(d:Nat)(a b:Array PD):PK d (a++b)=PK (PK d a) b:=by
 unfold PK;rw[Array.foldl_append]
theorem deaf_push(d:Nat)(a:Array PD)(e:PD):PK d (a.push e)=PK (PK d a) #[e]:=by
 rw[← qT];simp
theorem nu{e:PD}(h1:e.loc≠.mark .disable)(h2:e.loc≠.mark .enable)(d:Nat):PK d #[e]=d:=deafBehind_still (fun x hx=>by
 obtain rfl:x=e:=by simpa using hx
 exact⟨h1,h2⟩) d
structure sR(n:Nat)(es:Array PD):Prop where
 ev:Ev es
 deaf:PK 0 es=n
theorem sR.push{n:Nat}{es:Array PD}(h:sR n es){e:PD}(h1:e.loc≠.mark .disable)(h2:e.loc≠.mark .enable):sR n (es.push e):=by
 refine⟨fun x hx hm=> ?_,by rw[deaf_push,h.deaf,nu h1 h2]⟩;rcases QA.1 hx with hx|rfl
 ·exact h.ev x hx hm
 ·rcases hm with hm|hm
  ·exact absurd hm h1
  ·exact absurd hm h2
theorem sR.cells{n:Nat}{es:Array PD}(h:sR n es){l:List Addr}{w a:Bool}:sR n (es++l.toArray.map (⟨.cell ·,w,a⟩)):=by
 refine⟨fun x hx hm=> ?_,?_⟩
 ·rcases Array.mem_append.1 hx with hx|hx
  ·exact h.ev x hx hm
  ·obtain⟨y,_,rfl⟩:=Array.mem_map.1 hx;rcases hm with hm|hm
   ·cases hm
   ·cases hm
 ·rw[qT,h.deaf];refine deafBehind_still (fun x hx=> ?_) n;obtain⟨y,_,rfl⟩:=Array.mem_map.1 hx;exact⟨nofun,nofun⟩
theorem tT(w:By)(a:Addr)(s:String):AU (w.noCell a s):=by
 unfold World.noCell;split <;>exact trivial
theorem G7{P:If}{w:By}{a:Addr}{b:Bool}{h:Halt}(e:w.farLoad P a b= .error h):AU h:=by
 unfold World.farLoad at e;split at e
 ·split at e
  ·cases e
  ·cases e;exact trivial
 ·cases e;exact tT _ _ _
theorem DU{P:If}{w:By}{a:Addr}{v:PG}{b:Bool}{h:Halt}(e:w.farStore P a v b= .error h):AU h:=by
 unfold Qx at e;split at e
 ·split at e
  ·cases e
  ·cases e;exact trivial
 ·cases e;exact tT _ _ _
theorem js{α:Type}{P:If}{s:Sem α}:∀(n:Nat),iy P n s→∀(w:By)(es:Array PD),sR n es→
 (∃a w1,(s.runT P w es).1= .ok a w1∧sR 0 (s.runT P w es).2)∨∃h w1,(s.runT P w es).1= .halt h w1∧Ev (s.runT P w es).2∧(AU h∨sR 0 (s.runT P w es).2):=by
 induction s with
 |pure a=>exact fun n h w es hl=>.inl ⟨a,w,rfl,by cases h;exact hl⟩
 |halt x=>exact fun n h w es hl=>.inr ⟨x,w,rfl,hl.ev,h.elim (fun e=>.inr (by cases e;exact hl)) .inl⟩
 |load m a k ih=>
  intro n h w es hl;simp only[PM];split
  ·exact ih _ _ (h _) _ _ (hl.push nofun nofun)
  ·split
   ·exact ih _ _ (h _) _ _ hl.cells
   ·rename_i e;exact .inr ⟨_,_,rfl,hl.ev,.inl (G7 e)⟩
 |store m a v k ih=>
  intro n h w es hl;cases v;all_goals simp only[PM]
  case agg=>exact .inr ⟨_,_,rfl,hl.ev,.inl trivial⟩
  case tuple=>exact .inr ⟨_,_,rfl,hl.ev,.inl trivial⟩
  all_goals
   split
   ·split
    ·exact .inr ⟨_,_,rfl,hl.ev,.inl trivial⟩
    ·exact ih _ h _ _ (hl.push nofun nofun)
   ·split
    ·exact ih _ h _ _ hl.cells
    ·rename_i e;exact .inr ⟨_,_,rfl,hl.ev,.inl (DU e)⟩
 |new o k ih=>exact fun n h w es hl=>ih _ _ (h _) _ _ hl
 |shape r k ih=>exact fun n h w es hl=>ih _ _ (h _) _ _ hl
 |freeze a c k ih=>exact fun n h w es hl=>ih _ h _ _ hl
 |frozen a k ih=>exact fun n h w es hl=>ih _ _ (h _) _ _ hl
 |getObj r k ih=>
  intro n h w es hl;simp only[PM];split
  ·exact .inr ⟨_,_,rfl,hl.ev,.inl trivial⟩
  ·exact ih _ _ (h _) _ _ (hl.push (by simp) (by simp))
  ·exact .inr ⟨_,_,rfl,hl.ev,.inl trivial⟩
 |setObj r o k ih=>
  intro n h w es hl;simp only[PM];split
  ·exact .inr ⟨_,_,rfl,hl.ev,.inl trivial⟩
  ·exact ih _ h _ _ (hl.push (by cases o.isChan<;>simp) (by cases o.isChan<;>simp))
  ·exact .inr ⟨_,_,rfl,hl.ev,.inl trivial⟩
 |choose q k ih=>
  intro n h w es hl;simp only[PM];split
  ·exact ih _ _ (h _) _ _ hl
  ·exact ih _ _ (h _) {w with drawn:=w.drawn+1} _ hl
 |sys c k ih=>exact fun n h w es hl=>ih _ _ (h _) _ _ (hl.push nofun nofun)
 |program k ih=>exact fun n h w es hl=>ih P _ h _ _ hl
 |mark m k ih=>
  intro n h w es hl;cases m;case disable=>exact ih _ h _ _ ⟨fun x hx hm=>by
   rcases QA.1 hx with hx|rfl
   ·exact hl.ev x hx hm
   ·rfl,by rw[deaf_push,hl.deaf];rfl⟩
  case enable=>exact ih _ h.2 _ _ ⟨fun x hx hm=>by
   rcases QA.1 hx with hx|rfl
   ·exact hl.ev x hx hm
   ·rfl,by rw[deaf_push,hl.deaf];rfl⟩
  all_goals exact ih _ h _ _ (hl.push nofun nofun)
theorem ii:sR 0 #[]:=⟨GI,rfl⟩
theorem dT(P:If)(f:Q2){es:Array PD}(h:Ev es):PK 0 (seen P f es)=PK 0 es:=by
 have key:∀(quiet:Q2→Bool)(l:List PD),(∀e∈l,e.loc= .mark .disable∨e.loc= .mark .enable→e.sync=true)→∀(q:Bool)(kept:Array PD)(d:Nat),PK 0 (l.foldl (seenStep quiet) (q,kept)).2=PK (PK 0 kept) l.toArray:=by
  intro quiet l;induction l with
  |nil=>exact fun _ q kept d=>rfl
  |cons e l ih=>
   intro hl q kept d;have e1:(e::l).toArray=#[e]++l.toArray:=by simp
   rw[List.foldl_cons,e1,qT];have ih:=ih (fun x hx=>hl x (List.mem_cons_of_mem _ hx));unfold seenStep;dsimp only;split
   ·rename_i f2 hf2;refine(ih _ _ d).trans ?_;rw[nu (by rw[hf2];nofun) (by rw[hf2];nofun)]
   ·refine(ih _ _ d).trans ?_;by_cases hm:e.loc= .mark .disable∨e.loc= .mark .enable
    ·rw[hl e (PP ..) hm];simp only[QC,Bool.and_false,PR,if_false];rw[deaf_push]
    ·have h1:e.loc≠.mark .disable:=fun h=>hm (.inl h)
     have h2:e.loc≠.mark .enable:=fun h=>hm (.inr h)
     rw[nu h1 h2];split
     ·rfl
     ·rw[deaf_push,nu h1 h2]
 rw[seen_def];have:=key (fun f=>(P.funcs[f]?).any (·.norace)) es.toList (fun e he=>h e (Array.mem_toList_iff.1 he)) ((P.funcs[f]?).any (·.norace)) #[] 0;refine this.trans ?_;show PK 0 es.toList.toArray=_;rw[Array.toArray_toList]
def fu(x:GStep):Prop:=∀g1 w1 es,x= .go g1 w1 es→g1.status= .running→PK 0 es=0
theorem bq(g:AI)(w:By):fu (.go g w):=fun g1 w1 es e _=>by cases e;rfl
theorem bE{x:GStep}(h:∀g u es,x≠.go g u es):fu x:=fun g1 w1 es e _=>absurd e (h _ _ _)
theorem jv{g:AI}{w:By}{es:Array PD}(h:g.status≠.running):fu (.go g w es):=fun g1 w1 es1 e h1=>by
 cases e;exact absurd h1 h
theorem eh{E:Array PD}{x:GStep}(hE:PK 0 E=0)(h:fu x):fu (IS E x):=by
 intro g1 w1 es e h1;cases x<;>simp only[IS]at e<;>try(cases e;done)
 simp only[GStep.go.injEq]at e;obtain⟨rfl,rfl,rfl⟩:=e;rw[qT,hE];exact h _ _ _ rfl h1
theorem db{E:Array PD}{x:GStep}(h:∀g u es,x= .go g u es→g.status≠.running):fu (IS E x):=by
 intro g1 w1 es e h1;cases x<;>simp only[IS]at e<;>try(cases e;done)
 simp only[GStep.go.injEq]at e;obtain⟨rfl,rfl,rfl⟩:=e;exact absurd h1 (h _ _ _ rfl)
theorem ju{c:Prop}[Decidable c]{A B:GStep}(ha:fu A)(hb:fu B):fu (if c then A else B):=by
 split
 ·exact ha
 ·exact hb
structure ry(P:If):Prop where
 ext:∀(f:Nat)(fn:Func),P.funcs[f]?=some fn→fn.body.isNone=true→QN fn=none∧∀e,QJ fn=some e→∀args,Hu P (e args)
section
variable{P:If}
theorem huA{α:Type}{s:Sem α}(h:Hu P s:=by
 repeat' (first
  |exact zq2
  |(refine cq ?_ (fun _=> ?_))
  |(refine fL ?_ ?_)
  |split
  |(intro _)
  |dsimp only)):Hu P s:=h
theorem pM(X:ry P)(f:Q2)(args:Array PG):Hu P (QK f args):=by
 unfold QK;cases hf:P.funcs[f]? with
 |none=>exact⟨by show iy P 0 (match P.funcs[f]? with |none=>_|some fn=>_);rw[hf];exact .inl rfl⟩
 |some fn=>
  suffices h:Hu P (if(fn.name== "runtime.NumGoroutine")=true then pure Next.numGoroutine else
   if fn.body.isNone=true then(do
    mark (.extern f)
    if let some e:=QN fn then return← e args
    match QJ fn with
    |some e=>pure (.value (← e args))
    |none=>
     if fn.name.endsWith ".init" && !fn.name.startsWith "(" && !fn.name.startsWith "gosem." then pure (.value (.tuple #[]))
     else unsupported (.extern fn.name))
   else pure (.enter f args)) by
   exact⟨by show iy P 0 (match P.funcs[f]? with |none=>_|some fn=>_);rw[hf];exact h.hu⟩
  refine fL zq2 ?_;cases hb:fn.body.isNone with
  |false=>simp only[PR,if_false];exact zq2
  |true=>
   simp only[if_true];refine cq zq2 fun _=> ?_
   rw[(X.ext f fn hf hb).1];dsimp only;cases he:QJ fn with
   |some e=>exact cq ((X.ext f fn hf hb).2 e he args) fun _=>zq2
   |none=>
    dsimp only;split <;>exact zq2
theorem rp(X:ry P)(recv:PG)(name:String)(args:Array PG):Hu P (callMethod recv name args):=by
 unfold callMethod;cases recv<;>first |exact zq2|(refine cq zq2 fun _=> ?_;refine cq zq2 fun _=> ?_;exact pM X _ _)
theorem oX(X:ry P)(t:Target)(args:Array PG):Hu P (invoke t args):=by
 unfold invoke;cases t with
 |nil=>exact zq2
 |builtin b ats t cs=>exact zq2
 |collected r=>exact zq2
 |coroexit c=>exact zq2
 |fn f c=>
  cases f with
  |func f=>exact pM X _ _
  |method n=>
   dsimp only;split
   ·exact rp X _ _ _
   ·exact zq2
  |methodOf t n=>
   dsimp only;split
   ·refine cq zq2 fun _=> ?_
    repeat' (first |exact rp X _ _ _|split)
   ·exact zq2
  |via t p f q=>
   dsimp only;split
   ·exact cq zq2 fun _=>pM X _ _
   ·exact zq2
  |yield l=>exact zq2
theorem qQ(ρ:Operand→PG)(o:Oper)(hc:∀c,o.op≠.call c):Hu P (Q6 ρ o):=by
 unfold Q6;cases h:o.op;case call c=>exact absurd h (hc c)
 case nilCheck x=>
  dsimp only;repeat' (first
   |exact zq2
   |(refine cq ?_ (fun _=> ?_))
   |(refine fL ?_ ?_)
   |split
   |dsimp only)
 all_goals exact huA
theorem Gm(X:ry P)(ρ:Operand→PG)(o:Oper):Hu P (Q6 ρ o):=by
 by_cases hc:∃c,o.op= .call c
 ·obtain⟨c,hc⟩:=hc;unfold Q6;rw[hc];exact cq zq2 fun d=>oX X _ _
 ·exact qQ ρ o fun c h=>hc ⟨c,h⟩
theorem vL{fr:IN}{cs:List IN}{dy:Option Dying}{m:String}{w:By}:fu (endFatal P fr cs dy m w):=by
 unfold endFatal;dsimp only;generalize Sem.run P _ w=x;cases x with
 |ok a w=>exact bq _ _
 |halt x w=>cases x<;>exact bE (fun _ _ _ h=>by cases h)
variable[aJ]
theorem y4{fr:IN}{e:Array PD}(h:sR 0 e):PK 0 (seen P fr.fn (if(fr.kind== .early)=true then #[]else e))=0:=by
 split
 ·exact(dT P _ GI).trans rfl
 ·exact(dT P _ h.ev).trans h.deaf
theorem jL(T:ei P){s:Sem Next}(hs:Hu P s)(hst:St P s){fr:IN}{cs:List IN}{dy:Option Dying}{w:By}(hw:am w):fu (stepG.apply P true fr cs dy s w):=by
 unfold stepG.apply;simp only[if_true];have hI:=pF hst.st w #[] hw;have hu:=js 0 hs.hu w #[] ii;generalize s.runT P w #[]=x at hI hu ⊢;obtain⟨r,e⟩:=x;dsimp only at hu;rcases hu with⟨n,w1,rfl,hl⟩|⟨x,w1,rfl,hev,hm⟩
 ·dsimp only;refine eh (y4 hl) ?_;cases n;case recover=>
   dsimp only;split <;>exact bq _ _
  case callThen d a b c=>dsimp only;split <;>exact bq _ _
  case row a b=>dsimp only;split <;>exact bq _ _
  case stack a b=>dsimp only;split <;>exact bq _ _
  case spawn d=>
   dsimp only;exact ju (bq _ _) (bE (fun _ _ _ h=>by cases h))
  all_goals first
   |exact bq _ _
   |exact bE (fun _ _ _ h=>by cases h)
   |exact jv (by simp)
 ·cases x;case unsupported v=>
   cases v;case initOrder g=>
    have hg:aJ.lim≤g:=hI _ _ _ rfl;dsimp only;rw[oq T hg];exact db (fun _ _ _ h=>by cases h)
   all_goals exact db (fun _ _ _ h=>by cases h)
  case stuck m=>exact db (fun _ _ _ h=>by cases h)
  case blocked=>exact db (fun g u es h=>by cases h;simp)
  case waiting=>exact db (fun g u es h=>by cases h;simp)
  all_goals
   rcases hm with hm|hl
   ·exact hm.elim
   ·refine eh (y4 hl) ?_;first
     |exact bq _ _
     |exact vL
     |exact bE (fun _ _ _ h=>by cases h)
     |exact jv (by simp)
theorem mQ{main:Bool}{fr:IN}{cs:List IN}{dy:Option Dying}{v:PG}{w:By}:fu (doReturn P main fr cs dy v w):=by
 unfold doReturn;cases cs with
 |cons c cs=>
  dsimp only;split <;>exact bq _ _
 |nil=>
  dsimp only;split
  ·exact bq _ _
  ·exact bE (fun _ _ _ h=>by cases h)
  ·refine ju (jv (by simp)) ?_;split
   ·exact bq _ _
   ·exact bE (fun _ _ _ h=>by cases h)
theorem tu(T:ei P)(X:ry P){fr:IN}{cs:List IN}{dy:Option Dying}{d:Qj}{w:By}(hw:am w):fu (PJ P fr cs dy d w):=by
 unfold PJ;refine ju (bE (fun _ _ _ h=>by cases h)) ?_;have hu:=js 0 (oX X d.target d.args).hu w #[] ii;generalize (invoke d.target d.args).runT P w #[]=x at hu ⊢;obtain⟨r,e⟩:=x;dsimp only at hu;rcases hu with⟨n,w1,rfl,hl⟩|⟨x,w1,rfl,hev,hm⟩
 ·dsimp only;refine eh ((dT P _ hl.ev).trans hl.deaf) ?_;cases n;case recover=>
   dsimp only;split <;>exact bq _ _
  case coroswitch c e=>cases e<;>exact bE (fun _ _ _ h=>by cases h)
  case alone b v=>cases b<;>exact bE (fun _ _ _ h=>by cases h)
  all_goals first
   |exact bq _ _
   |exact bE (fun _ _ _ h=>by cases h)
   |exact jv (by simp)
   |(dsimp only;split <;>first |exact bq _ _|exact bE (fun _ _ _ h=>by cases h))
 ·cases x;case unsupported v=>cases v<;>exact db (fun _ _ _ h=>by cases h)
  case stuck m=>exact db (fun _ _ _ h=>by cases h)
  case blocked=>exact db (fun g u es h=>by cases h;simp)
  case waiting=>exact db (fun g u es h=>by cases h;simp)
  all_goals
   rcases hm with hm|hl
   ·exact hm.elim
   ·refine eh ((dT P _ hl.ev).trans hl.deaf) ?_;first
     |exact bq _ _
     |exact vL
     |exact bE (fun _ _ _ h=>by cases h)
     |exact jv (by simp)
theorem vK(fn:Func)(tmps:Array PG):Hu P (results fn tmps):=by
 unfold results;refine cq (@KV _ _ _ _ (fun a=> ?_) _) fun _=>zq2
 split <;>exact huA
theorem BX(T:ei P)(X:ry P){main:Bool}{fr:IN}{cs:List IN}{dy:Option Dying}{w:By}(hw:am w):fu (unwind P main fr cs dy w):=by
 unfold unwind;cases hd:fr.defers with
 |cons x ds=>
  obtain⟨tg,ar⟩:=x;cases tg with
  |collected b=>
   dsimp only;have hu:=js 0 (zq2:Hu P (Qf b)).hu w #[] ii;generalize (Qf b).runT P w #[]=x at hu ⊢;obtain⟨r,e⟩:=x;dsimp only at hu;rcases hu with⟨n,w1,rfl,hl⟩|⟨x,w1,rfl,hev,hm⟩
   ·exact eh ((dT P _ hl.ev).trans hl.deaf) (bq _ _)
   ·exact db (fun _ _ _ h=>by cases h)
  |_=>exact tu T X hw
 |nil=>
  dsimp only;cases fr.mode with
  |run=>exact bE (fun _ _ _ h=>by cases h)
  |panicking chain=>
   dsimp only;refine ju (bE (fun _ _ _ h=>by cases h)) ?_;cases cs with
   |cons c cs=>exact bq _ _
   |nil=>
    dsimp only;cases dy with
    |none=>
     dsimp only;refine ju (jv (by simp)) ?_;generalize Sem.run P _ w=x;cases x with
     |ok a w=>exact bq _ _
     |halt x w=>cases x<;>exact bE (fun _ _ _ h=>by cases h)
    |some d=>
     dsimp only;split
     ·unfold endPrinting;dsimp only;split
      ·exact bq _ _
      ·exact bE (fun _ _ _ h=>by cases h)
     ·exact bE (fun _ _ _ h=>by cases h)
  |returning=>
   dsimp only;cases P.funcs[fr.fn]? with
   |none=>exact mQ
   |some fn=>
    dsimp only;have hu:=js 0 (vK (P:=P) fn fr.tmps).hu w #[] ii;generalize (results fn fr.tmps).runT P w #[]=x at hu ⊢;obtain⟨r,e⟩:=x;dsimp only at hu;rcases hu with⟨n,w1,rfl,hl⟩|⟨x,w1,rfl,hev,hm⟩
    ·exact eh ((dT P _ hl.ev).trans hl.deaf) mQ
    ·cases x<;>exact db (fun _ _ _ h=>by cases h)
theorem Gq(T:ei P)(X:ry P){fr:IN}{cs:List IN}{dy:Option Dying}{w:By}(hw:am w):fu (stepG.oper P true fr cs dy w):=by
 unfold stepG.oper;split
 ·exact bE (fun _ _ _ h=>by cases h)
 ·split
  ·exact jL T (cq zq2 fun d=>cq zq2 fun _=>zq2) (ec _ _ _ _) hw
  ·exact jL T (Gm X _ _) (gq T _ _) hw
theorem np{main:Bool}{fr:IN}{cs:List IN}{dy:Option Dying}{w:By}(l:Nat)(j:Option Code):fu (IS (seen P fr.fn ((PN l j).runT P w #[]).2) (match((PN l j).runT P w #[]).1 with
 | .ok v w=>doReturn P main fr cs dy v w
 | .halt _ w=>.ended (.stuck "range over a function: no such loop" (fr.pos P)) w)):=by
 have hu:=js 0 (zq2:Hu P (PN l j)).hu w #[] ii;generalize (PN l j).runT P w #[]=x at hu ⊢;obtain⟨r,e⟩:=x;dsimp only at hu;rcases hu with⟨n,w1,rfl,hl⟩|⟨x,w1,rfl,hev,hm⟩
 ·exact eh ((dT P _ hl.ev).trans hl.deaf) mQ
 ·exact db (fun _ _ _ h=>by cases h)
theorem Gr(T:ei P)(X:ry P){main:Bool}{fr:IN}{cs:List IN}{dy:Option Dying}{w:By}(hw:am w)(hf:dc fr):fu (stepG.exec P main true fr cs dy w):=by
 unfold stepG.exec;dsimp only;cases ht:fr.todo with
 |nil=>
  dsimp only;cases fr.roundOf with
  |none=>exact bq _ _
  |some l=>exact np _ _
 |cons it rest=>
  cases it with
  |code c=>
   cases c with
   |ret=>
    dsimp only;cases fr.roundOf with
    |none=>exact bq _ _
    |some l=>exact np _ _
   |exit id=>
    dsimp only;cases exitTo id rest with
    |some k=>exact bq _ _
    |none=>
     dsimp only[Qv];cases fr.roundOf with
     |none=>exact bE (fun _ _ _ h=>by cases h)
     |some l=>exact np _ _
   |goto id=>
    dsimp only;cases gotoIn id rest with
    |some k=>exact bq _ _
    |none=>
     dsimp only[Qv];cases fr.roundOf with
     |none=>exact bE (fun _ _ _ h=>by cases h)
     |some l=>exact np _ _
   |rangeFunc f params assign body=>
    dsimp only;have h1:cW assign=true∧cW body=true:=by
     have h0:=hf.1 (.code (.rangeFunc f params assign body)) (by rw[ht];exact PP ..);simpa[jz,cW]using h0
    have hH:=ca (cT (mk:=true) P fr.fn fr.tmps params assign body fr.roundOf h1.1 h1.2).st w #[] hw;have hu:=js 0 (zq2:Hu P (Qu fr.fn fr.tmps params assign body fr.roundOf)).hu w #[] ii;generalize (Qu fr.fn fr.tmps params assign body fr.roundOf).runT P w #[]=x at hu hH ⊢;obtain⟨r,e⟩:=x;dsimp only at hu;rcases hu with⟨⟨l,mark⟩,w1,rfl,hl⟩|⟨x,w1,rfl,hev,hm⟩
    ·exact eh ((dT P _ hl.ev).trans hl.deaf) (jL T (cq zq2 fun d=>oX X _ _) (@aS _ _ _ _ _ _ _ _ zq2 fun d=>eL T _ _) hH)
    ·exact db (fun _ _ _ h=>by cases h)
   |region id ops draw=>
    dsimp only;refine ju (bq _ _) ?_;generalize (choose (.order fr.fn id)).run P w=x;cases x with
    |ok a w=>exact bq _ _
    |halt x w=>exact bE (fun _ _ _ h=>by cases h)
   |cond c a b=>
    dsimp only;split
    ·exact bq _ _
    ·exact bE (fun _ _ _ h=>by cases h)
   |refuse why=>exact bE (fun _ _ _ h=>by cases h)
   |_=>exact bq _ _
  |inRangeFunc id=>exact bE (fun _ _ _ h=>by cases h)
  |beginRound=>
   cases hro:fr.roundOf with
   |none=>exact jL T (cq (IJ P _) fun _=>zq2) (@aS _ _ _ _ _ _ _ _ (qx _ _) fun _=>zq2) hw
   |some l=>exact jL T (cq zq2 fun _=>zq2) (@aS _ _ _ _ _ _ _ _ (dW _ l) fun _=>zq2) hw
  |call d a b c=>exact(hf.1 (.call d a b c) (by rw[ht];exact PP ..)).elim
  |extern row args=>
   have hrow:row=printRow:=hf.1 (.extern row args) (by rw[ht];exact PP ..);subst hrow;dsimp only;rw[l8];exact jL T (IK P _ _ _) (ly P _ _ _) hw
  |endRangeFunc l=>
   dsimp only;have hu:=js 0 (zq2:Hu P (Qs l)).hu w #[] ii;generalize (Qs l).runT P w #[]=x at hu ⊢;obtain⟨r,e⟩:=x;dsimp only at hu;rcases hu with⟨n,w1,rfl,hl⟩|⟨x,w1,rfl,hev,hm⟩
   ·exact eh ((dT P _ hl.ev).trans hl.deaf) (bq _ _)
   ·cases x;case panic v=>
     rcases hm with hm|hl
     ·exact hm.elim
     ·exact eh ((dT P _ hl.ev).trans hl.deaf) (bq _ _)
    all_goals exact db (fun _ _ _ h=>by cases h)
  |inRegion ops todo=>
   cases todo with
   |nil=>exact bq _ _
   |cons i is=>
    dsimp only;exact ju (Gq T X hw) (bq _ _)
  |inBlock id=>exact bq _ _
  |inScope id=>exact bq _ _
  |inLoop id=>exact bq _ _
theorem Ah{fr:IN}{d:Dying}{f:Fatal}{w:By}:fu (writeOn P fr d f w):=by
 unfold writeOn;split
 ·exact bE (fun _ _ _ h=>by cases h)
 ·rename_i piece rest _;dsimp only;have H:∀s:Sem Unit,Hu P s→fu (match s.runT P w #[]with
   |(.ok _ w,es)=>.go {frame:=fr,callers:=[],status:=.running,dying:=some {d with fatal:=some {f with pieces:=rest,begun:=true}}} w es
   |(.halt .blocked w,_)=>.go {frame:=fr,callers:=[],status:=.blocked,dying:=some {d with fatal:=some f}} w #[]
   |(.halt (.unsupported u) w,_)=>.ended (.unsupported u "") w
   |(.halt _ w,_)=>.ended (.stuck "the report of a fatal error" "") w):=by
   intro s hs;have hu:=js 0 hs.hu w #[] ii;generalize s.runT P w #[]=x at hu ⊢;obtain⟨r,e⟩:=x;dsimp only at hu;rcases hu with⟨n,w1,rfl,hl⟩|⟨x,w1,rfl,hev,hm⟩
   ·intro g1 w2 es he _;cases he;exact hl.deaf
   ·cases x;case blocked=>exact jv (by simp)
    all_goals exact bE (fun _ _ _ h=>by cases h)
  refine H _ ?_;have h0:∀b:ByteArray,Hu P (do
   if b.size>65536 then unsupported (.noEntry "a report of more than 65536 bytes")
   match← sys (.write 2 b)with
   | .int n=>if n !=b.size then unsupported (.noEntry "a report that its descriptor cannot take whole")
   | .err _=>pure ()
   |_=>unsupported (.noEntry "a report that its descriptor cannot take whole"):Sem Unit):=by
   intro b;exact huA
  refine fL ⟨?_⟩ (h0 piece);refine Af (n:=1) fun b=> ?_
  cases b with
  |true=>exact .inr trivial
  |false=>
   show iy P 1 (if f.whole=true then _ else _);split
   ·exact⟨Nat.one_pos,(h0 piece).hu⟩
   ·exact⟨Nat.one_pos,(h0 piece).hu⟩
theorem C8(w:By)(fd:Nat)(t:ByteArray)(o:Outcome):(∀g u es,endWith w fd t o≠.go g u es):=by
 intro g u es h;unfold endWith at h;dsimp only at h;repeat' split at h
 all_goals cases h
theorem IM(X:ry P){fr:IN}{d:Dying}{w:By}:fu (die P fr d w):=by
 unfold die;split
 ·exact Ah
 ·split
  ·exact ju (jv (by simp)) (bE (C8 _ _ _ _))
  ·rename_i v mark rest _;dsimp only;split
   ·exact bq _ _
   ·rename_i s _;generalize (withAddress s).run P w=x;cases x with
    |ok a w=>exact bq _ _
    |halt x w=>exact bE (fun _ _ _ h=>by cases h)
   ·rename_i t recv name _;have hu:=js 0 (oX X (.fn (.method name) #[]) #[.iface t recv]).hu w #[] ii;generalize (invoke (.fn (.method name) #[]) #[.iface t recv]).runT P w #[]=x at hu ⊢;obtain⟨r,e⟩:=x;dsimp only at hu;rcases hu with⟨n,w1,rfl,hl⟩|⟨x,w1,rfl,hev,hm⟩
    ·refine eh ((dT P _ hl.ev).trans hl.deaf) ?_;cases n;case enter f args=>exact bq _ _
     case value u=>cases u<;>first |exact bq _ _|exact bE (fun _ _ _ h=>by cases h)
     all_goals exact bE (fun _ _ _ h=>by cases h)
    ·cases x;case panic v=>
      rcases hm with hm|hl
      ·exact hm.elim
      ·refine eh ((dT P _ hl.ev).trans hl.deaf) ?_;dsimp only;unfold endPrinting;dsimp only;split
       ·exact bq _ _
       ·exact bE (fun _ _ _ h=>by cases h)
     all_goals exact db (fun _ _ _ h=>by cases h)
   ·exact bE (fun _ _ _ h=>by cases h)
theorem Gp(T:ei P)(X:ry P)(main:Bool){g:AI}{w:By}(hw:am w)(hj:(∀d,g.dying=some d→d.calling=true)→dc g.frame):fu (stepG P main g w):=by
 obtain⟨fr,cs,st,dy,off⟩:=g;unfold stepG;dsimp only at hj ⊢;have key:(∀a b c e f i,dy=some ⟨a,b,false,c,e,f,i⟩→False)→∀d,dy=some d→d.calling=true:=fun hn d hd=>by
  subst hd;cases hc:d.calling with
  |true=>rfl
  |false=>
   obtain⟨a,b,c,e,f,i,j⟩:=d;dsimp only at hc;subst hc;exact(hn _ _ _ _ _ _ rfl).elim
 split
 ·exact IM X
 ·rename_i hn hm;exact Gr T X hw (hj (key (fun a b c e f i hd=>hn _ _ _ _ _ _ hd)))
 ·exact BX T X hw
end
end
section
open Go.Conc
variable[aJ]
def Str(h:Array Obj)(i:Nat):Prop:=∃o,h[i]?=some o∧dV o≠o
def th(h0 h1:Array Obj):Prop:=∀i,i<h0.size→(((∃l,h1[i]?=some (.loop l))∨∃d,h1[i]?=some (.deferred d))∨Str h0 i)→h1[i]?=h0[i]?
structure Under(h0:Array Obj)(w:By):Prop where
 le:h0.size≤w.heap.size
 st:∀i,i<h0.size→Str h0 i→w.heap[i]?=some (.coro none)
theorem Under.keep{h0:Array Obj}{w w':By}(h:Under h0 w)(hk:∀b,b<w.heap.size→w'.heap[b]?=w.heap[b]?)(hle:w.heap.size≤w'.heap.size):Under h0 w':=
 ⟨Qn h.le hle,fun i hi hs=>(hk i (PZ hi h.le)).trans (h.st i hi hs)⟩
def qp(h0:Array Obj)(Q:If)(g:AI)(w:By)(m:Machine)(t:Trace):Prop:=∃h1,K7 h1 Q g w m t∧th h0 h1
theorem qp.re{h0:Array Obj}{Q:If}{g:AI}{w:By}{m:Machine}{t:Trace}(h:qp h0 Q g w m t)(τ:Nat→PV→Nat)(d:Nat):qp h0 Q g (af w τ d) m t:=by
 obtain⟨h1,⟨⟨gs,sl,q,w',e,hp,h0,hL⟩,hH,hD⟩,ho⟩:=h;exact⟨h1,⟨⟨gs,sl,q,w',e,hp,h0,hL⟩,hH,hD⟩,ho⟩
theorem KT{P:If}(T:ei P)(X:ry P):Mu P:=fun g w g1 w1 es hI h hr=>Gp T X true hI.1 (vJ hI) g1 w1 es h hr
structure Mz(Q:If)(β:Nat→Option Code):Prop where
 twin:Twin Q β
 tame:bw (alt Q β)
 refuse:∀f c,β f=some c→∃why,c= .refuse why
 quiet:¬ aJ.cm
 hush:ry (alt Q β)
def Hj(h0:Array Obj)(Q:If)(K:AI→By→Prop)(m:Machine)(t:Trace):Prop:=Runs Q m t fun m' t'=>∃g' w',K g' w'∧Iv g' w'∧qp h0 Q g' w' m' t'
def dv{Q:If}{β:Nat→Option Code}(B:Mz Q β)(h0:Array Obj):eQ (alt Q β) where
 okF f:=β f=none
 H K g w:=Iv g w→∀m t,qp h0 Q g w m t→Hj h0 Q K m t
 re K g w τ d h hI m t hF:=h (fP hI τ d) m t (hF.re τ d)
 stop K g w h hI m t hF:=.here ⟨g,w,h,hI,hF⟩
 bind K K' g w h hk hI m t hF:=(h hI m t hF).bind fun m' t' ⟨g',w',h1,h2,h3⟩=>hk g' w' h1 h2 m' t' h3
 hit K g w hr hK h hI m t hF:=by
  obtain⟨h1,hF,ho⟩:=hF;have hT:=bar B.tame (fun g w τ d=>yJ (K:=K) g w τ d) (fun g w ⟨_,_,h⟩=>(hK _ _ h).1) hI hr fun τ d=>Gn (h τ d)
  refine(z8 B.twin B.tame B.refuse B.quiet (KT B.tame.toei B.hush) (fun g w ⟨_,_,h⟩=>(hK _ _ h).1) (fun g w ⟨τ,d,h⟩ hf=> ?_) hT hI m t hF).mono fun m' t' ⟨g',w',⟨τ,d,k1⟩,k2,k3⟩=>⟨g',_,k1,fP k2 τ d,qp.re ⟨h1,k3,ho⟩ τ d⟩
  obtain⟨f,args,k,e1,e2,_⟩:=hf;have:=(hK _ _ h).2;have e3:g.frame.fn=f:=by rw[e1];rfl
  rw[e3]at this;rw[this]at e2;cases e2
end
section
open Go.Conc
open Go.ConcN (sumTo upd sumTo_upd upd_ne upd_same)
variable[aJ]
structure gj(Q:If)(g:AI)(w:By)(m:Machine)(t:Trace):Prop where
 is:∃gs sl q τ d,m=crowd gs (af w τ d) sl∧gs[0]?=some g∧Leavers Q t gs q
 held:Held t
 hears:Deaf t 0=0
section
variable{Q:If}{R:Machine→Trace→Prop}{g g1 child:AI}{w w1:By}
theorem gj.turn(hr:g.status= .running)
 (H:∀gs sl q τ d t m,gs[0]?=some g→Leavers Q t gs q→Held t→Deaf t 0=0→stepT Q m=runT Q (crowd gs (af w τ d) sl) 0→Runs Q m t R) {m:Machine} {t:Trace} (hF:gj Q g w m t):Runs Q m t R:=by
 obtain⟨⟨gs,sl,q,τ,d,rfl,h0,hL⟩,hH,hD⟩:=hF;have key:∀M gs sl q τ d t,sumTo gs.size q=M→gs[0]?=some g→Leavers Q t gs q→Held t→Deaf t 0=0→Runs Q (crowd gs (af w τ d) sl) t R:=by
  intro M;induction M using Qc with
  |ind M ihM=>
  intro gs sl q τ d t hM h0 hL hH hD;have haw:∀x∈gs,awake x:=by
   intro x hx;obtain⟨i,hi,rfl⟩:=Qk.1 hx;rcases Qe i with rfl|hpos
   ·have:gs[0]=g:=by simpa[No hi]using h0
    rw[this];exact awake_of (.inl hr)
   ·exact awake_of ((hL.old i _ hpos (No hi)).status.elim .inl fun x=>.inr (.inr x))
  obtain⟨i,x,d',sl',hi,hx,hst⟩:=crowd_pick (P:=Q) (w:=af w τ d) (sl:=sl) haw ⟨0,g,h0,hr⟩;have hat:(af w τ d).at d'=af w τ d':=rfl;rw[hat]at hst;rcases Qe i with rfl|hpos
  ·exact H gs sl' q τ d' t _ h0 hL hH hD hst
  ·have hq:=hL.old i x hpos hi;have hi0:(i==0)=false:=by simp;omega
   have hlt:i<gs.size:=(AT.1 hi).1;cases hqi:q i with
   |zero=>rw[hqi]at hq;rw[hq.1]at hx;cases hx
   |succ k=>
    rw[hqi]at hq;rcases hq with⟨hf,_⟩|⟨_,g',es,hm,h3,h4⟩
    ·rw[hf]at hx;cases hx
    have h1:=runT_crowd_go (P:=Q) (sl:=sl') (i:=i) hi (by rw[hi0];exact h3 (af w τ d'));have hsz:((gs.map (woken Q x g' (af w τ d'))).setIfInBounds i g').size=gs.size:=by simp
    have hsum:sumTo gs.size (upd q i k)+(k+1)=sumTo gs.size q+k:=by
     have:=sumTo_upd q k id hlt;simpa[hqi]using this
    have hne:i≠0:=by omega
    refine Runs.step (hst.trans h1) (ihM (sumTo gs.size (upd q i k)) (by rw[← hM];omega) _ sl' (upd q i k) τ d' _ (by rw[hsz]) ?_ ?_ (hH.mute (g:=i) hne (fun op hop=>by obtain⟨e,_,rfl⟩:=BY hop;rfl) fun op hop=>by obtain⟨e,he,rfl⟩:=BY hop;exact touch_mute (hm e he)) ((Deaf_other t hne _ (fun op hop=>by obtain⟨e,_,rfl⟩:=BY hop;rfl)).trans hD))
    ·rw[AS hne,OF,h0];simp[woken_run hr]
    ·refine⟨fun j y hj hy=> ?_,fun j hj=> ?_⟩
     ·by_cases hji:i=j
      ·subst hji;rw[PW (by simpa using hlt)]at hy;obtain rfl:=Option.some.inj hy;rw[upd_same,Deaf_own];exact h4
      ·rw[AS hji,OF]at hy;obtain⟨z,hz,rfl⟩:=PE.1 hy;have h2:=hL.old j z hj hz;rw[woken_quitsD h2,upd_ne q k (QP hji),Deaf_other t hji _ (fun op hop=>by obtain⟨e,_,rfl⟩:=BY hop;rfl)];exact h2
     ·rw[Deaf_other t (g':=i) (by simp at hj;omega) _ (fun op hop=>by obtain⟨e,_,rfl⟩:=BY hop;rfl)];exact hL.above j (by simpa using hj)
 exact key _ gs sl q τ d t rfl h0 hL hH hD
theorem gj.go(hr:g.status= .running)(h:∀τ d,∃d' E,stepG Q true g (af w τ d)= .go g1 (af w1 τ d') E∧PK 0 E=0)
 (k:∀m t,gj Q g1 w1 m t→Runs Q m t R) {m:Machine} {t:Trace} (hF:gj Q g w m t):Runs Q m t R:=by
 refine hF.turn hr fun gs sl q τ d t m h0 hL hH hD hst=> ?_
 obtain⟨d',E,hg,hq⟩:=h τ d;have h1:=runT_crowd_go (P:=Q) (sl:=sl) (i:=0) h0 (show stepG Q (0==0) g (af w τ d)=_ from hg);have hlt:0<gs.size:=(AT.1 h0).1;refine Runs.step (hst.trans h1) (k _ _ ⟨⟨_,sl,q,τ,d',rfl,by simp[hlt],?_⟩,hH.own fun op hop=>by obtain⟨e,_,rfl⟩:=BY hop;rfl,by rw[Deaf_own,hD];exact hq⟩);refine⟨fun j y hj hy=> ?_,fun j hj=> ?_⟩
 ·have hne:0≠j:=by omega
  rw[AS hne,OF]at hy;obtain⟨z,hz,rfl⟩:=PE.1 hy;have hq:=hL.old j z hj hz;rw[woken_quitsD hq,Deaf_other t (by omega) _ (fun op hop=>by obtain⟨e,_,rfl⟩:=BY hop;rfl)];exact hq
 ·rw[Deaf_other t (g':=0) (by simp at hj;omega) _ (fun op hop=>by obtain⟨e,_,rfl⟩:=BY hop;rfl)];exact hL.above j (by simpa using hj)
theorem gj.hire(hr:g.status= .running)(h:∀τ d,∃d',stepG Q true g (af w τ d)= .spawn g1 child (af w1 τ d') #[])
 (H:∀gs sl q τ d t k,k≠0→dj Q k g1 child gs q t→PT k (fun _=>False) (fun _=>False) t→Runs Q (crowd gs (af w1 τ d) sl) t R) {m:Machine} {t:Trace} (hF:gj Q g w m t):Runs Q m t R:=by
 refine hF.turn hr fun gs sl q τ d t m h0 hL hH hD hst=> ?_
 obtain⟨d',hg⟩:=h τ d;have h4:=runT_crowd_spawn (P:=Q) (sl:=sl) (i:=0) h0 (show stepG Q (0==0) g (af w τ d)=_ from hg);have hlt:0<gs.size:=(AT.1 h0).1;refine Runs.step (hst.trans h4) ?_;have e:((IT 0 g.frame.fn g.frame.place #[]).push {g:=0,fn:=g.frame.fn,pos:=g.frame.place,act:=.go gs.size}|>.push {g:=gs.size,fn:=child.frame.fn,pos:=g.frame.place,act:=.start})=#[{g:=0,fn:=g.frame.fn,pos:=g.frame.place,act:=.go gs.size},{g:=gs.size,fn:=child.frame.fn,pos:=g.frame.place,act:=.start}]:=rfl;rw[e];refine H _ _ q τ d' _ gs.size (by omega) ⟨?_,?_,fun i x h1 h2 h3=> ?_,fun j hj=> ?_⟩ (PT.hire hH hD (hL.above _ (Qa _)) (by omega))
 ·rw[Qw (by simpa using hlt)];simp[hlt]
 ·rw[show gs.size=(gs.setIfInBounds 0 g1).size from by simp,Array.getElem?_push_size]
 ·have hlt2:i<gs.size:=by
   have:=(AT.1 h3).1;simp only[QO,Array.size_setIfInBounds]at this;omega
  rw[Qw (by simpa using hlt2)]at h3;have hx:gs[i]?=some x:=by
   rw[← h3,← No,AS (QP h1)]
  have:=hL.old i x (by omega) hx;have hd:Deaf (t++ #[{g:=0,fn:=g.frame.fn,pos:=g.frame.place,act:=.go gs.size},{g:=gs.size,fn:=child.frame.fn,pos:=g.frame.place,act:=.start}]) i=Deaf t i:=by
   refine Deaf_quiet fun op hop d=> ?_
   simp only[Q4,Q9,Q3,or_false]at hop;rcases hop with rfl|rfl<;>rfl
  rw[hd];exact this
 ·have hd:Deaf (t++ #[{g:=0,fn:=g.frame.fn,pos:=g.frame.place,act:=.go gs.size},{g:=gs.size,fn:=child.frame.fn,pos:=g.frame.place,act:=.start}]) j=Deaf t j:=by
   refine Deaf_quiet fun op hop d=> ?_
   simp only[Q4,Q9,Q3,or_false]at hop;rcases hop with rfl|rfl<;>rfl
  rw[hd];simp only[QO,Array.size_setIfInBounds]at hj;exact hL.above j (by omega)
end
end
section
open Go.Conc
variable[aJ]
section
variable{Q:If}{R:Machine→Trace→Prop}{m:Machine}{t:Trace}{w w1:By}{b:IN}{a:Act}{k:List Item}{cs:List IN}{ops:Array Oper}{i:Nat}{rest:List Nat}{o:Oper}
theorem gj.ctl{g g1:AI}(hr:g.status= .running)(h:∀w,stepG Q true g w= .go g1 w)(k:∀m t,gj Q g1 w m t→Runs Q m t R)(hF:gj Q g w m t):Runs Q m t R:=
 hF.go hr (fun τ d=>⟨d,#[],h _,rfl⟩) k
theorem pR{fn:Q2}(hu:Hu Q (Q6 a.eval o)){n:Next}{u:By}(hr:(Q6 a.eval o).run Q w= .ok n u):PK 0 (listed Q fn a o w)=0:=by
 unfold listed;rcases js 0 hu.hu w #[] ii with⟨_,_,_,hl⟩|⟨x,u2,e1,_⟩
 ·exact(dT Q fn hl.ev).trans hl.deaf
 ·rw[QD,hr]at e1;cases e1
theorem gj.value{v:PG}(ho:ops[i]?=some o)(hw:Q8 o (yielded ops a.tmps)=true)(hk:b.kind≠.early)(hc:∀c,o.op≠.call c)
 (hr:∀τ d,(Q6 a.eval o).run Q (af w τ d)= .ok (.value v) (af w1 τ d)) (k1:∀m t,gj Q (G (b.at (a.put o.dst v) (.inRegion ops rest::k)) cs) w1 m t→Runs Q m t R)
 (hF:gj Q (G (b.at a (.inRegion ops (i::rest)::k)) cs) w m t):Runs Q m t R:=
 hF.go rfl (fun τ d=>⟨d,_,stepG_value ho hw hk (hr τ d),pR (qQ _ _ hc) (hr τ d)⟩) k1
theorem gj.none(ho:ops[i]?=some o)(hw:Q8 o (yielded ops a.tmps)=true)(hk:b.kind≠.early)(hc:∀c,o.op≠.call c)
 (hr:∀τ d,(Q6 a.eval o).run Q (af w τ d)= .ok .skip (af w1 τ d)) (k1:∀m t,gj Q (G (b.at (a.put o.dst undef) (.inRegion ops rest::k)) cs) w1 m t→Runs Q m t R)
 (hF:gj Q (G (b.at a (.inRegion ops (i::rest)::k)) cs) w m t):Runs Q m t R:=
 hF.go rfl (fun τ d=>⟨d,_,stepG_none ho hw hk (hr τ d),pR (qQ _ _ hc) (hr τ d)⟩) k1
theorem gj.enter{f:Q2}{fn:Func}{c:Code}{args:Array PG}(ho:ops[i]?=some o)(hw:Q8 o (yielded ops a.tmps)=true)(hk:b.kind≠.early)(hu:Hu Q (Q6 a.eval o))
 (hf:Q.funcs[f]?=some fn) (hb:fn.body=some c) (hr:∀τ d,(Q6 a.eval o).run Q (af w τ d)= .ok (.enter f args) (af w τ d))
 (k1:∀m t,gj Q (G ((base f).at {tmps:=args++Array.replicate (fn.ntmps-args.size) undef,defers:=[]} [.code c]) (b.at a (.inRegion ops (i::rest)::k)::cs)) w m t→Runs Q m t R)
 (hF:gj Q (G (b.at a (.inRegion ops (i::rest)::k)) cs) w m t):Runs Q m t R:=
 hF.go rfl (fun τ d=>⟨d,_,by rw[← enter_at args hf hb];exact stepG_enter ho hw hk (hr τ d),pR hu (hr τ d)⟩) k1
def cR(Q:If)(R:Machine→Trace→Prop)(g:AI)(w:By):Prop:=∀m t,gj Q g w m t→Runs Q m t R
theorem cR.ctl{g g1:AI}(h:∀w,stepG Q true g w= .go g1 w)(hr:g.status= .running)(k:cR Q R g1 w):cR Q R g w:=fun m t hF=>hF.ctl hr h k
theorem cR.value{v:PG}(w1:By)(ho:ops[i]?=some o)(hw:Q8 o (yielded ops a.tmps)=true)(hk:b.kind≠.early)(hc:∀c,o.op≠.call c)
 (hr:∀τ d,(Q6 a.eval o).run Q (af w τ d)= .ok (.value v) (af w1 τ d)) (k1:cR Q R (G (b.at (a.put o.dst v) (.inRegion ops rest::k)) cs) w1):cR Q R (G (b.at a (.inRegion ops (i::rest)::k)) cs) w:=fun m t hF=>hF.value ho hw hk hc hr k1
theorem cR.none(w1:By)(ho:ops[i]?=some o)(hw:Q8 o (yielded ops a.tmps)=true)(hk:b.kind≠.early)(hc:∀c,o.op≠.call c)
 (hr:∀τ d,(Q6 a.eval o).run Q (af w τ d)= .ok .skip (af w1 τ d)) (k1:cR Q R (G (b.at (a.put o.dst undef) (.inRegion ops rest::k)) cs) w1):cR Q R (G (b.at a (.inRegion ops (i::rest)::k)) cs) w:=fun m t hF=>hF.none ho hw hk hc hr k1
theorem cR.hire{d0:Qj}{f:Fn}{c:Array PG}(ho:ops[i]?=some o)(hw:Q8 o (yielded ops a.tmps)=true)(hk:b.kind≠.early)
 (hr:∀τ d,(Q6 a.eval o).run Q (af w τ d)= .ok (.spawn d0) (af w τ d)) (he:∀τ d,(Q6 a.eval o).events Q (af w τ d) #[]=#[]) (hd:d0.target= .fn f c)
 (H:∀gs sl q τ d t n,n≠0→dj Q n (G (b.at (a.put o.dst undef) (.inRegion ops rest::k)) cs) (born Q d0) gs q t→PT n (fun _=>False) (fun _=>False) t→Runs Q (crowd gs (af w τ d) sl) t R):cR Q R (G (b.at a (.inRegion ops (i::rest)::k)) cs) w:=
 fun m t hF=>hF.hire rfl (fun τ d=>⟨d,by rw[stepG_spawn ho hw hk (hr τ d) hd,listed_nil (he τ d)]⟩) H
end
end
theorem GB{α β:Type}{P:β→Prop}{f:α→β→Option (ForInStep β)}(hf:∀a b r,P b→f a b=some r→P (match r with | .done b=>b| .yield b=>b)):∀(l:List α)(b r:β),P b→forIn l b f=some r→P r:=by
 intro l;induction l with
 |nil=>intro b r hb h;simp at h;subst h;exact hb
 |cons a l ih=>
  intro b r hb h;rw[List.forIn_cons]at h;cases hx:f a b with
  |none=>rw[hx]at h;cases h
  |some x=>
   have h1:=hf a b x hb hx;rw[hx]at h;cases x with
   |done b'=>simp at h;subst h;exact h1
   |yield b'=>exact ih b' r h1 h
def pi(σ:Nat→Nat)(i:TypeInfo):Prop:=∀v,i.zero=some v→a7 σ v=v
theorem y9{σ:Nat→Nat}{v:PG}(h:a7 σ v=v):v.cells.map (a7 σ)=v.cells:=by
 rw[← gC,h]
theorem CH{σ:Nat→Nat}{cs:Array PG}(h:cs.map (a7 σ)=cs):a7 σ (.agg cs)= .agg cs:=by rw[dw,h]
theorem Bh{σ:Nat→Nat}{info:Qo→Option TypeInfo}(hi:∀t i,info t=some i→pi σ i){fs:Array Field}{i:TypeInfo}(h:Made.reckonStruct info fs=some i):pi σ i:=by
 unfold Made.reckonStruct at h;simp only[Qt,Qp,PL]at h;obtain⟨r,hr,h⟩:=h;rw[← Array.forIn_toList]at hr;have hP:=GB (P:=fun st:Array Field×Nat×Nat×Nat×Nat×Bool×Bool×Option (Array PG)×String=>∀vs,st.2.2.2.2.2.2.2.1=some vs→vs.map (a7 σ)=vs) ?_ _ _ _ (fun vs h0=>by cases h0;simp) hr
 ·have hz:∀j:TypeInfo,j.zero=Option.map Value.agg r.2.2.2.2.2.2.2.1→pi σ j:=fun j hj v hv=>by
   rw[hj]at hv;obtain⟨vs,h0,rfl⟩:=PE.1 hv;exact CH (hP vs h0)
  repeat' (first |split at h|(cases h;exact hz _ rfl))
 ·intro f st x hst hx;obtain⟨j,hj,hx⟩:=PL.1 hx;have key:∀vs,(if st.2.1+j.size>Made.mostCells then none else st.2.2.2.2.2.2.2.1.bind fun a=>j.zero.bind fun b=>some (a++b.cells))=some vs→vs.map (a7 σ)=vs:=fun vs h0=>by
   split at h0
   ·cases h0
   ·obtain⟨a,ha,h0⟩:=PL.1 h0;obtain⟨z,hz,h0⟩:=PL.1 h0;cases h0;rw[Array.map_append,hst a ha,y9 (hi _ _ hj z hz)]
  by_cases c1:j.str.isEmpty=true
  ·rw[if_pos c1]at hx;cases hx
  rw[if_neg c1]at hx;by_cases c2:f.embedded=true
  ·rw[if_pos c2]at hx;cases hx
  rw[if_neg c2]at hx;by_cases c3:f.tag.isEmpty=true
  ·rw[if_pos c3]at hx;obtain⟨tag,_,hx⟩:=PL.1 hx;by_cases c4:j.bytes=0
   ·rw[if_pos c4]at hx;cases hx;exact key
   ·rw[if_neg c4]at hx;cases hx;exact key
  ·rw[if_neg c3]at hx;obtain⟨tag,_,hx⟩:=PL.1 hx;by_cases c4:j.bytes=0
   ·rw[if_pos c4]at hx;cases hx;exact key
   ·rw[if_neg c4]at hx;cases hx;exact key
theorem BM{σ:Nat→Nat}{info:Qo→Option TypeInfo}(hi:∀t i,info t=some i→pi σ i){d:TypeDesc}{i:TypeInfo}(h:Made.reckon info d=some i):pi σ i:=by
 unfold Made.reckon at h;cases d;case struct fs=>exact Bh hi h
 case array n e=>
  simp only[Qt,Qp,PL]at h;obtain⟨j,hj,s,_,h⟩:=h;cases h;intro v hv;dsimp only at hv;split at hv
  ·cases hv
  split at hv
  ·cases hv;simp
  ·obtain⟨z,hz,rfl⟩:=PE.1 hv;refine CH ?_;rw[Array.map_flatten,Array.map_replicate,y9 (hi e j hj z hz)]
 all_goals
  simp only[Qt,Qp,PL]at h;repeat' (first |(obtain⟨_,_,h⟩:=h)|split at h)
  all_goals first
   |(intro v hv;cases hv;simp;done)
   |(cases h;done)
   |(cases h;intro v hv;cases hv;simp;done)
   |(generalize Made.spell _=o at h;cases o<;>cases h;intro v hv;cases hv;simp;done)
theorem BV{σ:Nat→Nat}{T:Tables}(h0:∀(t:Nat)(i:TypeInfo),T.types[t]?=some i→pi σ i):∀f t i,Made.infoAt T f t=some i→pi σ i:=by
 intro f;induction f with
 |zero=>intro t i h;cases h
 |succ f ih=>
  intro t i h;unfold Made.infoAt at h;split at h
  ·exact h0 t i h
  ·obtain⟨d,_,h⟩:=PL.1 h;exact BM ih h
def so:Nat→PG→Bool
 |0,_=>false
 |d+1,.agg cs=>cs.all (so d)
 |d+1,.tuple cs=>cs.all (so d)
 |_,v=>qa v
theorem Dy(σ:Nat→Nat):∀(d:Nat)(v:PG),so d v=true→a7 σ v=v:=by
 intro d;induction d with
 |zero=>intro v h;cases v<;>cases h
 |succ d ih=>
  intro v h;have hall:∀cs:Array PG,cs.all (so d)=true→cs.map (a7 σ)=cs:=fun cs hc=>by
   rw[QH]at hc;apply Array.ext
   ·simp
   ·intro i h1 h2;rw[Array.getElem_map];exact ih _ (hc i h2)
  cases v;case agg cs=>rw[dw,hall cs h]
  case tuple cs=>rw[fi,hall cs h]
  all_goals exact vu h σ
theorem Ls{Q:If}(h:(Q.types.all fun i=>match i.zero with |some v=>so 4 v|none=>true)=true)(σ:Nat→Nat):lk Q σ:=by
 have h0:∀(t:Nat)(i:TypeInfo),Q.types[t]?=some i→pi σ i:=fun t i ht v hv=>by
  rw[QH]at h;obtain⟨hlt,rfl⟩:=AT.1 ht;have:=h t hlt;rw[hv]at this;exact Dy σ 4 v this
 intro t i v ht hv;have h1:Q.toTables.info? t=some i:=ht;unfold Tables.info? at h1;split at h1
 ·exact h0 t i h1 v hv
 ·exact BV h0 _ t i h1 v hv
end Go.Proofs.YtkgohmcmmcpigaaGreatDoor
