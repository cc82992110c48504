/- A part of the proof that Within holds; no condition. -/
import Derived.Conc.EventLaws
import Derived.Conc.TokenWalk
import Derived.Conc.QuitsD
import Derived.Conc.Own2
import Derived.Conc.Own4
import Derived.Conc.CompanyWords
import Derived.Test.YtkgohmcmmcpigaaGreatDoorW04
set_option linter.unusedSectionVars false
set_option linter.unusedSimpArgs false
set_option linter.unusedVariables false
namespace Go.Proofs.YtkgohmcmmcpigaaGreatDoor
open Go
open _root_.Array renaming getElem?_setIfInBounds_ne->up,getElem?_eq_some_iff->x5,getElem?_map->If,getElem?_eq_getElem->Su,getElem?_setIfInBounds_self_of_lt->Sz,getElem?_push->SK,append_empty->SR,mem_iff_getElem->SV,getElem?_modify->SW,getElem?_setIfInBounds->SZ,getElem?_push_lt->T8,mem_push->Tb
open Go renaming Goroutine->AI,World->AT,Program->IS,callDeferred->No,deafBehind->OF,Frame->SG,execOp->SI,Event->SM,Value->T4,Question->T5
open Go.Conc renaming mem_ofEvents->AS,served->SD
open Go.GStep renaming after->By
open Go.MemOp renaming ofEvents->BY
open _root_.Option renaming map_eq_some_iff->IN,bind_eq_some_iff->IT,map_some->Sy,isSome_iff_exists->SN,elim->T7
open Go.Sem renaming runT->Sv,getObj->SX,runT_eq->T0,setObj->Tc
open Go.Instr renaming endRound->Sw,takeDeferred->SP,endLoop->T3,enterLoop->T6
open _root_.Classical renaming byContradiction->Sx
open Go.Builtin renaming close_->SC
open _root_.Nat renaming lt_of_lt_of_le->SE,strongRecOn->SL,eq_zero_or_pos->SO,le_trans->SY,le_refl->Te
open _root_.List renaming mem_toArray->SF,not_mem_nil->SU,mem_cons->T2
open Go.World renaming setChan->SH,farStore->T9,viewStore->Ti
open Go.Region renaming wanted->SJ
open _root_.Bool renaming false_eq_true->SQ,not_true->Td
open Go.MemAct renaming ofEvent->SS,touch?->T1
open Go.Kernel renaming perform->Ta
open Go.Frame renaming ofRow->Tf,enter->Tg
open Go.Extern renaming find->Th,findNext->Tk
open Go.Next renaming value->Tj
open _root_.Ne renaming symm->Tl
section
open Go.Conc
variable[aD]
structure tn(Q:IS)(β:Nat->Option Code)(K:AI->AT->Prop):Prop where
 run:∀g w,K g w->g.status= .running
 dep:∀g w,K g w->g.callers≠[]
 foul:∀g w,K g w->¬ qc Q β g
structure m8(Q:IS)(β:Nat->Option Code)(D0:SG):Prop extends C9 D0 where
 defers:∃f fn why,D0.defers=[{target:=.fn (.func f) #[],args:=#[]}]/\β f=some (.refuse why)/\Q.funcs[f]?=some fn
section
variable{Q:IS}{β:Nat->Option Code}{D0:SG}{K:AI->AT->Prop}
theorem FB(A:lf Q β){f c fn}(hb:β f=some c)(hfn:Q.funcs[f]?=some fn)(args w es):(callFunc f args).runT (alt Q β) w es=(.ok (.enter f args) w,es):=by
 show(match(alt Q β).funcs[f]? with
  |none=>stuck "call: no such function"
  |some fn=>_).runT (alt Q β) w es=_
 simp only[ft,hfn,Sy,j5,A.num f fn hfn];have e:(ax β f fn).body.isNone=false:=by simp[ax,hb]
 simp[e]
theorem Hd{g w}(hK:¬ K g w)(h:∀τ d,∃o w1,stepG (alt Q β) true g (ah w τ d)= .ended o w1)(T:Tree (alt Q β) K g w):False:=by
 cases T with
 |stop hk=>exact hK hk
 |step G W E hr hone htree=>
  obtain⟨o,w1,he⟩:=h w.tape w.drawn;cases hone w.tape w.drawn av<;>grind
theorem oO(hβ:gS β)(hK:tn Q β K){g w}(T:Tree (alt Q β) K g w)(h:qc Q β g):False:=
 Hd (λhk=>hK.foul _ _ hk h) (λτ d=>let⟨o,e⟩:=wR hβ h (ah w τ d);⟨o,_,e⟩) T
theorem nP(hK:tn Q β K){g w}(T:Tree (alt Q β) K g w):g.status= .running:=by
 cases T with
 |stop hk=>exact hK.run _ _ hk
 |step G W E hr _ _=>exact hr
theorem si(A:lf Q β)(hβ:gS β)(hK:tn Q β K)(hD:m8 Q β D0){g1 w1 es}(T:Tree (alt Q β) K g1 w1)(h:tP D0 (.go g1 w1 es)):False:=by
 rcases h with h|⟨hst,hdy,hcs,h⟩
 .exact h (nP hK T)
 have hkn:¬ K g1 w1:=λhk=>hK.dep _ _ hk hcs
 obtain⟨fr,cs,st,dy,off⟩:=g1;dsimp only at hst hdy hcs h;subst hst hdy hcs;rcases h with rfl|⟨chain,rfl⟩
 .refine Hd hkn (λτ d=> ?_) T;obtain⟨why,ht⟩:=hD.todo;refine⟨.unsupported (Unsupported.elab why) (fr.pos (alt Q β)),ah w1 τ d,?_⟩;unfold stepG;dsimp only;rw[hD.mode];simp_all[stepG.exec]
 .obtain⟨f,fn,why,hds,h1,hfn⟩:=hD.defers;cases T with
  |stop hk=>exact hkn hk
  |step G W E hr hone h0=>
   have hst:stepG (alt Q β) true {frame:= {D0 with mode:=.panicking chain},callers:=[],status:=.running,dying:=none,offers:=off} (ah w1 w1.tape w1.drawn)=
    By (seen (alt Q β) D0.fn #[]) (.go {frame:=Tg (alt Q β) f #[] .deferred,callers:=[{D0 with mode:=.panicking chain,defers:=[]}],status:=.running,dying:=none} (ah w1 w1.tape w1.drawn)):=by
    rw[hds];have:=oD (P:=alt Q β) (fr:= {D0 with mode:=.panicking chain,defers:=[]}) (cs:=[]) (f:=f) (args:=#[]) (cap:=#[]) (w:=ah w1 w1.tape w1.drawn) (FB A h1 hfn (#[]++ #[]) _ #[]);exact this
   have hnb:¬ Big (stepG (alt Q β) true {frame:= {D0 with mode:=.panicking chain},callers:=[],status:=.running,dying:=none,offers:=off} (ah w1 w1.tape w1.drawn)).es:=by
    rw[hst];exact bh (aN av) av
   have ho:=hone _ _ hnb;have ht:=h0 _ _ hnb;cases ho with
   |go hz=>
    rw[hst]at hz;simp only[By,GStep.go.injEq]at hz;obtain⟨h2,_,_⟩:=hz;refine oO hβ hK ht ?_;rw[<- h2];exact⟨f,#[],.deferred,rfl,by rw[h1];rfl,rfl,λd hd=>by cases hd⟩
   |comm hz _=>
    simp_all[By]
end
section
variable{Q:IS}{β:Nat->Option Code}{D0:SG}{dt:bM}{Ro:Nat->Prop}{os:Os}{rest:List SG}{K:AI->AT->Prop}
theorem Side.ah{cl p g g' w w'}(S:Side Q β D0 dt cl Ro os rest p g w g' w')(τ d):Side Q β D0 dt cl Ro os rest p g w g' (ah w' τ d):=
 ⟨S.part,S.gok,S.iv,S.ro,S.relG,λσ hσ=>by
  have h:=S.relW σ hσ;exact⟨h.inj,rfl,rfl,h.ro,h.blk,h.num,h.os⟩⟩
theorem Side.plain{cl p g g' w w'}(S:Side Q β D0 dt cl Ro os rest p g w g' w'):g.dying=none/\g.frame.roundOf=none/\(g.frame.kind= .normal\/g.frame.kind= .deferred)/\g.status= .running:=
 ⟨(S.relG _ (bL S.part 0)).dying.1,S.gok.frame.round,S.gok.frame.kind,(S.relG _ (bL S.part 0)).status.1⟩
theorem Side.after{cl p g g' w w' r cap s rc s2 rc2 b b2 tm}(S:Side Q β D0 dt cl Ro os rest p g w g' w')(hO:cG w r cap b s rc tm)(hf:lZ dt g.frame){v v'}(hv:∀σ,Ag p σ->v'=ab σ v):
 Side Q β D0 dt cl Ro os rest p {g with frame:=g.frame.finish v,status:=.running,offers:=none} (ay w r (.chan cap b2 false s2 rc2 tm)) {g' with frame:=g'.frame.finish v',status:=.running,offers:=none} w':=
 (S.fin hf hv).chan hO.1 rfl rfl
theorem Side.Ld{cl p g g' w w'}(S:Side Q β D0 dt cl Ro os rest p g w g' w')(τ d):Side Q β D0 dt cl Ro os rest p g (Go.Proofs.YtkgohmcmmcpigaaGreatDoor.ah w τ d) g' w':=⟨S.part,S.gok,fE S.iv τ d,S.ro,S.relG,S.relW⟩
theorem Side.frame{cl p g g' w w'}(S:Side Q β D0 dt cl Ro os rest p g w g' w'){f f'}(hf:ck Q dt cl f)(hk:f.kind=g.frame.kind)(ho:dg g.frame->dg f)(hr:∀σ,Ag p σ->f'=aC σ f):
 Side Q β D0 dt cl Ro os rest p {frame:=f,callers:=g.callers,status:=.running,dying:=none} w {frame:=f',callers:=g'.callers,status:=.running,dying:=none} w':=by
 refine⟨S.part,⟨hf,S.gok.callers,cJ g.callers.dropLast hk S.gok.stack,S.gok.last⟩,⟨S.iv.1,?_⟩,S.ro,λσ hσ=>⟨hr σ hσ,(S.relG σ hσ).callers,⟨rfl,rfl⟩,⟨rfl,rfl⟩⟩,S.relW⟩
 .rcases S.iv.2 with⟨⟨d,hd,_⟩,_⟩|⟨hj,hd⟩
  .rw[(S.relG _ (bL S.part 0)).dying.1]at hd;cases hd
  .exact .inr ⟨⟨ho hj.1,hj.2.1,nofun,nofun⟩,nofun⟩
theorem Side.NV{cl p g g' w w'}(S:Side Q β D0 dt cl Ro os rest p g w g' w')(t m):
 Side Q β D0 dt cl Ro os rest p {frame:=g.frame.raise [{v:=.iface t (strVal m),recovered:=false}],callers:=g.callers,status:=.running,dying:=none} w {frame:=g'.frame.raise [{v:=.iface t (strVal m),recovered:=false}],callers:=g'.callers,status:=.running,dying:=none} w':=by
 refine S.frame (S.gok.frame.raise _) (by grind [Frame.raise]) (λh=>gZ h _) λσ hσ=> ?_
 simp[(S.relG σ hσ).frame,j3,jn,strVal]
theorem Side.Nr{cl p g g' w w'}(S:Side Q β D0 dt cl Ro os rest p g w g' w'){d ds}(hd:g.frame.defers=d::ds):
 Side Q β D0 dt cl Ro os rest p {frame:= {g.frame with defers:=ds},callers:=g.callers,status:=.running,dying:=none} w {frame:= {g'.frame with defers:=g'.frame.defers.tail},callers:=g'.callers,status:=.running,dying:=none} w':=by
 have hg:=S.gok.frame;refine S.frame ⟨hg.round,hg.items,hg.regs,λx hx=>hg.defs x (by grind),hg.kind,hg.init⟩ rfl (λh=>⟨h.1,λx hx=>h.2 x (by grind)⟩) λσ hσ=> ?_
 rw[(S.relG σ hσ).frame];simp_all[aC]
section
variable{P:IS}{fr:SG}{cs:List SG}{w:AT}{a:Array TypeId}{t:TypeId}{c:Array Bool}{r:Nat}
theorem It{m st off}(hm:fr.mode= .run->False){d ds}(hd:fr.defers=d::ds)(ht:d.target= .builtin .close a t c)(ha:d.args=#[.chan (some r)]):
 stepG P m {frame:=fr,callers:=cs,status:=st,dying:=none,offers:=off} w=No P {fr with defers:=ds} cs none ⟨.builtin .close a t c,#[.chan (some r)]⟩ w:=by
 obtain⟨dt,da⟩:=d;simp_all[stepG,unwind]
theorem NS{v w1 es}(h:(SC a t #[.chan (some r)]).runT P w #[]=(.ok v w1,es)):(invoke (.builtin .close a t c) #[.chan (some r)]).runT P w #[]=(.ok (.value v) w1,es):=by
 show(SC a t #[.chan (some r)]>>=λv=>pure (Tj v)).runT P w #[]=_;rw[aM,h];rfl
theorem BN{x w1 es}(h:(SC a t #[.chan (some r)]).runT P w #[]=(.halt x w1,es)):(invoke (.builtin .close a t c) #[.chan (some r)]).runT P w #[]=(.halt x w1,es):=by
 show(SC a t #[.chan (some r)]>>=λv=>pure (Tj v)).runT P w #[]=_;rw[aM,h]
theorem KC{cap s rc b tm}(h:w.heap[r]?=some (.chan cap b false s rc tm)):
 ∃es,¬ Big es/\No P fr cs none ⟨.builtin .close a t c,#[.chan (some r)]⟩ w=By es (.go {frame:=fr,callers:=cs,status:=.running,dying:=none} (ay w r (.chan cap b true s rc tm))):=by
 refine⟨seen P fr.fn ((#[].push ⟨.obj r,false,true⟩).push ⟨.obj r,true,true⟩),aN av,?_⟩
 .have h1:=NS (c:=c) (show(SC a t #[.chan (some r)]).runT P w #[]=(.ok (.tuple #[]) (ay w r (.chan cap b true s rc tm)),(#[].push ⟨.obj r,false,true⟩).push ⟨.obj r,true,true⟩)from by
   rw[T0,run_close_open _ _ h,events_close_open _ _ h];rfl)
  simp_all[No]
theorem Kz{cap s rc b tm}(h:w.heap[r]?=some (.chan cap b true s rc tm)):
 ∃es,¬ Big es/\No P fr cs none ⟨.builtin .close a t c,#[.chan (some r)]⟩ w=By es (.go {frame:=fr.raise [{v:=.iface P.rt.plainError (strVal "close of closed channel"),recovered:=false}],callers:=cs,status:=.running,dying:=none} w):=by
 refine⟨seen P fr.fn (#[].push ⟨.obj r,false,true⟩),aN av,?_⟩
 .have h1:=BN (c:=c) (show(SC a t #[.chan (some r)]).runT P w #[]=(.halt (.panic (.iface P.rt.plainError (strVal "close of closed channel"))) w,#[].push ⟨.obj r,false,true⟩)from by
   simp[close_some,run_getObj_chan _ _ h,events_getObj_chan _ _ _ h];exact⟨rfl,rfl⟩)
  simp_all[No]
theorem BM(h:∀o,w.heap[r]?=some o->o.isChan=false):∃es o,¬ Big es/\No P fr cs none ⟨.builtin .close a t c,#[.chan (some r)]⟩ w=By es (.ended o w):=by
 have key:∃s es,¬ Big es/\(SC a t #[.chan (some r)]).runT P w #[]=(.halt (.stuck s) w,es):=by
  rw[close_some];cases ho:w.heap[r]? with
  |none=>exact⟨_,_,av,by simp only[getObj,bind,Sem.bind,Sv,ho];rfl⟩
  |some o=>
   have hc:=h o ho;cases o;case chan=>cases hc
   case cells=>exact⟨_,_,av,by simp only[getObj,bind,Sem.bind,Sv,ho];rfl⟩
   all_goals
    refine⟨"close: no channel in this block",(#[]:Array SM).push ⟨.obj r,false,false⟩,?_,?_⟩;rotate_left
    .simp only[getObj,bind,Sem.bind,Sv,ho];rfl
    .exact av
 obtain⟨s,es,hb,hr⟩:=key;have h1:=BN (c:=c) hr;refine⟨seen P fr.fn es,.stuck s (fr.pos P),aN hb,?_⟩;simp_all[No]
end
theorem shut_tree(E:mS Q β dt true)(hβ:gS β)(hK:tn Q β K)(hD:m8 Q β D0){r}(hc:∀g w,K g w->¬ jZ w r){g w}(T:Tree (alt Q β) K g w):
 ∀p g' w',Side Q β D0 dt true Ro os rest p g w g' w'->jZ w r->False:=by
 induction T with
 |stop hk=>exactλp g' w' S hO=>hc _ _ hk hO
 | @step g w G W E0 hr hone h4 ih=>
  intro p g' w' S hO;have hd:jZ (Go.Proofs.YtkgohmcmmcpigaaGreatDoor.ah w w'.tape w'.drawn) r:=hO;have h8:=S.plain;by_cases h9:AtClose g
  .obtain⟨hm,d,ds,a,t,c,r',h1,h2,h3⟩:=h9;have hst:∀w2,stepG (alt Q β) true g w2=No (alt Q β) {g.frame with defers:=ds} g.callers none ⟨.builtin .close a t c,#[.chan (some r')]⟩ w2:=λw2=>by
    obtain⟨fr,cs,st,dy,off⟩:=g;dsimp only at h8 hm h1;obtain⟨rfl,_⟩:=h8;exact It hm h1 h2 h3
   by_cases hch:∃o,w.heap[r']?=some o/\o.isChan=true
   .obtain⟨o,ho,hoc⟩:=hch;have:=hO.2 r' o ho hoc;subst this;obtain⟨⟨cap,b,s,rc,tm,h0⟩,_⟩:=hO;obtain⟨es,hb,hes⟩:=Kz (P:=alt Q β) (fr:= {g.frame with defers:=ds}) (cs:=g.callers) (a:=a) (t:=t) (c:=c) (w:=Go.Proofs.YtkgohmcmmcpigaaGreatDoor.ah w w'.tape w'.drawn) h0;have hnb:¬ Big (stepG (alt Q β) true g (Go.Proofs.YtkgohmcmmcpigaaGreatDoor.ah w w'.tape w'.drawn)).es:=by rw[hst,hes];exact bh hb av
    have ho:=hone _ _ hnb;have hi:=ih _ _ hnb;cases ho with
    |go hz=>
     rw[hst,hes]at hz;simp only[By,GStep.go.injEq]at hz;obtain⟨h5,h6,_⟩:=hz;rw[<- h5,<- h6]at hi;exact hi p _ w' (((S.Ld w'.tape w'.drawn).Nr h1).NV _ _) hd
    |comm hz _=>rw[hst,hes]at hz;grind [By]
   .obtain⟨es,o,hb,hes⟩:=BM (P:=alt Q β) (fr:= {g.frame with defers:=ds}) (cs:=g.callers) (a:=a) (t:=t) (c:=c) (r:=r') (w:=Go.Proofs.YtkgohmcmmcpigaaGreatDoor.ah w w'.tape w'.drawn) λo ho=>by
     simp_all
    have hnb:¬ Big (stepG (alt Q β) true g (Go.Proofs.YtkgohmcmmcpigaaGreatDoor.ah w w'.tape w'.drawn)).es:=by rw[hst,hes];exact bh hb av
    have ho:=hone _ _ hnb;cases ho with
    |go hz=>rw[hst,hes]at hz;simp_all[By]
    |comm hz _=>rw[hst,hes]at hz;simp_all[By]
  have hstep:=oP hD.toC9 E S false h9;rcases hstep with⟨g1,w1,es,g1',w1',es',p',hx,_,S1,hE,hnb⟩|⟨g1,c,sh,w1,es,g1',c',w1',es',p',hx,_,hC,hFin,S1,hcr,hE,hnb⟩|⟨g1,w1,es,hx,hf,hnb⟩|⟨h,_⟩|⟨hl,hnb⟩
  .have ho:=hone _ _ hnb;have hi:=ih _ _ hnb;cases ho with
   |go hz=>
    rw[hx]at hz;simp only[GStep.go.injEq]at hz;obtain⟨h5,h6,_⟩:=hz;rw[<- h5,<- h6]at hi;exact hi p' g1' w1' S1 (hO.kinds hE.kinds hE.grown.le)
   |comm hz _=>rw[hx]at hz;cases hz
  .have ho:=hone _ _ hnb;have hi:=ih _ _ hnb;have hru:=nP hK (h4 _ _ hnb);cases ho with
   |go hz=>rw[hx]at hz;cases hz
   |comm hz he=>
    rw[hx]at hz;simp only[GStep.comm.injEq]at hz;obtain⟨rfl,rfl,rfl,rfl,rfl,rfl⟩:=hz;obtain⟨_,c0,hc0,hc1⟩:=hC;have hcc:c0=c:=by simpa using hc0.symm
    subst hcc;rcases hc1 with⟨_,rfl,hg⟩|⟨h,_⟩
    .obtain⟨v,hv⟩:=SN.1 hg;have ha:=hO.kinds hE.kinds hE.grown.le;obtain⟨e2,e3⟩:=Fo ha hv he hru;have h7:=S1.plain;rw[e2,e3]at hi;have hb:=S1.NV (alt Q β).rt.plainError "send on closed channel";obtain⟨fr1,cs1,st1,dy1,off1⟩:=g1;dsimp only at h7 hi hb;obtain⟨rfl,_,_,rfl⟩:=h7;exact hi p' _ w1' ⟨hb.part,⟨hb.gok.frame,hb.gok.callers,hb.gok.stack,hb.gok.last⟩,hb.iv,hb.ro,λσ hσ=>let h:=hb.relG σ hσ;⟨h.frame,h.callers,h.dying,h.status⟩,hb.relW⟩ ha
    .cases h
  .exfalso;have ho:=hone _ _ hnb;have ht:=h4 _ _ hnb;cases ho with
   |go hz=>
    rw[hx]at hz;simp only[GStep.go.injEq]at hz;obtain⟨h5,h6,_⟩:=hz;rw[<- h5]at ht;exact oO hβ hK ht hf
   |comm hz _=>rw[hx]at hz;cases hz
  .cases h
  .exfalso;have ho:=hone _ _ hnb;have ht:=h4 _ _ hnb;cases ho with
   |go hz=>
    rw[hz]at hl;exact si E.apt hβ hK hD ht hl
   |comm hz _=>rw[hz]at hl;exact hl
theorem uz(E:mS Q β dt true)(hβ:gS β)(hK:tn Q β K)(hD:m8 Q β D0){r cap rc tm}(h6:∀g w,K g w->∃b s,w.heap[r]?=some (.chan cap b false s rc tm)){g w}(T:Tree (alt Q β) K g w)(h7:AtClose g)
 {p g' w' b s} (S:Side Q β D0 dt true Ro os rest p g w g' w') (hO:cG w r cap b s rc tm):K g w:=by
 cases T with
 |stop hk=>exact hk
 |step G W E0 hr hone h4=>
  exfalso;have h5:=S.plain;obtain⟨hm,d,ds,a,t,c,r',h1,h2,h3⟩:=h7;have hst:∀w2,stepG (alt Q β) true g w2=No (alt Q β) {g.frame with defers:=ds} g.callers none ⟨.builtin .close a t c,#[.chan (some r')]⟩ w2:=λw2=>by
   obtain⟨fr,cs,st,dy,off⟩:=g;dsimp only at h5 hm h1;obtain⟨rfl,_⟩:=h5;exact It hm h1 h2 h3
  by_cases hch:∃o,w.heap[r']?=some o/\o.isChan=true
  .obtain⟨o,ho,hoc⟩:=hch;have:=hO.2 r' o ho hoc;subst this;obtain⟨es,hb,hes⟩:=KC (P:=alt Q β) (fr:= {g.frame with defers:=ds}) (cs:=g.callers) (a:=a) (t:=t) (c:=c) (w:=Go.Proofs.YtkgohmcmmcpigaaGreatDoor.ah w w'.tape w'.drawn) hO.1;have hnb:¬ Big (stepG (alt Q β) true g (Go.Proofs.YtkgohmcmmcpigaaGreatDoor.ah w w'.tape w'.drawn)).es:=by rw[hst,hes];exact bh hb av
   have ho:=hone _ _ hnb;have ht:=h4 _ _ hnb;cases ho with
   |go hz=>
    rw[hst,hes]at hz;simp only[By,GStep.go.injEq]at hz;obtain⟨h8,h9,_⟩:=hz;rw[<- h8,<- h9]at ht;have hlt:=(x5.1 hO.1).1;refine shut_tree (r:=r') E hβ hK hD (λg w hk ha=> ?_) ht p _ w' (((S.Ld w'.tape w'.drawn).Nr h1).chan (r:=r') hO.1 rfl rfl) ⟨⟨cap,b,s,rc,tm,by simp[ay,ah,hlt]⟩,λi o ho hc=> ?_⟩
    .obtain⟨b2,s2,hO2⟩:=h6 g w hk;obtain⟨⟨_,_,_,_,_,h0⟩,_⟩:=ha<;>grind
    .by_cases hi:r'=i
     .exact hi.symm
     .simp only[ay]at ho;rw[up hi]at ho;exact hO.2 i o ho hc
   |comm hz _=>rw[hst,hes]at hz;simp_all[By]
  .obtain⟨es,o,hb,hes⟩:=BM (P:=alt Q β) (fr:= {g.frame with defers:=ds}) (cs:=g.callers) (a:=a) (t:=t) (c:=c) (r:=r') (w:=Go.Proofs.YtkgohmcmmcpigaaGreatDoor.ah w w'.tape w'.drawn) λo ho=>by
    cases hc:o.isChan
    .rfl
    .exact absurd ⟨o,ho,hc⟩ hch
   have hnb:¬ Big (stepG (alt Q β) true g (Go.Proofs.YtkgohmcmmcpigaaGreatDoor.ah w w'.tape w'.drawn)).es:=by rw[hst,hes];exact bh hb av
   have ho:=hone _ _ hnb;cases ho with
   |go hz=>rw[hst,hes]at hz;simp only[By]at hz;cases hz
   |comm hz _=>rw[hst,hes]at hz;simp only[By]at hz;cases hz
theorem leaf(E:mS Q β dt true)(hβ:gS β)(hK:tn Q β K)(hD:m8 Q β D0){r cap rc tm}(h7:∀g w,K g w->∃b s,w.heap[r]?=some (.chan cap b false s rc tm)){g w}(T:Tree (alt Q β) K g w):
 ∀p g' w' b s,Side Q β D0 dt true Ro os rest p g w g' w'->cG w r cap b s rc tm->∃g2 w2 l s2,K g2 w2/\cG w2 r cap (b++l) s2 rc tm/\w.heap.size<=w2.heap.size/\∀i,i<w.heap.size->aJ w2 i->aJ w i:=by
 induction T with
 |stop hk=>exactλp g' w' b s S hO=>⟨_,_,#[],s,hk,by simpa using hO,Te _,λi _ h=>h⟩
 | @step g w G W E0 hr hone h0 ih=>
  intro p g' w' b s S hO;by_cases h5:AtClose g
  .have hk:=uz E hβ hK hD h7 (.step G W E0 hr hone h0) h5 S hO;exact⟨g,w,#[],s,hk,by simpa using hO,Te _,λi _ h=>h⟩
  have hstep:=oP hD.toC9 E S false h5;have hkeep:∀{p':Part}{w1 w1':AT}{es:Array SM},Eff p p' Ro w w' w1 w1' es->∀w2,w1.heap.size<=w2.heap.size->(∀i,i<w1.heap.size->aJ w2 i->aJ w1 i)->∀i,i<w.heap.size->aJ w2 i->aJ w i:=λ{p' w1 w1' es} hE w2 hle h i hi hc=>by
   obtain⟨c,t,f,h1⟩:=h i (SE hi hE.grown.le) hc;rcases hE.kinds i _ h1 with⟨h2,_⟩|⟨h2,_⟩|h2
   .omega
   .exact h2
   .exact⟨c,t,f,h2⟩
  rcases hstep with⟨g1,w1,es,g1',w1',es',p',hx,_,S1,hE,hnb⟩|⟨g1,c,sh,w1,es,g1',c',w1',es',p',hx,_,hC,hFin,S1,hcr,hE,hnb⟩|⟨g1,w1,es,hx,hf,hnb⟩|⟨h,_⟩|⟨hl,hnb⟩
  .have ho:=hone _ _ hnb;have hi:=ih _ _ hnb;cases ho with
   |go hz=>
    rw[hx]at hz;simp only[GStep.go.injEq]at hz;obtain⟨h4,h6,_⟩:=hz;rw[<- h4,<- h6]at hi;obtain⟨g2,w2,l,s2,k1,k2,k3,k4⟩:=hi p' g1' w1' b s S1 (hO.kinds hE.kinds hE.grown.le);exact⟨g2,w2,l,s2,k1,k2,SY hE.grown.le k3,hkeep hE w2 k3 k4⟩
   |comm hz _=>rw[hx]at hz;cases hz
  .have ho:=hone _ _ hnb;have hi:=ih _ _ hnb;have hru:=nP hK (h0 _ _ hnb);cases ho with
   |go hz=>rw[hx]at hz;cases hz
   |comm hz h8=>
    rw[hx]at hz;simp only[GStep.comm.injEq]at hz;obtain⟨rfl,rfl,rfl,rfl,rfl,rfl⟩:=hz;obtain⟨_,c0,hc0,hc1⟩:=hC;have hcc:c0=c:=by simpa using hc0.symm
    subst hcc;rcases hc1 with⟨_,rfl,h9⟩|⟨h,_⟩
    .obtain⟨v,hv⟩:=SN.1 h9;have h3:=hO.kinds hE.kinds hE.grown.le;obtain⟨e1,e2,e3⟩:=wO h3 hv h8 hru;rw[e2,e3]at hi;have S2:=S1.after (b2:=b.push v) (s2:=s+1) (rc2:=rc) h3 hFin (v:=undef) (v':=undef) λσ _=>jl.symm
     obtain⟨g2,w2,l,s2,k1,k2,k3,k4⟩:=hi p' _ w1' (b.push v) (s+1) S2 (h3.to (s+1) rc);have hsz:(ay w1 r (.chan cap (b.push v) false (s+1) rc tm)).heap.size=w1.heap.size:=by simp[ay]
     rw[hsz]at k3 k4;refine⟨g2,w2,#[v]++l,s2,k1,?_,SY hE.grown.le k3,hkeep hE w2 k3 λi ha hc=> ?_⟩
     .have:b++(#[v]++l)=b.push v++l:=by rw[<- Array.append_assoc];simp
      rw[this];exact k2
     .obtain⟨cc,t,f,h⟩:=k4 i ha hc;have hne:r≠i:=λe=>by
       subst e;have:=(h3.to (b2:=b.push v) (s+1) rc).1;rw[this]at h;cases h
      have:(ay w1 r (.chan cap (b.push v) false (s+1) rc tm)).heap[i]?=w1.heap[i]?:=by simp only[ay];rw[up hne]
      exact⟨cc,t,f,this▸h⟩
    .cases h
  .exfalso;have ho:=hone _ _ hnb;have ht:=h0 _ _ hnb;cases ho with
   |go hz=>
    rw[hx]at hz;simp only[GStep.go.injEq]at hz;obtain⟨h4,h6,_⟩:=hz;rw[<- h4]at ht;exact oO hβ hK ht hf
   |comm hz _=>rw[hx]at hz;cases hz
  .cases h
  .exfalso;have ho:=hone _ _ hnb;have ht:=h0 _ _ hnb;cases ho with
   |go hz=>
    rw[hz]at hl;exact si E.apt hβ hK hD ht hl
   |comm hz _=>rw[hz]at hl;exact hl
end
def TT(κ:Nat->Nat)(Ro:Nat->Prop)(w:AT)(a:Touch):Prop:=
 (∀x,a.loc= .cell x->∃i,x.block=κ i/\aJ w i/\(a.write=true->¬ Ro i))/\∀r,a.loc= .obj r->a.write=false
theorem ys{κ Ro w e}(h:Oe κ Ro w e){b}(hb:(SS e).touch?=some b):TT κ Ro w b:=by
 obtain⟨loc,wr,sy⟩:=e;have key:b=⟨loc,wr,if sy then .atomic else .plain⟩->TT κ Ro w b:=λe=>by
  subst e;exact⟨λx hx=>h.cell x hx,λr hr=>h.obj r hr⟩
 cases loc;case mark m=>
  have hm:=h.mark m rfl;cases m<;>first |exact hm.1.elim|(simp[SS,T1]at hb)
 case obj r=>
  have:=h.obj r rfl;simp_all[SS,T1]
 all_goals
  simp[SS,T1]at hb;exact key hb.symm
theorem yt{κ Ro w i fn pos es}(h:∀e∈es,Oe κ Ro w e):Quiet (BY i fn pos es):=λg op hop d=>by
 obtain⟨e,he,rfl⟩:=AS hop;have hr:=h e he;obtain⟨loc,wr,sy⟩:=e;cases loc;case mark m=>
  have hm:=hr.mark m rfl;cases m<;>first |exact hm.1.elim|rfl
 case obj r=>cases wr<;>cases sy<;>rfl
 all_goals rfl
theorem ofEvents_g{i fn pos es}:∀op∈BY i fn pos es,op.g=i:=λop hop=>by
 obtain⟨e,_,rfl⟩:=AS hop;rfl
section
variable{Q:IS}{β:Nat->Option Code}{D0:SG}{dt:bM}{cl:Bool}{Ro:Nat->Prop}{os:Os}{rest:List SG}{p p':Part}{g g' g1 g1':AI}{w w' w1 w1':AT}{es':Array SM}
theorem Side.real(S:Side Q β D0 dt cl Ro os rest p g w g' w'){i}(h:aJ w i):∃c e f,w'.heap[p.κ i]?=some (.cells c e f):=by
 obtain⟨c,t,f,hc⟩:=h;have hB:=(S.relW _ (bL S.part 0)).blk i _ hc;rw[(bL S.part 0).2 i (S.cells ⟨c,t,f,hc⟩)]at hB;by_cases hr:Ro i
 .obtain⟨f',h,_⟩:=(hB.1 hr).2<;>grind
 .exact⟨_,_,_,hB.2 hr⟩
theorem Side.EX(S:Side Q β D0 dt cl Ro os rest p g w g' w'){i a l}(h:w.heap[i]?=some (.number a l)):∃a',w'.heap[p.κ i]?=some (.number a' l):=by
 have hB:=(S.relW _ (bL S.part 0)).blk i _ h;rw[(bL S.part 0).2 i (sQ S.part S.relW h trivial)]at hB;exact⟨_,hB⟩
theorem Eff.turned(S:Side Q β D0 dt cl Ro os rest p g w g' w')(S1:Side Q β D0 dt cl Ro os rest p' g1 w1 g1' w1')(hE:Eff p p' Ro w w' w1 w1' es'){b}(hb:b<w'.heap.size)(hne:w1'.heap[b]?≠w'.heap[b]?):
 ∃i,p.κ i=b/\p'.κ i=b/\aJ w i/\aJ w1 i/\¬ Ro i:=by
 obtain⟨i,hi,hc,hr⟩:=hE.frame b hb hne;rcases hE.grown.new i (S1.cells hc)with hk|⟨_,h⟩
 .obtain⟨c,t,f,h1⟩:=hc;have hdom:=S.part.dom i hk;refine⟨i,(hE.grown.old i hk).2.symm.trans hi,hi,?_,⟨c,t,f,h1⟩,hr⟩;rcases hE.kinds i _ h1 with⟨h2,_⟩|⟨h2,_⟩|h2
  .omega
  .exact h2
  .exact⟨c,t,f,h2⟩
 omega
theorem Eff.Ea(hE:Eff p p' Ro w w' w1 w1' es'){i}(h:aJ w i):aJ w1 i:=by
 obtain⟨c,t,f,hc⟩:=h;have hlt:=(x5.1 hc).1;have h1:=Su (SE hlt hE.grown.le);rcases hE.kinds i _ h1 with⟨h2,_⟩|⟨_,c2,t2,f2,h2⟩|h2
 .omega
 .exact⟨c2,t2,f2,by rw[h1,h2]⟩
 .exact⟨c,t,f,by grind⟩
theorem Eff.pr(S:Side Q β D0 dt cl Ro os rest p g w g' w')(S1:Side Q β D0 dt cl Ro os rest p' g1 w1 g1' w1')(hE:Eff p p' Ro w w' w1 w1' es'){i}(h:aJ w1 i):aJ w i/\p'.κ i=p.κ i\/w'.heap.size<=p'.κ i:=by
 rcases hE.grown.new i (S1.cells h)with hk|⟨_,h2⟩
 .refine .inl ⟨?_,(hE.grown.old i hk).2⟩;obtain⟨c,t,f,h1⟩:=h;have hdom:=S.part.dom i hk;rcases hE.kinds i _ h1 with⟨h2,_⟩|⟨h2,_⟩|h2
  .omega
  .exact h2
  .exact⟨c,t,f,h2⟩
 omega
end
structure Duo where
 Q:IS
 βA:Nat->Option Code
 βB:Nat->Option Code
 DA:SG
 DB:SG
 dtA:bM
 dtB:bM
 RoA:Nat->Prop
 RoB:Nat->Prop
 os:Os
 restA:List SG
 restB:List SG
 k:Nat
 rA:Nat
 rB:Nat
 capA:Nat
 capB:Nat
 tmA:Bool
 tmB:Bool
 rcB:Nat
 c:Nat
 eA:Nat
 TA:Array T4
 N0:Nat
 h0:Array Obj
 out0:Array (Nat×ByteArray)
 MA:Nat->Prop
 MB:Nat->Prop
 cls:Bool
 lo:Nat
def zz(Z:Duo)(i:Nat)(a b:T4)(w:AT):Prop:=
 (∀σ τ,ab σ a=ab τ b)\/(i+1=Z.TA.size/\∃e,Z.lo<e/\aJ w e/\¬ Z.RoB e/\(∀σ τ,σ Z.eA=τ e->ab σ a=ab τ b)/\∀σ τ,ab σ b=ab τ b->σ e=τ e)
structure Inv2(Z:Duo)(n:Nat)(pA:Part)(gA:AI)(wA:AT)(gA':AI)(pB:Part)(gB:AI)(wB:AT)(gB':AI)(w':AT)(t:Trace):Prop where
 SA:Side Z.Q Z.βA Z.DA Z.dtA false Z.RoA Z.os Z.restA pA gA wA gA' w'
 SB:Side Z.Q Z.βB Z.DB Z.dtB true Z.RoB Z.os Z.restB pB gB wB gB' w'
 cA:∃s rc,cG wA Z.rA Z.capA (Z.TA.extract n Z.TA.size) s rc Z.tmA
 cB:∃b s,cG wB Z.rB Z.capB b s Z.rcB Z.tmB/\b.size=n
 kA:pA.K Z.rA/\pA.κ Z.rA=Z.c
 kB:pB.K Z.rB/\pB.κ Z.rB=Z.c
 ch:∃tm,w'.heap[Z.c]?=some (.chan 0 #[] Z.cls n n tm)
 eA:Z.eA<wA.heap.size/\(∀o,wA.heap[Z.eA]?=some o->¬ jv o)/\(n<Z.TA.size->¬ pA.K Z.eA)
 nT:n<=Z.TA.size
 oth:∀i,pA.K i->(∃o,wA.heap[i]?=some o/\jv o)\/(∃j,j<=Z.lo/\pB.K j/\pB.κ j=pA.κ i)\/i=Z.rA\/i=Z.eA
 disj:∀i j,aJ wA i->aJ wB j->pA.κ i=pB.κ j->Z.RoA i/\Z.RoB j
 tr:PT Z.k (TT pA.κ Z.RoA wA) (TT pB.κ Z.RoB wB) t
 mA:∀i,aJ wA i->¬ Z.RoA i->pA.κ i<Z.N0->Z.MA (pA.κ i)
 mB:∀i,aJ wB i->¬ Z.RoB i->pB.κ i<Z.N0->Z.MB (pB.κ i)
 fr:∀b,b<Z.N0->b≠Z.c->¬ Z.MA b->¬ Z.MB b->w'.heap[b]?=Z.h0[b]?
 nz:Z.N0<=w'.heap.size
 out:w'.output=Z.out0
 val:∃b s,cG wB Z.rB Z.capB b s Z.rcB Z.tmB/\∀(i:Nat)(x y:T4),Z.TA[i]?=some x->b[i]?=some y->∀σ τ,Ag pA σ->Ag pB τ->ab σ x=ab τ y
section
variable{Z:Duo}{n:Nat}{pA pB p':Part}{gA gA' gB gB' g1 g1':AI}{wA wB w' w1 w1':AT}{t:Trace}{es':Array SM}
theorem vr{wA wB}(hd:∀i j,aJ wA i->aJ wB j->pA.κ i=pB.κ j->Z.RoA i/\Z.RoB j):Apart (TT pA.κ Z.RoA wA) (TT pB.κ Z.RoB wB):=by
 intro a b ha hb hl hm;obtain⟨la,wra,ka⟩:=a;obtain⟨lb,wrb,kb⟩:=b;subst hl;cases la with
 |cell x=>
  obtain⟨i,hi,hci,hri⟩:=ha.1 x rfl;obtain⟨j,hj,hcj,hrj⟩:=hb.1 x rfl<;>grind
 |obj r=>exact⟨ha.2 r rfl,hb.2 r rfl⟩
 |_=>cases hm
theorem Ag.less{p q σ}(h:Ag q σ)(ho:∀i,p.K i->q.K i/\q.κ i=p.κ i):Ag p σ:=⟨h.1,λi hi=>(h.2 i (ho i hi).1).trans (ho i hi).2⟩
theorem Inv2.Br(I:Inv2 Z n pA gA wA gA' pB gB wB gB' w' t)(S1:Side Z.Q Z.βA Z.DA Z.dtA false Z.RoA Z.os Z.restA p' g1 w1 g1' w1')(hE:Eff pA p' Z.RoA wA w' w1 w1' es')(fn pos):
 Inv2 Z n p' g1 w1 g1' pB gB wB gB' w1' (t++BY 0 fn pos es'):=by
 have hturn:∀b,b<w'.heap.size->w1'.heap[b]?≠w'.heap[b]?->_:=λb hb hne=>hE.turned I.SA S1 hb hne
 obtain⟨tm,hch⟩:=I.ch;have hclt:=(x5.1 hch).1;have h0:w1'.heap[Z.c]?=w'.heap[Z.c]?:=Sx λhne=>by
  obtain⟨i,h1,_,h3,_,_⟩:=hturn Z.c hclt hne;obtain⟨c,e,f,h⟩:=I.SA.real h3<;>grind
 have hdisj:∀i j,aJ w1 i->aJ wB j->p'.κ i=pB.κ j->Z.RoA i/\Z.RoB j:=λi j hi hj h=>by
  rcases hE.pr I.SA S1 hi with⟨h1,h2⟩|h1
  .exact I.disj i j h1 hj (h2.symm.trans h)
  .have:=I.SB.part.ran j (I.SB.cells hj);omega
 have hTA:∀a,TT pA.κ Z.RoA wA a->TT p'.κ Z.RoA w1 a:=λa ha=>⟨λx hx=>by
  obtain⟨i,h1,h2,h3⟩:=ha.1 x hx;exact⟨i,h1.trans (hE.grown.old i (I.SA.cells h2)).2.symm,hE.Ea h2,h3⟩,ha.2⟩
 have hmA:∀i,aJ w1 i->¬ Z.RoA i->p'.κ i<Z.N0->Z.MA (p'.κ i):=λi hi hr hlt=>by
  rcases hE.pr I.SA S1 hi with⟨h1,h2⟩|h1
  .rw[h2]at hlt ⊢;exact I.mA i h1 hr hlt
  .have:=I.nz;omega
 refine⟨S1,I.SB.keep hE.grown.le' hE.os (λj hj=> ?_) ⟨rfl,rfl,rfl,(I.SB.relG _ (bL I.SB.part 0)).status.2⟩,?_,I.cB,?_,I.kB,⟨tm,h0.trans hch⟩,⟨SE I.eA.1 hE.grown.le,λo ho hn=> ?_,λhlt hk=> ?_⟩,I.nT,λi hi=> ?_,hdisj,?_,hmA,I.mB,λb hb hc h1 h2=> ?_,SY I.nz hE.grown.le',hE.output.trans I.out,let⟨b,s,h1,h2⟩:=I.val;⟨b,s,h1,λi x y hx hy σ τ hσ hτ=>h2 i x y hx hy σ τ (hσ.less hE.grown.old) hτ⟩⟩
 .by_cases hsame:w1'.heap[pB.κ j]?=w'.heap[pB.κ j]?
  .exact .inl hsame
  .obtain⟨i,h1,h2,h3,h4,h5⟩:=hturn _ (I.SB.part.ran j hj) hsame;obtain⟨c,e,f,hr⟩:=I.SA.real h3;obtain⟨c2,e2,f2,hr2⟩:=S1.real h4;refine .inr ⟨λo ho hn=> ?_,.cells c2 e2 f2,by rw[<- h2];omega,trivial,.inl ⟨_,_,_,rfl⟩⟩;cases o;case cells cc ee ff=>exact h5 (I.disj i j h3 ⟨cc,ee,ff,ho⟩ h1).1
   case number a l=>
    obtain⟨a',ha⟩:=I.SB.EX ho<;>grind
   all_goals exact hn
 .obtain⟨s,rc,hO⟩:=I.cA;exact⟨s,rc,hO.kinds hE.kinds hE.grown.le⟩
 .exact⟨(hE.grown.old _ I.kA.1).1,(hE.grown.old _ I.kA.1).2.trans I.kA.2⟩
 .rcases hE.kinds _ _ ho with⟨h1,_⟩|⟨⟨c,t2,f,h1⟩,_⟩|h1
  .have:=I.eA.1;omega
  .exact I.eA.2.1 _ h1 trivial
  .exact I.eA.2.1 _ h1 hn
 .rcases hE.grown.new _ hk with h1|⟨h1,_⟩
  .exact I.eA.2.2 hlt h1
  .have:=I.eA.1;omega
 .have hlt1:=S1.part.dom i hi;have h1:w1.heap[i]?=some w1.heap[i]:=Su hlt1;rcases hE.grown.new i hi with hk|⟨hge,_⟩
  .rcases I.oth i hk with⟨o,ho,hn⟩|h
   .refine .inl ⟨_,h1,?_⟩;rcases hE.kinds i _ h1 with⟨_,h2⟩|⟨_,c,t2,f,h2⟩|h2
    .exact h2
    .rw[h2];trivial
    grind
   .rcases h with⟨j,hj,h6,hje⟩|h
    .exact .inr (.inl ⟨j,hj,h6,hje.trans (hE.grown.old i hk).2.symm⟩)
    .exact .inr (.inr h)
  .refine .inl ⟨_,h1,?_⟩;rcases hE.kinds i _ h1 with⟨_,h2⟩|⟨_,c,t2,f,h2⟩|h2
   .exact h2
   .rw[h2];trivial
   .have:=(x5.1 h2).1;omega
 .refine(I.tr.mono hTA λa h=>h).PN (vr hdisj) ofEvents_g (λop hop b hb _=> ?_) (yt hE.events);obtain⟨e,he,rfl⟩:=AS hop;exact ys (hE.events e he) hb
 .rw[<- I.fr b hb hc h1 h2];refine Sx λhne=> ?_
  obtain⟨i,k1,k2,k3,k4,k5⟩:=hturn b (SE hb I.nz) hne;have:=I.mA i k3 k5 (by rw[k1];exact hb);rw[k1]at this;exact h1 this
theorem Inv2.HR(I:Inv2 Z n pA gA wA gA' pB gB wB gB' w' t)(S1:Side Z.Q Z.βB Z.DB Z.dtB true Z.RoB Z.os Z.restB p' g1 w1 g1' w1')(hE:Eff pB p' Z.RoB wB w' w1 w1' es')(fn pos):
 Inv2 Z n pA gA wA gA' p' g1 w1 g1' w1' (t++BY Z.k fn pos es'):=by
 have hturn:∀b,b<w'.heap.size->w1'.heap[b]?≠w'.heap[b]?->_:=λb hb hne=>hE.turned I.SB S1 hb hne
 obtain⟨tm,hch⟩:=I.ch;have hclt:=(x5.1 hch).1;have h0:w1'.heap[Z.c]?=w'.heap[Z.c]?:=Sx λhne=>by
  obtain⟨i,h1,_,h3,_,_⟩:=hturn Z.c hclt hne;obtain⟨c,e,f,h⟩:=I.SB.real h3<;>grind
 have hdisj:∀i j,aJ wA i->aJ w1 j->pA.κ i=p'.κ j->Z.RoA i/\Z.RoB j:=λi j hi hj h=>by
  rcases hE.pr I.SB S1 hj with⟨h1,h2⟩|h1
  .exact I.disj i j hi h1 (h.trans h2)
  .have:=I.SA.part.ran i (I.SA.cells hi);omega
 have hTB:∀a,TT pB.κ Z.RoB wB a->TT p'.κ Z.RoB w1 a:=λa ha=>⟨λx hx=>by
  obtain⟨i,h1,h2,h3⟩:=ha.1 x hx;exact⟨i,h1.trans (hE.grown.old i (I.SB.cells h2)).2.symm,hE.Ea h2,h3⟩,ha.2⟩
 have hmB:∀i,aJ w1 i->¬ Z.RoB i->p'.κ i<Z.N0->Z.MB (p'.κ i):=λi hi hr hlt=>by
  rcases hE.pr I.SB S1 hi with⟨h1,h2⟩|h1
  .rw[h2]at hlt ⊢;exact I.mB i h1 hr hlt
  .have:=I.nz;omega
 refine⟨I.SA.keep hE.grown.le' hE.os (λj hj=> ?_) ⟨rfl,rfl,rfl,(I.SA.relG _ (bL I.SA.part 0)).status.2⟩,S1,I.cA,?_,I.kA,?_,⟨tm,h0.trans hch⟩,I.eA,I.nT,λi hi=>(I.oth i hi).imp id (·.imp (λ⟨j,hj,h6,hje⟩=>⟨j,hj,(hE.grown.old j h6).1,(hE.grown.old j h6).2.trans hje⟩) id),hdisj,?_,I.mA,hmB,λb hb hc h1 h2=> ?_,SY I.nz hE.grown.le',hE.output.trans I.out,let⟨b,s,h1,h2⟩:=I.val;⟨b,s,h1.kinds hE.kinds hE.grown.le,λi x y hx hy σ τ hσ hτ=>h2 i x y hx hy σ τ hσ (hτ.less hE.grown.old)⟩⟩
 .by_cases hsame:w1'.heap[pA.κ j]?=w'.heap[pA.κ j]?
  .exact .inl hsame
  .obtain⟨i,h1,h2,h3,h4,h5⟩:=hturn _ (I.SA.part.ran j hj) hsame;obtain⟨c,e,f,hr⟩:=I.SB.real h3;obtain⟨c2,e2,f2,hr2⟩:=S1.real h4;refine .inr ⟨λo ho hn=> ?_,.cells c2 e2 f2,by rw[<- h2];omega,trivial,.inl ⟨_,_,_,rfl⟩⟩;cases o;case cells cc ee ff=>exact h5 (I.disj j i ⟨cc,ee,ff,ho⟩ h3 h1.symm).2
   case number a l=>
    obtain⟨a',ha⟩:=I.SA.EX ho<;>grind
   all_goals exact hn
 .obtain⟨b,s,hO,hb⟩:=I.cB;exact⟨b,s,hO.kinds hE.kinds hE.grown.le,hb⟩
 .exact⟨(hE.grown.old _ I.kB.1).1,(hE.grown.old _ I.kB.1).2.trans I.kB.2⟩
 .refine(I.tr.mono (λa h=>h) hTB).NY (vr hdisj) ofEvents_g (λop hop b hb _=> ?_) (yt hE.events);obtain⟨e,he,rfl⟩:=AS hop;exact ys (hE.events e he) hb
 .rw[<- I.fr b hb hc h1 h2];refine Sx λhne=> ?_
  obtain⟨i,k1,k2,k3,k4,k5⟩:=hturn b (SE hb I.nz) hne;have:=I.mB i k3 k5 (by rw[k1];exact hb);rw[k1]at this;exact h2 this
theorem Inv2.mute(I:Inv2 Z n pA gA wA gA' pB gB wB gB' w' t)(τ d){u}(hn:∀op∈u,op.act.touch?=none)(h0:Deaf (t++u) 0=Deaf t 0)(hk:Deaf (t++u) Z.k=Deaf t Z.k):
 Inv2 Z n pA gA wA gA' pB gB wB gB' (ah w' τ d) (t++u):=
 ⟨I.SA.ah τ d,I.SB.ah τ d,I.cA,I.cB,I.kA,I.kB,I.ch,I.eA,I.nT,I.oth,I.disj,I.tr.appMute hn h0 hk,I.mA,I.mB,I.fr,I.nz,I.out,I.val⟩
theorem GW(σ ok v):ab σ (recvd ok v true)=recvd ok (ab σ v) true:=by
 cases ok<;>simp[recvd]
theorem Inv2.meet(hcl:Z.cls=false)(I:Inv2 Z n pA gA wA gA' pB gB wB gB' w' t){ok v v' a s rc sB b tm}(hc:w'.heap[Z.c]?=some (.chan 0 #[] false n n tm))(hA:cG wA Z.rA Z.capA (Z.TA.extract n Z.TA.size) s rc Z.tmA)(hB:cG wB Z.rB Z.capB b sB Z.rcB Z.tmB)(hb:b.size=n)
 (ha:Z.TA[n]?=some a) (h8:zz Z n a v wB) (hv:∀τ,Ag pB τ->v'=ab τ v) (hfA:lZ Z.dtA gA.frame) (hfB:lZ Z.dtB gB.frame) (fk pk f0 q0):
 ∃pA2,Inv2 Z (n+1) pA2 {gA with frame:=gA.frame.finish (recvd ok a true),status:=.running,offers:=none} (ay wA Z.rA (.chan Z.capA (Z.TA.extract (n+1) Z.TA.size) false s (rc+1) Z.tmA)) {gA' with frame:=gA'.frame.finish (recvd ok v' true),status:=.running,offers:=none}
  pB {gB with frame:=gB.frame.finish undef,status:=.running,offers:=none} (ay wB Z.rB (.chan Z.capB (b.push v) false (sB+1) Z.rcB Z.tmB)) {gB' with frame:=gB'.frame.finish undef,status:=.running,offers:=none}
  (w'.setChan Z.c 0 #[] false (n+1) (n+1) tm) (t++met Z.k 0 fk pk f0 q0 Z.c n 0):=by
 have hclt:=(x5.1 hc).1;have hnlt:n<Z.TA.size:=(x5.1 ha).1;have hset:∀i,i≠Z.c->(w'.setChan Z.c 0 #[] false (n+1) (n+1) tm).heap[i]?=w'.heap[i]?:=λi hi=>by
  grind [SH,up]
 have hsetc:(w'.setChan Z.c 0 #[] false (n+1) (n+1) tm).heap[Z.c]?=some (.chan 0 #[] false (n+1) (n+1) tm):=by simp[SH,hclt]
 have hsz:(w'.setChan Z.c 0 #[] false (n+1) (n+1) tm).heap.size=w'.heap.size:=by simp[SH]
 have hpA:∃pA2,Side Z.Q Z.βA Z.DA Z.dtA false Z.RoA Z.os Z.restA pA2 gA wA gA' w'/\(∀i,pA.K i->pA2.K i/\pA2.κ i=pA.κ i)/\(∀i,pA2.K i->pA.K i\/i=Z.eA)/\(n+1<Z.TA.size->¬ pA2.K Z.eA)/\∀σ,Ag pA2 σ->v'=ab σ a:=by
  rcases h8 with hd|⟨hlast,e,he1,he2,he,he4,he5⟩
  .exact⟨pA,I.SA,λi hi=>⟨hi,rfl⟩,λi hi=>.inl hi,λ_=>I.eA.2.2 hnlt,λσ hσ=>(hv _ (bL I.SB.part 0)).trans (hd σ _).symm⟩
  .have hne:=I.eA.2.2 hnlt;have h5:pB.K e:=I.SB.cells he2;refine⟨pA.also Z.eA (pB.κ e),I.SA.also hne I.eA.1 (I.SB.real he2) λi hi heq=> ?_,λi hi=>⟨.inl hi,?_⟩,λi hi=>hi,λh=>by omega,λσ hσ=> ?_⟩
   .rcases I.oth i hi with⟨o,ho,h0⟩|hg|rfl|rfl
    .cases o;case cells cc t2 ff=>exact he (I.disj i e ⟨cc,t2,ff,ho⟩ he2 heq).2
     case number x l=>
      obtain⟨x',hx⟩:=I.SA.EX ho;obtain⟨c2,t2,f2,hr⟩:=I.SB.real he2<;>grind
     all_goals exact h0
    .obtain⟨j,hj,h3,hje⟩:=hg;have:=I.SB.part.inj j e h3 h5 (hje.trans heq);omega
    .obtain⟨c2,t2,f2,hr⟩:=I.SB.real he2;rw[<- heq,I.kA.2,hc]at hr;cases hr
    grind
   .show(if i=Z.eA then pB.κ e else pA.κ i)=pA.κ i;rw[if_neg λh:i=Z.eA=>hne (h▸hi)]
   .have hτ:=bL I.SB.part 0;have h1:σ Z.eA=pB.κ e:=by
     rw[hσ.2 Z.eA (.inr rfl)];show(if Z.eA=Z.eA then pB.κ e else pA.κ Z.eA)=pB.κ e;rw[if_pos rfl]
    rw[hv _ hτ];exact(he4 σ _ (h1.trans (hτ.2 e h5).symm)).symm
 obtain⟨pA2,SA2,hold,hnew,h9,h4⟩:=hpA;have hκ:∀i,aJ wA i->pA2.κ i=pA.κ i:=λi hi=>(hold i (I.SA.cells hi)).2
 have hrA:pA2.K Z.rA/\pA2.κ Z.rA=Z.c:=⟨(hold _ I.kA.1).1,(hold _ I.kA.1).2.trans I.kA.2⟩;have keepA:∀i,pA2.K i->qD pA2 wA w' (w'.setChan Z.c 0 #[] false (n+1) (n+1) tm) i:=λi hi=>by
  by_cases hic:pA2.κ i=Z.c
  .have:i=Z.rA:=SA2.part.inj i Z.rA hi hrA.1 (hic.trans hrA.2.symm);subst this;refine .inr ⟨λo ho h0=> ?_,.chan 0 #[] false (n+1) (n+1) tm,by rw[hic];omega,trivial,.inr λo ho=> ?_⟩
   .rw[hA.1]at ho;cases ho;exact h0
   .rw[hA.1]at ho;cases ho;rfl
  .exact .inl (hset _ hic)
 have keepB:∀i,pB.K i->qD pB wB w' (w'.setChan Z.c 0 #[] false (n+1) (n+1) tm) i:=λi hi=>by
  by_cases hic:pB.κ i=Z.c
  .have:i=Z.rB:=I.SB.part.inj i Z.rB hi I.kB.1 (hic.trans I.kB.2.symm);subst this;refine .inr ⟨λo ho h0=> ?_,.chan 0 #[] false (n+1) (n+1) tm,by rw[hic];omega,trivial,.inr λo ho=> ?_⟩
   .rw[hB.1]at ho;cases ho;exact h0
   .rw[hB.1]at ho;cases ho;rfl
  .exact .inl (hset _ hic)
 have SA3:=SA2.keep (w2':=w'.setChan Z.c 0 #[] false (n+1) (n+1) tm) (g2':=gA') (by rw[hsz];simp) rfl keepA ⟨rfl,rfl,rfl,(I.SA.relG _ (bL I.SA.part 0)).status.2⟩;have SB3:=I.SB.keep (w2':=w'.setChan Z.c 0 #[] false (n+1) (n+1) tm) (g2':=gB') (by rw[hsz];simp) rfl keepB ⟨rfl,rfl,rfl,(I.SB.relG _ (bL I.SB.part 0)).status.2⟩;have SA4:=SA3.after (b2:=Z.TA.extract (n+1) Z.TA.size) (s2:=s) (rc2:=rc+1) hA hfA (v:=recvd ok a true) (v':=recvd ok v' true) λσ hσ=>by rw[GW,<- h4 σ hσ]
 have SB4:=SB3.after (b2:=b.push v) (s2:=sB+1) (rc2:=Z.rcB) hB hfB (v:=undef) (v':=undef) λσ hσ=>jl.symm
 have cellsA:∀i,aJ (ay wA Z.rA (.chan Z.capA (Z.TA.extract (n+1) Z.TA.size) false s (rc+1) Z.tmA)) i->aJ wA i:=λi ⟨cc,t2,ff,h⟩=>by
  by_cases hi:Z.rA=i
  .subst hi;rw[(hA.to (b2:=Z.TA.extract (n+1) Z.TA.size) s (rc+1)).1]at h;cases h
  .exact⟨cc,t2,ff,by simp_all[ay,up]⟩
 have cellsB:∀i,aJ (ay wB Z.rB (.chan Z.capB (b.push v) false (sB+1) Z.rcB Z.tmB)) i->aJ wB i:=λi ⟨cc,t2,ff,h⟩=>by
  by_cases hi:Z.rB=i
  .subst hi;rw[(hB.to (b2:=b.push v) (sB+1) Z.rcB).1]at h;cases h
  .exact⟨cc,t2,ff,by simp_all[ay,up]⟩
 have hgetA:∀i,Z.rA≠i->(ay wA Z.rA (.chan Z.capA (Z.TA.extract (n+1) Z.TA.size) false s (rc+1) Z.tmA)).heap[i]?=wA.heap[i]?:=λi hi=>by simp_all[ay,up]
 have heNe:Z.rA≠Z.eA:=λh=>I.eA.2.2 hnlt (h▸I.kA.1)
 refine⟨pA2,SA4,SB4,⟨s,rc+1,hA.to s (rc+1)⟩,⟨b.push v,sB+1,hB.to (sB+1) Z.rcB,by simp[hb]⟩,hrA,I.kB,⟨tm,by rw[hcl];omega⟩,⟨by simpa[ay]using I.eA.1,λo ho=>I.eA.2.1 o (by rw[<- hgetA _ heNe];exact ho),h9⟩,hnlt,λi hi=> ?_,λi j hi hj h=>I.disj i j (cellsA i hi) (cellsB j hj) ((hκ i (cellsA i hi)).symm.trans h),(I.tr.meet fk pk f0 q0 Z.c n).mono (λ_ h=>h.elim) λ_ h=>h.elim,λi hi hr hlt=> ?_,λi hi hr hlt=>I.mB i (cellsB i hi) hr hlt,λx hx h6 h1 h2=>(hset x h6).trans (I.fr x hx h6 h1 h2),by rw[hsz];exact I.nz,I.out,⟨b.push v,sB+1,hB.to (sB+1) Z.rcB,λi x y hx hy σ τ hσ hτ=> ?_⟩⟩
 .rcases hnew i hi with hk|rfl
  .rcases I.oth i hk with⟨o,ho,h0⟩|h
   .by_cases h7:Z.rA=i
    .exact .inr (.inr (.inl h7.symm))
    .exact .inl ⟨o,(hgetA i h7).trans ho,h0⟩
   .rcases h with⟨j,hj,h3,hje⟩|h
    .exact .inr (.inl ⟨j,hj,h3,hje.trans (hold i hk).2.symm⟩)
    .exact .inr (.inr h)
  .exact .inr (.inr (.inr rfl))
 .have:=hκ i (cellsA i hi);rw[this]at hlt ⊢;exact I.mA i (cellsA i hi) hr hlt
 .rw[SK]at hy;split at hy
  .next e=>
   cases hy;rw[e,hb,ha]at hx;cases hx;exact(h4 σ hσ).symm.trans (hv τ hτ)
  .obtain⟨b0,s0,h1,h2⟩:=I.val;have:=h1.1.symm.trans hB.1;simp only[Option.some.injEq,Obj.chan.injEq]at this;rw[<- this.2.1]at hy;exact h2 i x y hx hy σ τ (hσ.less hold) hτ
end
end
section
open Go.Conc
open Go.ConcN (sumTo upd sumTo_upd upd_ne upd_same)
variable[aD]
def bo(g:AI):AI:= {frame:=g.frame,callers:=g.callers,status:=.running,dying:=none}
theorem kQ{g}(h:g.dying=none)(f):({bo g with frame:=f,status:=.running,offers:=none}:AI)= {g with frame:=f,status:=.running,offers:=none}:=by
 obtain⟨fr,cs,st,dy,off⟩:=g;subst h;rfl
structure Off(Q:IS)(β:Nat->Option Code)(dt:bM)(p:Part)(g:AI)(c c':CommCase)(sh:CommShape):Prop where
 at_:tv g.frame
 gh:∀m w,stepG (alt Q β) m g w= .comm (bo g) #[c] true sh w #[]
 re:∀σ,Ag p σ->c'=jS σ c
 fin:lZ dt g.frame
def iB(P:IS)(K:AI->AT->Prop)(M:AI->AT->Prop)(g:AI)(w:AT):Prop:=
 ∃(G:(Nat->T5->Nat)->Nat->AI)(W:(Nat->T5->Nat)->Nat->AT)(E:(Nat->T5->Nat)->Nat->Array SM),
  (∀τ d,¬ Big (stepG P true g (ah w τ d)).es->gT P g (ah w τ d) (G τ d) (W τ d) (E τ d))/\∀τ d,¬ Big (stepG P true g (ah w τ d)).es->Tree P K (G τ d) (W τ d)/\M (G τ d) (W τ d)
section
variable{Q:IS}{β:Nat->Option Code}{D0:SG}{dt:bM}{cl:Bool}{Ro:Nat->Prop}{os:Os}{rest:List SG}{p p':Part}{g g' g1 g1':AI}{w w' w1 w1':AT}{es es':Array SM}{c c':CommCase}{sh:CommShape}{K M:AI->AT->Prop}
theorem xI(S:Side Q β D0 dt cl Ro os rest p g w g' w')(τ d):Side Q β D0 dt cl Ro os rest p g (ah w τ d) g' w':=
 ⟨S.part,S.gok,fE S.iv τ d,S.ro,S.relG,S.relW⟩
theorem MV{n n' n1'}(h:iA Q p' n n1')(G:Grown p p' n n' n n1'){σ}(hσ:Ag p σ):Ag p' σ:=by
 refine⟨hσ.1,λi hi=> ?_⟩;rcases G.new i hi with hk|⟨h1,_⟩
 .rw[(G.old i hk).2];exact hσ.2 i hk
 .have:=h.dom i hi;omega
theorem vS(A:lf Q β)(S:Side Q β D0 dt cl Ro os rest p g w g' w'){m'}(h:stepG (alt Q β) true g (ah w w'.tape w'.drawn)= .comm g1 #[c] true sh w1 es)(h':stepG Q m' g' w'= .comm g1' #[c'] true sh w1' es')(hf:lZ dt g1.frame)
 (S1:Side Q β D0 dt cl Ro os rest p' g1 w1 g1' w1') (h1:∀σ,Ag p' σ->c'=jS σ c) (hE:Eff p p' Ro w w' w1 w1' es'):
 stepG Q m' g' w'= .comm (bo g') #[c'] true sh w' #[]/\Off Q β dt p g c c' sh/\g1=bo g/\w1=ah w w'.tape w'.drawn:=by
 have hat:=Bs A S.gok.frame S.plain.1 h;obtain⟨e1,_,e3⟩:=uA hat S.plain.1 S.plain.2.1 S.plain.2.2.1 h;have hrel:=S.relG _ (bL S.part 0);have h0:tv g'.frame:=by
  rw[hrel.frame];exact⟨by rw[fL,hat.mode];rfl,hat.at_⟩
 obtain⟨f1,f2,f3⟩:=uA h0 hrel.dying.2 (by rw[hrel.frame];exact S.plain.2.1) (by rw[hrel.frame];exact S.plain.2.2.1) h';rw[f1,f2,f3]at h';rw[e1]at hE S1;refine⟨h',⟨hat,FP hat S.plain.1 S.plain.2.1 S.plain.2.2.1 h,λσ hσ=>h1 σ (MV S1.part hE.grown hσ),?_⟩,e3,e1⟩;rw[e3]at hf;omega
theorem oQ(hD:m8 Q β D0)(E:mS Q β dt cl)(hβ:gS β)(hK:tn Q β K)(S:Side Q β D0 dt cl Ro os rest p g w g' w')
 {G:(Nat->T5->Nat)->Nat->AI} {W:(Nat->T5->Nat)->Nat->AT} {E0:(Nat->T5->Nat)->Nat->Array SM}
 (hone:∀τ d,¬ Big (stepG (alt Q β) true g (ah w τ d)).es->gT (alt Q β) g (ah w τ d) (G τ d) (W τ d) (E0 τ d)) (h0:∀τ d,¬ Big (stepG (alt Q β) true g (ah w τ d)).es->Tree (alt Q β) K (G τ d) (W τ d)/\M (G τ d) (W τ d))
 (hnc:¬ AtClose g) (m'):
 (∃g1 w1 g1' w1' es' p',stepG Q m' g' w'= .go g1' w1' es'/\Side Q β D0 dt cl Ro os rest p' g1 w1 g1' w1'/\Eff p p' Ro w w' w1 w1' es'/\Tree (alt Q β) K g1 w1/\M g1 w1)\/
 (∃c c' sh,stepG Q m' g' w'= .comm (bo g') #[c'] true sh w' #[]/\qB cl #[c] true sh/\Off Q β dt p g c c' sh)\/cl=false/\Big (stepG Q m' g' w').es:=by
 rcases oP hD.toC9 E S m' hnc with⟨g1,w1,es,g1',w1',es',p',hx,hx',S1,hE,hnb⟩|⟨g1,c,sh,w1,es,g1',c',w1',es',p',hx,hx',hC,hFin,S1,h2,hE,hnb⟩|⟨g1,w1,es,hx,hf,hnb⟩|⟨h1,_,h3⟩|⟨hl,hnb⟩
 .cases hone _ _ hnb<;>grind
 .obtain⟨k1,k2,_,_⟩:=vS E.apt S hx hx' hFin S1 h2 hE<;>grind
 .exfalso;have ht:=(h0 _ _ hnb).1;cases hone _ _ hnb with
  |go hz=>
   simp[hx]at hz;obtain⟨h4,hz2,_⟩:=hz;rw[<- h4]at ht;exact oO hβ hK ht hf
  |comm hz _=>rw[hx]at hz;cases hz
 .exact .inr (.inr ⟨h1,h3⟩)
 .exfalso;cases hone _ _ hnb with
  |go hz=>
   rw[hz]at hl;exact si E.apt hβ hK hD (h0 _ _ hnb).1 hl
  |comm hz _=>rw[hz]at hl;exact hl
theorem lq(hD:m8 Q β D0)(E:mS Q β dt cl)(S:Side Q β D0 dt cl Ro os rest p g w g' w')(hnc:¬ AtClose g)(hx:∀m w2,stepG (alt Q β) m g w2= .comm (bo g) #[c] true sh w2 #[])(m'):
 ∃c',stepG Q m' g' w'= .comm (bo g') #[c'] true sh w' #[]/\qB cl #[c] true sh/\Off Q β dt p g c c' sh:=by
 have hx1:=hx true (ah w w'.tape w'.drawn);rcases oP hD.toC9 E S m' hnc with⟨g1,w1,es,g1',w1',es',p',hy,hx',S1,hE,hnb⟩|⟨g1,c2,sh2,w1,es,g1',c',w1',es',p',hy,hx',hC,hFin,S1,h0,hE,hnb⟩|⟨g1,w1,es,hy,hf,hnb⟩|⟨h1,h2,h3⟩|⟨hl,hnb⟩
 .rw[hx1]at hy;cases hy
 .obtain⟨k1,k2,_,_⟩:=vS E.apt S hy hx' hFin S1 h0 hE<;>grind
 .rw[hx1]at hy;cases hy
 .exact h2.elim
 .rw[hx1]at hl;exact hl.elim
theorem wu(hn:iB (alt Q β) K M g w)(ho:∀m w,stepG (alt Q β) m g w= .comm (bo g) #[c] true sh w #[])(τ d):
 ∃g1 w1,(communicate (alt Q β) dV #[ph] 0 (bo g) #[c] true sh (ah w τ d)).1= .next (oneG g1 w1)/\Tree (alt Q β) K g1 w1/\M g1 w1:=by
 obtain⟨G,W,E0,hone,htree⟩:=hn;have hnb:¬ Big (stepG (alt Q β) true g (ah w τ d)).es:=av;cases hone τ d hnb<;>grind
end
structure di(Q:IS)(k:Nat)(xA xB:AI)(gs:Array AI)(q:Nat->Nat)(t:Trace):Prop where
 a:gs[0]?=some xA
 b:gs[k]?=some xB
 old:∀i x,i≠0->i≠k->gs[i]?=some x->QuitsD Q (q i) (Deaf t i) x
 above:∀j,gs.size<=j->Deaf t j=0
section
variable{Q:IS}{k:Nat}{xA xB yA yB:AI}{gs gs2:Array AI}{q:Nat->Nat}{t t2:Trace}{w w1:AT}{sl:Option (Nat×Nat)}
theorem di.to(C:di Q k xA xB gs q t)(hs:gs2.size=gs.size)(ha:gs2[0]?=some yA)(hb:gs2[k]?=some yB)(ho:∀i x,i≠0->i≠k->gs2[i]?=some x->gs[i]?=some x)(hd:∀i,i≠0->i≠k->Deaf t2 i=Deaf t i):di Q k yA yB gs2 q t2:=by
 have hk:=(x5.1 C.b).1;refine⟨ha,hb,λi x h1 h2 h3=> ?_,λj hj=> ?_⟩
 .rw[hd i h1 h2];exact C.old i x h1 h2 (ho i x h1 h2 h3)
 .rw[hd j (by omega) (by omega)];exact C.above j (by omega)
theorem di.Br(C:di Q k xA xB gs q t)(hk0:k≠0){x y}(hB:woken Q x y w1 xB=xB){u}(hu:∀op∈u,op.g=0):di Q k y xB ((gs.map (woken Q x y w1)).setIfInBounds 0 y) q (t++u):=by
 refine C.to (by simp) (by simp[(x5.1 C.a).1]) ?_ (λi z h1 h2 hz=> ?_) λi h1 _=>Deaf_other t (g':=0) (by omega) u hu
 .rw[up λe=>hk0 e.symm,If,C.b,Sy,hB]
 .rw[up λe=>h1 e.symm,If]at hz;obtain⟨z2,h0,rfl⟩:=IN.1 hz;rw[woken_quitsD (C.old i z2 h1 h2 h0)];omega
theorem di.HR(C:di Q k xA xB gs q t)(hk0:k≠0){x y}(hA:woken Q x y w1 xA=yA){u}(hu:∀op∈u,op.g=k):di Q k yA y ((gs.map (woken Q x y w1)).setIfInBounds k y) q (t++u):=by
 refine C.to (by simp) ?_ (by simp[(x5.1 C.b).1]) (λi z h1 h2 hz=> ?_) λi _ h2=>Deaf_other t (g':=k) (λe=>h2 e.symm) u hu
 .rw[up hk0,If,C.a,Sy,hA]
 .rw[up λe=>h2 e.symm,If]at hz;obtain⟨z2,h0,rfl⟩:=IN.1 hz;rw[woken_quitsD (C.old i z2 h1 h2 h0)];omega
theorem di.As(C:di Q k xA xB gs q t)(hk0:k≠0)(y):di Q k y xB (gs.setIfInBounds 0 y) q t:=by
 refine C.to (by simp) (by simp[(x5.1 C.a).1]) ?_ (λi z h1 h2 hz=> ?_) λ_ _ _=>rfl
 .rw[up λe=>hk0 e.symm];exact C.b
 grind
theorem di.setB(C:di Q k xA xB gs q t)(hk0:k≠0)(y):di Q k xA y (gs.setIfInBounds k y) q t:=by
 refine C.to (by simp) ?_ (by simp[(x5.1 C.b).1]) (λi z h1 h2 hz=> ?_) λ_ _ _=>rfl
 .rw[up hk0];exact C.a
 grind
theorem di.trace(C:di Q k xA xB gs q t)(hd:∀i,i≠0->i≠k->Deaf t2 i=Deaf t i):di Q k xA xB gs q t2:=C.to rfl C.a C.b (λ_ _ _ _ h=>h) hd
theorem di.quiet(C:di Q k xA xB gs q t){i x}(h1:i≠0)(h2:i≠k)(hx:gs[i]?=some x)(r s):offersAt x r s=[]:=
 offersAt_of_not_blocked (λe=>by rcases(C.old i x h1 h2 hx).status with h|h<;>rw[h]at e<;>cases e) r s
theorem di.pick(C:di Q k xA xB gs q t)(hk0:k≠0)(haA:awake xA)(haB:awake xB)(hrun:xA.status= .running\/xB.status= .running)
 (hw:∀a a' d,woken Q a a' (ah w w.tape d) xA=xA/\woken Q a a' (ah w w.tape d) xB=xB):
 ∃d sl',xA.status= .running/\stepT Q (crowd gs w sl)=runT Q (crowd gs (ah w w.tape d) sl') 0\/xB.status= .running/\stepT Q (crowd gs w sl)=runT Q (crowd gs (ah w w.tape d) sl') k\/
  ∃gs2 q2 ops,stepT Q (crowd gs w sl)=(.next (crowd gs2 (ah w w.tape d) sl'),ops)/\di Q k xA xB gs2 q2 (t++ops)/\sumTo gs2.size q2<sumTo gs.size q/\(∀op∈ops,op.act.touch?=none)/\Deaf (t++ops) 0=Deaf t 0/\Deaf (t++ops) k=Deaf t k:=by
 have haw:∀x∈gs,awake x:=by
  intro x hx;obtain⟨i,hi,rfl⟩:=SV.1 hx;by_cases h0:i=0
  .subst h0;have:gs[0]=xA:=by simpa[Su hi]using C.a
   rw[this];omega
  by_cases h1:i=k
  .subst h1;have:gs[i]=xB:=by simpa[Su hi]using C.b
   rw[this];omega
  exact awake_of ((C.old i _ h0 h1 (Su hi)).status.elim .inl λx=>.inr (.inr x))
 have hsome:∃(i:Nat)(g:AI),gs[i]?=some g/\g.status= .running:=by
  rcases hrun with h|h
  .exact⟨0,xA,C.a,h⟩
  .exact⟨k,xB,C.b,h⟩
 obtain⟨i,x,d,sl',hi,hx,hst⟩:=crowd_pick (P:=Q) (w:=w) (sl:=sl) haw hsome;have hat:w.at d=ah w w.tape d:=rfl;rw[hat]at hst;refine⟨d,sl',?_⟩;by_cases h0:i=0
 .subst h0;obtain rfl:xA=x:=Option.some.inj (C.a.symm.trans hi)<;>grind
 by_cases h1:i=k
 .subst h1;obtain rfl:xB=x:=Option.some.inj (C.b.symm.trans hi)<;>grind
 refine .inr (.inr ?_);have hq:=C.old i x h0 h1 hi;have h4:(i==0)=false:=by grind
 have hlt:i<gs.size:=(x5.1 hi).1;cases hqi:q i with
 |zero=>rw[hqi]at hq;rw[hq.1]at hx;cases hx
 |succ k2=>
  rw[hqi]at hq;rcases hq with⟨hf,_⟩|⟨_,g',es,hm,h3,hq'⟩
  .rw[hf]at hx;cases hx
  have h2:=runT_crowd_go (P:=Q) (sl:=sl') (i:=i) hi (by rw[h4];exact h3 (ah w w.tape d));have hsz:((gs.map (woken Q x g' (ah w w.tape d))).setIfInBounds i g').size=gs.size:=by simp
  have hsum:sumTo gs.size (upd q i k2)+(k2+1)=sumTo gs.size q+k2:=by
   have:=sumTo_upd q k2 id hlt;simp_all
  have hother:∀j,i≠j->Deaf (t++BY i x.frame.fn x.frame.place es) j=Deaf t j:=λj hj=>Deaf_other t hj _ λop hop=>by obtain⟨e,_,rfl⟩:=AS hop;rfl
  refine⟨_,upd q i k2,_,hst.trans h2,⟨?_,?_,λj y h5 h6 hy=> ?_,λj hj=> ?_⟩,by rw[hsz];omega,λop hop=> ?_,hother 0 h0,hother k h1⟩
  .rw[up h0,If,C.a,Sy,(hw x g' d).1]
  .rw[up h1,If,C.b,Sy,(hw x g' d).2]
  .by_cases hji:i=j
   .simp_all[Sz,upd_same,Deaf_own]
   .rw[up hji,If]at hy;obtain⟨z,hz,rfl⟩:=IN.1 hy;have h7:=C.old j z h5 h6 hz;rw[woken_quitsD h7,upd_ne q k2 (Tl hji),hother j hji];omega
  .rw[hother j (by omega)];exact C.above j (by simpa using hj)
  .obtain⟨e,he,rfl⟩:=AS hop;exact touch_mute (hm e he)
end
inductive Wt where
 |rr
 |ar (c:CommCase) (z:T4) (ok:Bool)
 |rb (c:CommCase) (v0 v z:T4)
def Wt.bit:Wt->Nat
 | .rr=>1
 |_=>0
def Wt.xA(Z:Duo):Wt->AI->AI
 | .ar _ z ok,g=>parked (bo g) #[rcase Z.c z] (.recv ok)
 |_,g=>g
def Wt.xB(Z:Duo):Wt->AI->AI
 | .rb _ _ v z,g=>parked (bo g) #[scase Z.c v z] .send
 |_,g=>g
def Wt.Ok(Z:Duo)(pA:Part)(gA:AI)(pB:Part)(gB:AI):Wt->Prop
 | .rr=>True
 | .ar c z ok=>c.chan= .chan (some Z.rA)/\c.send=none/\Off Z.Q Z.βA Z.dtA pA gA c (rcase Z.c z) (.recv ok)
 | .rb c v0 v z=>c.chan= .chan (some Z.rB)/\c.send=some v0/\Off Z.Q Z.βB Z.dtB pB gB c (scase Z.c v z) .send
structure eG(Z:Duo)(KA KB:AI->AT->Prop):Prop where
 EA:mS Z.Q Z.βA Z.dtA false
 EB:mS Z.Q Z.βB Z.dtB true
 rA:gS Z.βA
 rB:gS Z.βB
 kA:tn Z.Q Z.βA KA
 kB:tn Z.Q Z.βB KB
 dA:m8 Z.Q Z.βA Z.DA
 dB:m8 Z.Q Z.βB Z.DB
 k0:Z.k≠0
 sA:∀g w,KA g w->(∃z ok,∀m w2,stepG (alt Z.Q Z.βA) m g w2= .comm (bo g) #[{chan:=.chan (some Z.rA),send:=none,zero:=z}] true (.recv ok) w2 #[])/\∃s rc,w.heap[Z.rA]?=some (.chan Z.capA #[] false s rc Z.tmA)
 sB:∀g w,KB g w->AtClose g/\∃F s,w.heap[Z.rB]?=some (.chan Z.capB F false s Z.rcB Z.tmB)/\F.size=Z.TA.size/\∀i a b,Z.TA[i]?=some a->F[i]?=some b->zz Z i a b w
def Closing(Z:Duo)(KA KB:AI->AT->Prop)(m:Machine)(t:Trace):Prop:=
 ∃st gs sl q n pA gA wA gA' pB gB wB gB' w',m=crowd gs w' sl/\Inv2 Z n pA gA wA gA' pB gB wB gB' w' t/\Wt.Ok Z pA gA pB gB st/\di Z.Q Z.k (st.xA Z gA') (st.xB Z gB') gs q t/\(∀c v0 v z,st≠.rb c v0 v z)/\Tree (alt Z.Q Z.βA) KA gA wA/\KB gB wB
def Claim(Z:Duo)(KA KB:AI->AT->Prop)(gA:AI)(wA:AT)(gB:AI)(wB:AT):Prop:=
 ∀n pA gA' pB gB' w' t st gs sl q,Inv2 Z n pA gA wA gA' pB gB wB gB' w' t->Wt.Ok Z pA gA pB gB st->di Z.Q Z.k (st.xA Z gA') (st.xB Z gB') gs q t->Runs Z.Q (crowd gs w' sl) t (Closing Z KA KB)
section
variable{Z:Duo}{KA KB M MB:AI->AT->Prop}{n:Nat}{pA pB:Part}{gA gA' gB gB':AI}{wA wB w':AT}{t:Trace}{st:Wt}{gs:Array AI}{q:Nat->Nat}{sl:Option (Nat×Nat)}
theorem eG.Le(H:eG Z KA KB):∀g w,KB g w->∃b s,w.heap[Z.rB]?=some (.chan Z.capB b false s Z.rcB Z.tmB):=λg w h=>let⟨_,F,s,hF,_⟩:=H.sB g w h;⟨F,s,hF⟩
theorem Inv2.Nm(I:Inv2 Z n pA gA wA gA' pB gB wB gB' w' t)(τ d):Inv2 Z n pA gA wA gA' pB gB wB gB' (ah w' τ d) t:=
 ⟨I.SA.ah τ d,I.SB.ah τ d,I.cA,I.cB,I.kA,I.kB,I.ch,I.eA,I.nT,I.oth,I.disj,I.tr,I.mA,I.mB,I.fr,I.nz,I.out,I.val⟩
theorem Inv2.Ld(I:Inv2 Z n pA gA wA gA' pB gB wB gB' w' t)(τ d):Inv2 Z n pA gA (ah wA τ d) gA' pB gB (ah wB τ d) gB' w' t:=
 ⟨xI I.SA τ d,xI I.SB τ d,I.cA,I.cB,I.kA,I.kB,I.ch,I.eA,I.nT,I.oth,I.disj,I.tr,I.mA,I.mB,I.fr,I.nz,I.out,I.val⟩
theorem om(I:Inv2 Z n pA gA wA gA' pB gB wB gB' w' t):¬ AtClose gA:=λ⟨_,d,ds,a,t2,c,r,hd,hc,_⟩=>by
 have:=I.SA.gok.frame.defs d (by simp[hd]);rw[hc]at this;exact absurd this (by intro h;cases h)
theorem token(H:eG Z KA KB)(I:Inv2 Z n pA gA wA gA' pB gB wB gB' w' t){c c' v0}(ho:Off Z.Q Z.βB Z.dtB pB gB c c' .send)(hs:c.send=some v0)(hn:iB (alt Z.Q Z.βB) KB MB gB wB):
 n<Z.TA.size/\c.chan= .chan (some Z.rB)/\(∀a,Z.TA[n]?=some a->zz Z n a v0 wB)/\∀b s,cG wB Z.rB Z.capB b s Z.rcB Z.tmB->∀τ d,∃g1 w1,g1= {gB with frame:=gB.frame.finish undef,status:=.running,offers:=none}/\w1=ay (ah wB τ d) Z.rB (.chan Z.capB (b.push v0) false (s+1) Z.rcB Z.tmB)/\Tree (alt Z.Q Z.βB) KB g1 w1/\MB g1 w1:=by
 obtain⟨b,s,hO,hb⟩:=I.cB;have hch:∀b s,cG wB Z.rB Z.capB b s Z.rcB Z.tmB->∀τ d,c.chan= .chan (some Z.rB)/\∃g1 w1,g1= {gB with frame:=gB.frame.finish undef,status:=.running,offers:=none}/\w1=ay (ah wB τ d) Z.rB (.chan Z.capB (b.push v0) false (s+1) Z.rcB Z.tmB)/\Tree (alt Z.Q Z.βB) KB g1 w1/\MB g1 w1:=λb s hO τ d=>by
  obtain⟨g1,w1,hf,hT,hg⟩:=wu hn ho.gh τ d;have h0:cG (ah wB τ d) Z.rB Z.capB b s Z.rcB Z.tmB:=hO;obtain⟨e1,e2,e3⟩:=wO h0 hs hf (nP H.kB hT);refine⟨e1,g1,w1,?_,e3,hT,hg⟩;rw[e2];exact kQ I.SB.plain.1 _
 obtain⟨h8,g1,w1,e1,e2,hT,_⟩:=hch b s hO w'.tape w'.drawn;have h0:cG (ah wB w'.tape w'.drawn) Z.rB Z.capB b s Z.rcB Z.tmB:=hO;have S2:=(xI I.SB w'.tape w'.drawn).after (b2:=b.push v0) (s2:=s+1) (rc2:=Z.rcB) h0 ho.fin (v:=undef) (v':=undef) λσ _=>jl.symm
 rw[<- e1,<- e2]at S2;have h7:=h0.to (b2:=b.push v0) (s+1) Z.rcB;rw[<- e2]at h7;obtain⟨g2,w2,l,s2,k1,k2,k3,k4⟩:=leaf H.EB H.rB H.kB H.dB H.Le hT _ _ _ _ _ S2 h7;obtain⟨_,F,s3,hF,hsz,hd⟩:=H.sB g2 w2 k1;have h9:F=b.push v0++l:=by
  have:=hF.symm.trans k2.1;grind
 have hnlt:n<Z.TA.size:=by
  rw[<- hsz,h9];grind
 have hFn:F[n]?=some v0:=by
  rw[h9,Array.getElem?_append];grind
 refine⟨hnlt,h8,λa ha=> ?_,λb s hO τ d=>(hch b s hO τ d).2⟩;rcases hd n a v0 ha hFn with h|⟨h1,e,h2,h3,h4,h5,h6⟩
 .exact .inl h
 .refine .inr ⟨h1,e,h2,?_,h4,h5,h6⟩;have hKe:pB.K e:=by
   have hh:=ho.re _ (bL I.SB.part 0);have hi:=ho.re _ (bL I.SB.part 1);have hv:ab (pB.far w'.heap.size 0) v0=ab (pB.far w'.heap.size 1) v0:=by
    have:=congrArg CommCase.send (hh.symm.trans hi);simp_all[jS,Sy,Option.some.injEq]
   have he:=h6 _ _ hv;refine Sx λhk=> ?_
   rw[tI hk,tI hk]at he;omega
  have hlt:e<wB.heap.size:=I.SB.part.dom e hKe;have hsz1:w1.heap.size=wB.heap.size:=by rw[e2];simp[ay,ah]
  obtain⟨cc,tt,ff,hc⟩:=k4 e (by rw[hsz1];exact hlt) h3;have hne:Z.rB≠e:=λh=>by
   subst h;rw[h7.1]at hc;cases hc
  refine⟨cc,tt,ff,?_⟩;rw[e2]at hc;simp only[ay]at hc;rw[up hne]at hc;exact hc
theorem taken(H:eG Z KA KB)(I:Inv2 Z n pA gA wA gA' pB gB wB gB' w' t){c c' ok}(ho:Off Z.Q Z.βA Z.dtA pA gA c c' (.recv ok))(hs:c.send=none)(hn:iB (alt Z.Q Z.βA) KA M gA wA):
 c.chan= .chan (some Z.rA)/\∃a,Z.TA[n]?=some a/\∀s rc,cG wA Z.rA Z.capA (Z.TA.extract n Z.TA.size) s rc Z.tmA->∀τ d,∃g1 w1,g1= {gA with frame:=gA.frame.finish (recvd ok a true),status:=.running,offers:=none}/\w1=ay (ah wA τ d) Z.rA (.chan Z.capA (Z.TA.extract (n+1) Z.TA.size) false s (rc+1) Z.tmA)/\Tree (alt Z.Q Z.βA) KA g1 w1/\M g1 w1:=by
 have hch:∀s rc,cG wA Z.rA Z.capA (Z.TA.extract n Z.TA.size) s rc Z.tmA->∀τ d,c.chan= .chan (some Z.rA)/\n<Z.TA.size/\∃g1 w1,g1= {gA with frame:=gA.frame.finish (recvd ok (Z.TA.getD n undef) true),status:=.running,offers:=none}/\w1=ay (ah wA τ d) Z.rA (.chan Z.capA (Z.TA.extract (n+1) Z.TA.size) false s (rc+1) Z.tmA)/\Tree (alt Z.Q Z.βA) KA g1 w1/\M g1 w1:=λs rc hO τ d=>by
  obtain⟨g1,w1,h0,hT,h3⟩:=wu hn ho.gh τ d;have h4:cG (ah wA τ d) Z.rA Z.capA (Z.TA.extract n Z.TA.size) s rc Z.tmA:=hO;obtain⟨e1,e0,e2,e3⟩:=Fp h4 hs h0 (nP H.kA hT);have hlt:n<Z.TA.size:=by grind
  refine⟨e1,hlt,g1,w1,?_,?_,hT,h3⟩
  .rw[e2];have:(Z.TA.extract n Z.TA.size).getD 0 undef=Z.TA.getD n undef:=by
    simp_all
   rw[this];exact kQ I.SA.plain.1 _
  grind
 obtain⟨s,rc,hO⟩:=I.cA;obtain⟨h1,h2,_⟩:=hch s rc hO w'.tape w'.drawn<;>simp_all
theorem DN(hcl:Z.cls=false)(H:eG Z KA KB)(I:Inv2 Z n pA gA wA gA' pB gB wB gB' w' t){tm}(hc:w'.heap[Z.c]?=some (.chan 0 #[] false n n tm)){ok cA cB v0 v z zB}
 (hA:iB (alt Z.Q Z.βA) KA (λg w=>∀gB wB,Tree (alt Z.Q Z.βB) KB gB wB->Claim Z KA KB g w gB wB) gA wA) (hB:iB (alt Z.Q Z.βB) KB MB gB wB)
 (oA:Off Z.Q Z.βA Z.dtA pA gA cA (rcase Z.c z) (.recv ok)) (sA:cA.send=none) (oB:Off Z.Q Z.βB Z.dtB pB gB cB (scase Z.c v zB) .send) (sB:cB.send=some v0) (fk pk f0 q0)
 (C:di Z.Q Z.k (SD (bo gA') (recvd ok v true)) (SD (bo gB') undef) gs q t):
 Runs Z.Q (crowd gs (w'.setChan Z.c 0 #[] false (n+1) (n+1) tm) sl) (t++met Z.k 0 fk pk f0 q0 Z.c n 0) (Closing Z KA KB):=by
 obtain⟨hlt,_,h1,hB2⟩:=token H I oB sB hB;obtain⟨_,a,ha,h2⟩:=taken H I oA sA hA;obtain⟨s,rc,h0⟩:=I.cA;obtain⟨b,sb,hOB,hb⟩:=I.cB;obtain⟨gA1,wA1,eA1,eA2,_,h3⟩:=h2 s rc h0 w'.tape w'.drawn;obtain⟨gB1,wB1,eB1,eB2,h4,_⟩:=hB2 b sb hOB w'.tape w'.drawn;have I1:=I.Ld w'.tape w'.drawn;have hv:∀τ,Ag pB τ->v=ab τ v0:=λτ hτ=>by
  have:=congrArg CommCase.send (oB.re τ hτ);simp_all[jS,scase,Sy,Option.some.injEq]
 obtain⟨pA2,I2⟩:=I1.meet hcl (ok:=ok) (v:=v0) (v':=v) (a:=a) hc h0 hOB hb ha (h1 a ha) hv oA.fin oB.fin fk pk f0 q0;rw[<- eA1,<- eA2,<- eB1,<- eB2]at I2;have h5:gA'.dying=none:=(I.SA.relG _ (bL I.SA.part 0)).dying.2;have h6:gB'.dying=none:=(I.SB.relG _ (bL I.SB.part 0)).dying.2;have f1:SD (bo gA') (recvd ok v true)= {gA' with frame:=gA'.frame.finish (recvd ok v true),status:=.running,offers:=none}:=kQ h5 _;have f2:SD (bo gB') undef= {gB' with frame:=gB'.frame.finish undef,status:=.running,offers:=none}:=kQ h6 _;rw[f1,f2]at C;exact h3 gB1 wB1 h4 _ _ _ _ _ _ _ .rr gs sl q I2 trivial (C.trace λi _ _=>Deaf_quiet (met_quiet Z.k 0 fk pk f0 q0 Z.c n 0 i))
end
section
variable{Z:Duo}{KA KB M MB:AI->AT->Prop}{n:Nat}{pA pB:Part}{gA gA' gB gB':AI}{wA wB w':AT}{t:Trace}{st:Wt}{gs:Array AI}{q:Nat->Nat}{sl:Option (Nat×Nat)}
theorem zx(I:Inv2 Z n pA gA wA gA' pB gB wB gB' w' t):gA'.status= .running/\gA'.dying=none:=⟨(I.SA.relG _ (bL I.SA.part 0)).status.2,(I.SA.relG _ (bL I.SA.part 0)).dying.2⟩
theorem Lc(I:Inv2 Z n pA gA wA gA' pB gB wB gB' w' t):gB'.status= .running/\gB'.dying=none:=⟨(I.SB.relG _ (bL I.SB.part 0)).status.2,(I.SB.relG _ (bL I.SB.part 0)).dying.2⟩
theorem zP(st:Wt)(hr:gA'.status= .running){w tm}(hc:w.heap[Z.c]?=some (.chan 0 #[] false n n tm))(a a'):woken Z.Q a a' w (st.xA Z gA')=st.xA Z gA':=by
 cases st with
 |rr=>exact woken_run hr
 |ar c z ok=>exact woken_recv_open a a' hc
 |rb c v0 v z=>exact woken_run hr
theorem zO(st:Wt)(hr:gB'.status= .running){w tm}(hc:w.heap[Z.c]?=some (.chan 0 #[] false n n tm))(a a'):woken Z.Q a a' w (st.xB Z gB')=st.xB Z gB':=by
 cases st with
 |rr=>exact woken_run hr
 |ar c z ok=>exact woken_run hr
 |rb c v0 v z=>exact woken_send_open a a' hc
theorem IB(st:Wt)(hr:gA'.status= .running):awake (st.xA Z gA'):=by
 cases st with
 |rr=>exact awake_of (.inl hr)
 |ar c z ok=>exact awake_of (.inr (.inl rfl))
 |rb c v0 v z=>exact awake_of (.inl hr)
theorem IA(st:Wt)(hr:gB'.status= .running):awake (st.xB Z gB'):=by
 cases st with
 |rr=>exact awake_of (.inl hr)
 |ar c z ok=>exact awake_of (.inl hr)
 |rb c v0 v z=>exact awake_of (.inr (.inl rfl))
theorem GX{xA xB}(C:di Z.Q Z.k xA xB gs q t)(k0:Z.k≠0)(r s)(h:offersAt xB r s=[]):partners (gs.setIfInBounds 0 ph) r s=[]:=
 partners_nil λj g hj=>by
  rcases getElem?_stand gs 0 j g hj with⟨_,rfl⟩|⟨hne,hg⟩
  .rfl
  .by_cases hk:j=Z.k
   .subst hk;rw[C.b]at hg;grind
   .exact C.quiet hne hk hg r s
theorem Np{xA xB}(C:di Z.Q Z.k xA xB gs q t)(k0:Z.k≠0)(r s)(h:offersAt xA r s=[]):partners (gs.setIfInBounds Z.k ph) r s=[]:=
 partners_nil λj g hj=>by
  rcases getElem?_stand gs Z.k j g hj with⟨_,rfl⟩|⟨hne,hg⟩
  .rfl
  .by_cases hk:j=0
   .subst hk;rw[C.a]at hg;grind
   .exact C.quiet hk hne hg r s
theorem Pp{xA xB}(C:di Z.Q Z.k xA xB gs q t)(k0:Z.k≠0)(r s)(h:offersAt xB r s=[0]):partners (gs.setIfInBounds 0 ph) r s=[(Z.k,0)]:=by
 rw[partners_one (stand_get k0 C.b) λj g hne hg=> ?_,h]
 .rfl
 .rcases getElem?_stand gs 0 j g hg with⟨_,rfl⟩|⟨h0,hg⟩
  .rfl
  .exact C.quiet h0 hne hg r s
theorem Pq{xA xB}(C:di Z.Q Z.k xA xB gs q t)(k0:Z.k≠0)(r s)(h:offersAt xA r s=[0]):partners (gs.setIfInBounds Z.k ph) r s=[(0,0)]:=by
 rw[partners_one (stand_get (λe=>k0 e.symm) C.a) λj g hne hg=> ?_,h]
 .rfl
 .rcases getElem?_stand gs Z.k j g hg with⟨_,rfl⟩|⟨h0,hg⟩
  .rfl
  .exact C.quiet hne h0 hg r s
theorem mD{x}(h:x.status= .running)(r s):offersAt x r s=[]:=offersAt_of_not_blocked (λe=>by rw[h]at e;cases e) r s
theorem caseA{dt cl Q β D0 Ro os rest p g g' w w' r b}(S:Side Q β D0 dt cl Ro os rest p g w g' w')(hk:p.K r/\p.κ r=b){c c' sh}(o:Off Q β dt p g c c' sh)(hc:c.chan= .chan (some r)):
 c'.chan= .chan (some b)/\c'.send.isSome=c.send.isSome:=by
 have:=o.re _ (bL S.part 0);have h2:=(bL S.part 0).2 r hk.1;simp_all[jS]
end
section
variable{Z:Duo}{KA KB:AI->AT->Prop}{gA gB:AI}{wA wB:AT}
theorem oY(hcl:Z.cls=false)(H:eG Z KA KB)(TA:Tree (alt Z.Q Z.βA) KA gA wA)(TB:Tree (alt Z.Q Z.βB) KB gB wB)
 (hA:KA gA wA\/iB (alt Z.Q Z.βA) KA (λg w=>∀gB wB,Tree (alt Z.Q Z.βB) KB gB wB->Claim Z KA KB g w gB wB) gA wA)
 (hB:KB gB wB\/iB (alt Z.Q Z.βB) KB (λg w=>Claim Z KA KB gA wA g w) gB wB):Claim Z KA KB gA wA gB wB:=by
 intro n pA gA' pB gB' w' t st gs sl q I hst C;generalize hM:sumTo gs.size q+st.bit=M;induction M using SL generalizing w' t st gs sl q with
 |ind M ih=>
 obtain⟨tm,hch⟩:=I.ch;rw[hcl]at hch;obtain⟨hrA,hdA⟩:=zx I;obtain⟨h8,hdB⟩:=Lc I;by_cases hKB:KB gB wB
 .refine .here ⟨st,gs,sl,q,n,pA,gA,wA,gA',pB,gB,wB,gB',w',rfl,I,hst,C,λc v0 v z e=> ?_,TA,hKB⟩;subst e;obtain⟨⟨hm,_⟩,_⟩:=H.sB gB wB hKB;exact hm hst.2.2.at_.mode
 have he:=hB.resolve_left hKB;have hsome:(st.xA Z gA').status= .running\/(st.xB Z gB').status= .running:=by
  cases st with
  |rr=>exact .inl hrA
  |ar c z ok=>exact .inr h8
  |rb c v0 v z=>exact .inl hrA
 obtain⟨d,sl',hpick⟩:=C.pick (w:=w') (sl:=sl) H.k0 (IB st hrA) (IA st h8) hsome λa a' d=>⟨zP st hrA hch a a',zO st h8 hch a a'⟩
 have I2:=I.Nm w'.tape d;have hch2:(ah w' w'.tape d).heap[Z.c]?=some (.chan 0 #[] false n n tm):=hch;generalize hf:ah w' w'.tape d=w2 at I2 hch2 hpick;rcases hpick with⟨hrun,hstep⟩|⟨hrun,hstep⟩|⟨gs2,q2,ops,hstep,C2,hlt,hmute,h0,hk⟩
 .
  have hxA:st.xA Z gA'=gA':=by
   cases st with
   |rr=>rfl
   |ar c z ok=>cases hrun
   |rb c v0 v z=>rfl
  have hga:gs[0]?=some gA':=C.a.trans (congrArg some hxA);have hgt:∀es:Array SM,∀op∈BY 0 gA'.frame.fn gA'.frame.place es,op.g=0:=λes=>ofEvents_g
  have hoffer:∀c c' sh,stepG Z.Q (0==0) gA' w2= .comm (bo gA') #[c'] true sh w2 #[]->qB false #[c] true sh->Off Z.Q Z.βA Z.dtA pA gA c c' sh->c.chan= .chan (some Z.rA)->Runs Z.Q (crowd gs w' sl) t (Closing Z KA KB):=by
   intro c c' sh hn hC ho h3;obtain⟨_,c0,hc0,hc1⟩:=hC;have hcc:c0=c:=by grind
   subst hcc;rcases hc1 with⟨h,_⟩|⟨_,ok,rfl,hs⟩
   .cases h
   obtain⟨k1,k2⟩:=caseA I.SA I.kA ho h3;obtain⟨ch',sd',z'⟩:=c';dsimp only at k1 k2;rw[hs]at k2;cases sd' with
   |some x=>cases k2
   |none=>
    subst k1;have hg:stepG Z.Q (0==0) gA' w2= .comm (bo gA') #[rcase Z.c z'] true (.recv ok) w2 #[]:=hn;have h4:Off Z.Q Z.βA Z.dtA pA gA c0 (rcase Z.c z') (.recv ok):=ho;cases st with
    |ar c z ok=>cases hrun
    |rr=>
     have hnw:∀cc∈(#[rcase Z.c z']:Array CommCase),NoWays w2 (gs.setIfInBounds 0 ph) cc:=λcc hcc=>by
      have:cc=rcase Z.c z':=by grind
      subst this;refine⟨made_recv z' hch2,?_⟩;have:=GX C H.k0 Z.c true (mD h8 Z.c true);simp_all[ways,rcase]
     have hr:=crowd_waits (sl:=sl') hga hg hnw;refine Runs.step (hstep.trans hr) ?_;have hes:BY 0 gA'.frame.fn gA'.frame.place #[]=#[]:=rfl;rw[hes,SR];subst hf;refine ih _ ?_ _ _ (.ar c0 z' ok) _ sl' q I2 ⟨h3,hs,h4⟩ (C.As H.k0 _) rfl;rw[<- hM];simp[Wt.bit]
    |rb cB v0 v zB=>
     obtain⟨hcB,hi,hj⟩:=hst;have h5:iB (alt Z.Q Z.βA) KA (λg w=>∀gB wB,Tree (alt Z.Q Z.βB) KB gB wB->Claim Z KA KB g w gB wB) gA wA:=by
      rcases hA with h9|h
      .exfalso;obtain⟨_,s,rc,hO⟩:=H.sA gA wA h9;obtain⟨s2,rc2,hh⟩:=I.cA;have:=hO.symm.trans hh.1;simp only[Option.some.injEq,Obj.chan.injEq]at this;have h1:=congrArg Array.size this.2.1;have h2:=(token H I hj hi he).1;grind
      omega
     have hp:=Pp C H.k0 Z.c true (by rw[show Wt.xB Z (.rb cB v0 v zB) gB'=parked (bo gB') #[scase Z.c v zB] .send from rfl,offersAt_parked_send];simp);have hr:=crowd_recv_meets (sl:=sl') hga hg hch2 H.k0 C.b hp;rw[finishComm_send,finishComm_recv]at hr;refine Runs.step (hstep.trans hr) ?_;have h6:=(C.setB H.k0 (SD (bo gB') undef)).As H.k0 (SD (bo gA') (recvd ok v true));exact DN hcl H I2 hch2 h5 he h4 hs hj hi (bo gB').frame.fn (bo gB').frame.place (bo gA').frame.fn (bo gA').frame.place h6
  rcases hA with h9|h5
  .obtain⟨⟨z,ok,hx⟩,_⟩:=H.sA gA wA h9;obtain⟨c',k1,k2,k3⟩:=lq H.dA H.EA I2.SA (om I2) hx (0==0)<;>grind
  .have hl:=h5;obtain⟨G,W,E0,hone,h7⟩:=h5;rcases oQ (M:=λg w=>∀gB wB,Tree (alt Z.Q Z.βB) KB gB wB->Claim Z KA KB g w gB wB) H.dA H.EA H.rA H.kA I2.SA hone h7 (om I2) (0==0)with⟨g1,w1,g1',w1',es',p',hx,S1,hE,hT,ha⟩|⟨c,c',sh,hx,hC,ho⟩|⟨_,hbig⟩
   .have hr:=runT_crowd_go (P:=Z.Q) (sl:=sl') (i:=0) hga hx;refine Runs.step (hstep.trans hr) ?_;have I3:=I2.Br S1 hE gA'.frame.fn gA'.frame.place;obtain⟨tm3,hch3⟩:=I3.ch;rw[hcl]at hch3;have C3:=C.Br (x:=gA') (y:=g1') (w1:=w1') H.k0 (zO st h8 hch3 gA' g1') (hgt es');cases st with
    |ar c z ok=>cases hrun
    |rr=>exact ha gB wB TB n p' g1' pB gB' w1' _ .rr _ sl' q I3 trivial C3
    |rb cB v0 v zB=>exact ha gB wB TB n p' g1' pB gB' w1' _ (.rb cB v0 v zB) _ sl' q I3 hst C3
   .have hC2:=hC;obtain⟨_,c0,hc0,hc1⟩:=hC2;have hcc:c0=c:=by grind
    subst hcc;rcases hc1 with⟨h,_⟩|⟨_,ok,rfl,hs⟩
    .cases h
    exact hoffer _ _ _ hx hC ho (taken H I2 ho hs hl).1
   .exact hbig.elim
 .
  have hxB:st.xB Z gB'=gB':=by
   cases st with
   |rr=>rfl
   |ar c z ok=>rfl
   |rb c v0 v z=>cases hrun
  have hgb:gs[Z.k]?=some gB':=C.b.trans (congrArg some hxB);have hgt:∀es:Array SM,∀op∈BY Z.k gB'.frame.fn gB'.frame.place es,op.g=Z.k:=λes=>ofEvents_g
  have hnc:¬ AtClose gB:=λh=>let⟨b,s,hO,_⟩:=I2.cB;hKB (uz H.EB H.rB H.kB H.dB H.Le TB h I2.SB hO)
  have hd:=he;obtain⟨G,W,E0,hone,h7⟩:=he;rcases oQ (M:=λg w=>Claim Z KA KB gA wA g w) H.dB H.EB H.rB H.kB I2.SB hone h7 hnc (Z.k==0)with⟨g1,w1,g1',w1',es',p',hx,S1,hE,hT,ha⟩|⟨c,c',sh,hx,hC,ho⟩|⟨h,_⟩
  .have hr:=runT_crowd_go (P:=Z.Q) (sl:=sl') (i:=Z.k) hgb hx;refine Runs.step (hstep.trans hr) ?_;have I3:=I2.HR S1 hE gB'.frame.fn gB'.frame.place;obtain⟨tm3,hch3⟩:=I3.ch;rw[hcl]at hch3;have C3:=C.HR (x:=gB') (y:=g1') (w1:=w1') H.k0 (zP st hrA hch3 gB' g1') (hgt es');cases st with
   |rb cB v0 v zB=>cases hrun
   |rr=>exact ha n pA gA' p' g1' w1' _ .rr _ sl' q I3 trivial C3
   |ar c z ok=>exact ha n pA gA' p' g1' w1' _ (.ar c z ok) _ sl' q I3 hst C3
  .obtain⟨_,c0,hc0,hc1⟩:=hC;have hcc:c0=c:=by simpa using hc0.symm
   subst hcc;rcases hc1 with⟨_,rfl,hq⟩|⟨h,_⟩
   .obtain⟨v0,hc⟩:=SN.1 hq;have h3:=(token H I2 ho hc hd).2.1;obtain⟨k1,k2⟩:=caseA I.SB I.kB ho h3;obtain⟨ch',sd',z'⟩:=c';dsimp only at k1 k2;rw[hc]at k2;cases sd' with
    |none=>cases k2
    |some v=>
     subst k1;have hx':stepG Z.Q (Z.k==0) gB' w2= .comm (bo gB') #[scase Z.c v z'] true .send w2 #[]:=hx;have h4:Off Z.Q Z.βB Z.dtB pB gB c0 (scase Z.c v z') .send:=ho;cases st with
     |rb c v0 v z=>cases hrun
     |rr=>
      have hnw:∀cc∈(#[scase Z.c v z']:Array CommCase),NoWays w2 (gs.setIfInBounds Z.k ph) cc:=λcc hcc=>by
       have:cc=scase Z.c v z':=by simpa using hcc
       subst this;refine⟨made_send v z' hch2,?_⟩;have:=Np C H.k0 Z.c false (mD hrA Z.c false);simp[ways,scase,hch2,this]
      have hr:=crowd_waits (sl:=sl') hgb hx' hnw;refine Runs.step (hstep.trans hr) ?_;have hes:BY Z.k gB'.frame.fn gB'.frame.place #[]=#[]:=rfl;rw[hes,SR];subst hf;refine ih _ ?_ _ _ (.rb c0 v0 v z') _ sl' q I2 ⟨h3,hc,h4⟩ (C.setB H.k0 _) rfl;rw[<- hM];simp[Wt.bit]
     |ar cA z ok=>
      obtain⟨hcA,ht,hv⟩:=hst;have h5:iB (alt Z.Q Z.βA) KA (λg w=>∀gB wB,Tree (alt Z.Q Z.βB) KB gB wB->Claim Z KA KB g w gB wB) gA wA:=by
       rcases hA with h9|h
       .exfalso;obtain⟨_,s,rc,hO⟩:=H.sA gA wA h9;obtain⟨s2,rc2,hh⟩:=I.cA;have:=hO.symm.trans hh.1;simp only[Option.some.injEq,Obj.chan.injEq]at this;have h1:=congrArg Array.size this.2.1;have h2:=(token H I h4 hc hd).1;simp at h1;omega
       .exact h
      have hp:=Pq C H.k0 Z.c false (by rw[show Wt.xA Z (.ar cA z ok) gA'=parked (bo gA') #[rcase Z.c z] (.recv ok)from rfl,offersAt_parked_recv];simp);have hr:=crowd_send_meets (sl:=sl') hgb hx' hch2 (λe=>H.k0 e.symm) C.a hp;rw[finishComm_send,finishComm_recv]at hr;refine Runs.step (hstep.trans hr) ?_;have h6:=(C.As H.k0 (SD (bo gA') (recvd ok v true))).setB H.k0 (SD (bo gB') undef);exact DN hcl H I2 hch2 h5 hd hv ht h4 hc (bo gB').frame.fn (bo gB').frame.place (bo gA').frame.fn (bo gA').frame.place h6
   .cases h
  .cases h
 .
  refine Runs.step hstep (ih (sumTo gs2.size q2+st.bit) (by omega) _ _ st gs2 sl' q2 ?_ hst C2 rfl);subst hf;exact I.mute w'.tape d hmute h0 hk
theorem AQ(hcl:Z.cls=false)(H:eG Z KA KB)(TA:Tree (alt Z.Q Z.βA) KA gA wA):∀gB wB,Tree (alt Z.Q Z.βB) KB gB wB->Claim Z KA KB gA wA gB wB:=by
 induction TA with
 |stop h3=>
  intro gB wB TB;induction TB with
  |stop hKB=>exact oY hcl H (.stop h3) (.stop hKB) (.inl h3) (.inl hKB)
  |step G W E hr hone h0 ih=>exact oY hcl H (.stop h3) (.step G W E hr hone h0) (.inl h3) (.inr ⟨G,W,E,hone,λτ d hb=>⟨h0 τ d hb,ih τ d hb⟩⟩)
 | @step gA wA GA WA EA hrA h2 h1 ihA=>
  intro gB wB TB;have hA:KA gA wA\/iB (alt Z.Q Z.βA) KA (λg w=>∀gB wB,Tree (alt Z.Q Z.βB) KB gB wB->Claim Z KA KB g w gB wB) gA wA:=.inr ⟨GA,WA,EA,h2,λτ d hb=>⟨h1 τ d hb,ihA τ d hb⟩⟩;induction TB with
  |stop hKB=>exact oY hcl H (.step GA WA EA hrA h2 h1) (.stop hKB) hA (.inl hKB)
  |step G W E hr hone h0 ih=>exact oY hcl H (.step GA WA EA hrA h2 h1) (.step G W E hr hone h0) hA (.inr ⟨G,W,E,hone,λτ d hb=>⟨h0 τ d hb,ih τ d hb⟩⟩)
end
structure IX(Q:IS)(b:SG):Prop where
 mode:b.mode= .panicking [goexitEntry]
 defers:b.defers=[]
 fn:Q.funcs[b.fn]?=none
 todo:b.todo=[]
structure G0(Z:Duo)(KB:AI->AT->Prop):Prop where
 rest:Z.restB=[]
 stop:∀g w,KB g w->(∃b,g.callers.dropLast=[b]/\IX Z.Q b)/\g.frame.mode= .returning/\g.frame.kind= .deferred/\(∃ats t cs,g.frame.defers=[{target:=.builtin .close ats t cs,args:=#[.chan (some Z.rB)]}])/\∃fn,Z.Q.funcs[g.frame.fn]?=some fn/\fn.results=#[]
theorem FI(P f c):seen P f (closeEvents c)=closeEvents c:=by
 simp[seen,closeEvents]
theorem FH{Q g w c n tm ats t cs}(hd:g.dying=none)(hm:g.frame.mode= .returning)
 (hdf:g.frame.defers=[{target:=.builtin .close ats t cs,args:=#[.chan (some c)]}]) (hch:w.heap[c]?=some (.chan 0 #[] false n n tm)) (m):
 stepG Q m g w= .go {frame:= {g.frame with defers:=[]},callers:=g.callers,status:=.running,dying:=none} (w.setChan c 0 #[] true n n tm) (closeEvents c):=by
 have hr:(invoke (.builtin .close ats t cs) #[.chan (some c)]).runT Q w #[]=(.ok (.value (.tuple #[])) (w.setChan c 0 #[] true n n tm),closeEvents c):=by
  show(SC ats t #[.chan (some c)]>>=λv=>pure (Tj v)).runT Q w #[]=_;rw[aM,T0,run_close_open _ _ hch,events_close_open _ _ hch];rfl
 simp_all[FI,By,stepG,unwind,No]
def Shut(k c:Nat)(t:Trace):Prop:=∃m op,t[m]?=some op/\op.g=k/\op.act= .close c/\(∀i x,m<i->t[i]?=some x->x.g=k->x.act.touch?=none)/\t.deaf k m=0
theorem Shut.app{k c t}(h:Shut k c t){u}(hu:∀op∈u,op.g=k->op.act.touch?=none):Shut k c (t++u):=by
 obtain⟨m,op,h1,h2,h3,h4,h5⟩:=h;have hlt:=lt_size_of_getElem? h1;refine⟨m,op,by rw[getElem?_append_old hlt];omega,h2,h3,λi x hi hx hg=> ?_,by rw[deaf_old (Nat.le_of_lt hlt)];omega⟩;grind
def Duo.shut(Z:Duo):Duo:= {Z with cls:=true}
section
variable{Z:Duo}{n:Nat}{pA pB p':Part}{gA gA' gB gB' g1 g1':AI}{wA wB w' w1 w1':AT}{t:Trace}{es':Array SM}
theorem Inv2.shut(I:Inv2 Z n pA gA wA gA' pB gB wB gB' w' t){tm}(hc:w'.heap[Z.c]?=some (.chan 0 #[] false n n tm))(fn pos):
 Inv2 Z.shut n pA gA wA gA' pB gB wB gB' (w'.setChan Z.c 0 #[] true n n tm) (t++BY Z.k fn pos (closeEvents Z.c))/\Shut Z.k Z.c (t++BY Z.k fn pos (closeEvents Z.c)):=by
 have hclt:=(x5.1 hc).1;have hset:∀i,i≠Z.c->(w'.setChan Z.c 0 #[] true n n tm).heap[i]?=w'.heap[i]?:=λi hi=>by
  grind [SH,up]
 have hsetc:(w'.setChan Z.c 0 #[] true n n tm).heap[Z.c]?=some (.chan 0 #[] true n n tm):=by simp[SH,hclt]
 have hsz:(w'.setChan Z.c 0 #[] true n n tm).heap.size=w'.heap.size:=by simp[SH]
 obtain⟨sA,rcA,hA⟩:=I.cA;obtain⟨b,sB,hB,hb⟩:=I.cB;have keepA:∀i,pA.K i->qD pA wA w' (w'.setChan Z.c 0 #[] true n n tm) i:=λi hi=>by
  by_cases hic:pA.κ i=Z.c
  .have:i=Z.rA:=I.SA.part.inj i Z.rA hi I.kA.1 (hic.trans I.kA.2.symm);subst this;refine .inr ⟨λo ho h3=> ?_,.chan 0 #[] true n n tm,by rw[hic];omega,trivial,.inr λo ho=> ?_⟩
   .rw[hA.1]at ho;cases ho;exact h3
   .rw[hA.1]at ho;cases ho;rfl
  .exact .inl (hset _ hic)
 have keepB:∀i,pB.K i->qD pB wB w' (w'.setChan Z.c 0 #[] true n n tm) i:=λi hi=>by
  by_cases hic:pB.κ i=Z.c
  .have:i=Z.rB:=I.SB.part.inj i Z.rB hi I.kB.1 (hic.trans I.kB.2.symm);subst this;refine .inr ⟨λo ho h3=> ?_,.chan 0 #[] true n n tm,by rw[hic];omega,trivial,.inr λo ho=> ?_⟩
   .rw[hB.1]at ho;cases ho;exact h3
   .rw[hB.1]at ho;cases ho;rfl
  .exact .inl (hset _ hic)
 have SA3:=I.SA.keep (w2':=w'.setChan Z.c 0 #[] true n n tm) (g2':=gA') (by rw[hsz];simp) rfl keepA ⟨rfl,rfl,rfl,(I.SA.relG _ (bL I.SA.part 0)).status.2⟩;have SB3:=I.SB.keep (w2':=w'.setChan Z.c 0 #[] true n n tm) (g2':=gB') (by rw[hsz];simp) rfl keepB ⟨rfl,rfl,rfl,(I.SB.relG _ (bL I.SB.part 0)).status.2⟩;have h0:=closeOps Z.k fn pos Z.c;have htr:PT Z.k (TT pA.κ Z.RoA wA) (TT pB.κ Z.RoB wB) (t++BY Z.k fn pos (closeEvents Z.c)):=by
  refine I.tr.NY (vr I.disj) ofEvents_g (λop hop b hb hm=> ?_) λg op hop d=> ?_
  .rw[h0]at hop;simp only[SF,T2,SU,or_false]at hop;rcases hop with rfl|rfl
   .simp only[T1,SS,Option.some.injEq]at hb;subst hb;exact⟨(λx hx=>by cases hx),λr hr=>rfl⟩
   .cases hb
  .rw[h0]at hop;simp only[SF,T2,SU,or_false]at hop;rcases hop with rfl|rfl<;>rfl
 refine⟨⟨SA3,SB3,I.cA,I.cB,I.kA,I.kB,⟨tm,hsetc⟩,I.eA,I.nT,I.oth,I.disj,htr,I.mA,I.mB,λx hx h4 h1 h2=>(hset x h4).trans (I.fr x hx h4 h1 h2),by rw[hsz];exact I.nz,I.out,I.val⟩,?_⟩;rw[h0];refine⟨t.size+1,{g:=Z.k,fn:=fn,pos:=pos,act:=.close Z.c},by rw[at_new];rfl,rfl,rfl,λi x hi hx hg=> ?_,?_⟩
 .have:=lt_size_of_getElem? hx;simp at this;omega
 .refine(deaf_quiet (k:=1) (λop hop d=> ?_) (by simp)).trans I.tr.hB;simp only[SF,T2,SU,or_false]at hop;rcases hop with rfl|rfl<;>rfl
end
def lP(Q:IS):Nat->AI->Prop
 |0,x=>x.status= .finished
 |n+1,x=>x.status= .running/\∃y,(∀w,stepG Q false x w= .go y w #[])/\lP Q n y
def Bst(Q:IS)(x:AI):Prop:=∃n,lP Q n x
theorem MN{Q fr b fn}(hm:fr.mode= .returning)(hk:fr.kind= .deferred)(hd:fr.defers=[])(hf:Q.funcs[fr.fn]?=some fn)(hr:fn.results=#[]){chain}(hb1:b.mode= .panicking chain)(hch:chain.head?.any (·.goexit)=true)(h0:∀e l,chain=e::l->e.recovered=false)(hb2:b.defers=[])(hb3:b.catches Q=false):
 Bst Q {frame:=fr,callers:=[b],status:=.running,dying:=none}:=by
 refine⟨2,rfl,{frame:=b,callers:=[],status:=.running,dying:=none},λw=> ?_,rfl,{frame:=b,callers:=[],status:=.finished,dying:=none},λw=> ?_,rfl⟩
 .have h1:=results_none hr fr.tmps Q w;have h2:(results fn fr.tmps).events Q w #[]=#[]:=events_results_none hr _ _;unfold stepG;dsimp only;rw[hm];dsimp only;unfold unwind;rw[hd];dsimp only;rw[hm];dsimp only;rw[hf];dsimp only;rw[T0,h1,h2];dsimp only;rw[seen_none];unfold doReturn;dsimp only;rw[hk];dsimp only;rw[hb1];cases chain with
  |nil=>cases hch
  |cons e l=>
   have:=h0 e l rfl;obtain⟨v,rc,gx⟩:=e;dsimp only at this;subst this;rfl
 .unfold stepG;dsimp only;rw[hb1];dsimp only;unfold unwind;rw[hb2];dsimp only;rw[hb1];dsimp only;rw[hb3,hch];rfl
theorem lP.quits{Q}:∀{n x},lP Q n x->QuitsD Q n 0 x
 |0,_,h=>⟨h,rfl⟩
 |n+1,_,⟨h,y,hy,hn⟩=>.inr ⟨h,y,#[],by simp,hy,hn.quits⟩
theorem lP.status{Q n x}(h:lP Q n x):x.status= .finished\/x.status= .running:=by
 cases n with
 |zero=>exact .inl h
 |succ n=>exact .inr h.1
theorem lP.woken{Q n x a a'}(h:lP Q n x)(w):woken Q a a' w x=x:=by
 unfold Go.Conc.woken;split
 .exact again_running _ (h.status.elim .inr .inl)
 rfl
theorem lP.awake{Q n x}(h:lP Q n x):awake x:=awake_of (h.status.elim (λh=>.inr (.inr h)) .inl)
theorem lP.quiet{Q n x}(h:lP Q n x)(r s):offersAt x r s=[]:=offersAt_of_not_blocked (λe=>by rcases h.status with h|h<;>simp[e]at h) r s
structure Pg(x g:AI):Prop where
 frame:x.frame=g.frame
 callers:x.callers=g.callers
 dying:x.dying=g.dying
 status:x.status= .running
def Done(Z:Duo)(KA KB:AI->AT->Prop)(m:Machine)(t:Trace):Prop:=
 ∃gs sl q pA gA wA gA' pB gB wB gB' w' c0 z ok t0,m=crowd gs w' sl/\Inv2 Z.shut Z.TA.size pA gA wA gA' pB gB wB gB' w' t0/\KA gA wA/\KB gB wB/\(∀m w2,stepG (alt Z.Q Z.βA) m gA w2= .comm (bo gA) #[c0] true (.recv ok) w2 #[])/\(∀σ,Ag pA σ->rcase Z.c z=jS σ c0)/\
  gs[0]?=some (SD (bo gA') (recvd ok z false))/\Leavers Z.Q t gs q/\Held t/\Deaf t 0=0
section
variable{Z:Duo}{KA KB M MB:AI->AT->Prop}
theorem eG.shut(H:eG Z KA KB):eG Z.shut KA KB:=⟨H.EA,H.EB,H.rA,H.rB,H.kA,H.kB,H.dA,H.dB,H.k0,H.sA,H.sB⟩
def xn(Z:Duo)(KA KB:AI->AT->Prop)(gA:AI)(wA:AT):Prop:=
 ∀pA gA' pB gB wB gB' w' t gs sl q x y,Inv2 Z.shut Z.TA.size pA gA wA gA' pB gB wB gB' w' t->KB gB wB->Shut Z.k Z.c t->Pg x gA'->Bst Z.Q y->di Z.Q Z.k x y gs q t->Runs Z.Q (crowd gs w' sl) t (Done Z KA KB)
theorem Jz{xA xB gs q t}(C:di Z.Q Z.k xA xB gs q t)(r s)(h:offersAt xB r s=[]):partners (gs.setIfInBounds 0 ph) r s=[]:=
 partners_nil λj g hj=>by
  rcases getElem?_stand gs 0 j g hj with⟨_,rfl⟩|⟨hne,hg⟩
  .rfl
  .by_cases hk:j=Z.k
   .subst hk;rw[C.b]at hg;grind
   .exact C.quiet hne hk hg r s
theorem di.leavers{Q k xA xB gs q t}(C:di Q k xA xB gs q t){n}(hB:lP Q n xB)(hd:Deaf t k=0):Leavers Q t gs (upd q k n):=by
 refine⟨λi g hi hg=> ?_,C.above⟩;by_cases hk:i=k
 .subst hk;rw[C.b]at hg;cases hg;rw[upd_same,hd];exact hB.quits
 .rw[upd_ne q n hk];exact C.old i g (by omega) hk hg
theorem xd(H:eG Z KA KB){gA wA}(hA:KA gA wA\/iB (alt Z.Q Z.βA) KA (λg w=>xn Z KA KB g w) gA wA):xn Z KA KB gA wA:=by
 intro pA gA' pB gB wB gB' w' t gs sl q x y I hKB hS hx ⟨n,hy⟩ C;generalize hM:sumTo gs.size q+n=M;induction M using SL generalizing w' t gs sl q x y n with
 |ind M ih=>
 obtain⟨tm,hch⟩:=I.ch;obtain⟨hrA,hdA⟩:=zx I;have h3:=om I;obtain⟨d,sl',hpick⟩:=C.pick (w:=w') (sl:=sl) H.k0 (awake_of (.inl hx.status)) hy.awake (.inl hx.status) λa a' d=>⟨woken_run hx.status,hy.woken _⟩
 have I2:=I.Nm w'.tape d;have hch2:(ah w' w'.tape d).heap[Z.c]?=some (.chan 0 #[] true Z.TA.size Z.TA.size tm):=hch;generalize h4:ah w' w'.tape d=w2 at I2 hch2 hpick;have hsame:∀m,stepG Z.Q m x w2=stepG Z.Q m gA' w2:=λm=>stepG_same hx.frame hx.callers hx.dying w2
 have hga:gs[0]?=some x:=C.a;rcases hpick with⟨_,hstep⟩|⟨hrun,hstep⟩|⟨gs2,q2,ops,hstep,C2,hlt,hmute,h0,hk⟩
 .
  rcases hA with h5|h6
  .obtain⟨⟨z,ok,hx1⟩,_⟩:=H.sA gA wA h5;obtain⟨c',k1,k2,k3⟩:=lq H.dA H.EA I2.SA h3 hx1 (0==0);obtain⟨e1,e2⟩:=caseA I2.SA I2.kA k3 rfl;obtain⟨ch',sd',z'⟩:=c';dsimp only at e1 e2;cases sd' with
   |some v=>cases e2
   |none=>
    subst e1;have h8:stepG Z.Q (0==0) x w2= .comm (bo gA') #[rcase Z.c z'] true (.recv ok) w2 #[]:=(hsame _).trans k1;have hp:=Jz C Z.c true (hy.quiet Z.c true);have hr:=crowd_recv_closed (sl:=sl') hga h8 hch2 hp;rw[finishComm_recv]at hr;refine Runs.step (hstep.trans hr) (.here ?_);have hes:BY 0 x.frame.fn x.frame.place #[]=#[]:=rfl;rw[hes,Array.empty_append];obtain⟨m,op,s1,s2,s3,s4,s5⟩:=hS;have h1:=I2.tr.found (y:= {g:=0,fn:=(bo gA').frame.fn,pos:=(bo gA').frame.place,act:=.recvClosed Z.c}) s1 s2 ⟨_,s3,trivial⟩ s3 s4 s5 rfl rfl;have hq:Quiet (#[{g:=0,fn:=(bo gA').frame.fn,pos:=(bo gA').frame.place,act:=.recvClosed Z.c}]:Trace):=λg op hop d=>by
     simp only[SF,T2,SU,or_false]at hop;subst hop;rfl
    have C2:=(C.As H.k0 (SD (bo gA') (recvd ok z' false))).trace (t2:=t++ #[{g:=0,fn:=(bo gA').frame.fn,pos:=(bo gA').frame.place,act:=.recvClosed Z.c}]) λi _ _=>Deaf_quiet (hq i)
    exact⟨_,_,_,pA,gA,wA,gA',pB,gB,wB,gB',w2,_,z',ok,t,rfl,I2,h5,hKB,hx1,k3.re,C2.a,C2.leavers hy ((Deaf_quiet (hq Z.k)).trans I2.tr.hB),h1,(Deaf_quiet (hq 0)).trans I2.tr.hA⟩
  .have h7:=h6;obtain⟨G,W,E0,hone,h2⟩:=h6;rcases oQ (M:=λg w=>xn Z KA KB g w) H.dA H.EA H.rA H.kA I2.SA hone h2 h3 (0==0)with⟨g1,w1,g1',w1',es',p',hx1,S1,hE,hT,h9⟩|⟨c,c',sh,hx1,hC,ho⟩|⟨_,hbig⟩
   .have hr:=runT_crowd_go (P:=Z.Q) (sl:=sl') (i:=0) hga ((hsame _).trans hx1);refine Runs.step (hstep.trans hr) ?_;have I3:=I2.Br S1 hE x.frame.fn x.frame.place;have C3:=C.Br (x:=x) (y:=g1') (w1:=w1') H.k0 (hy.woken _) (u:=BY 0 x.frame.fn x.frame.place es') ofEvents_g;obtain⟨hc,hd1⟩:=zx I3;exact h9 p' g1' pB gB wB gB' w1' _ _ sl' q g1' y I3 hKB (hS.app λop hop hg=>by have:=ofEvents_g op hop;rw[hg]at this;exact absurd this H.k0) ⟨rfl,rfl,rfl,hc⟩ ⟨n,hy⟩ C3
   .exfalso;obtain⟨_,c0,hc0,hc1⟩:=hC;have hcc:c0=c:=by simpa using hc0.symm
    subst hcc;rcases hc1 with⟨h,_⟩|⟨_,ok,rfl,hs⟩
    .cases h
    obtain⟨_,a,ha,_⟩:=taken H.shut I2 ho hs h7;have:=(x5.1 ha).1;exact absurd this (Nat.lt_irrefl _)
   .exact hbig.elim
 .
  cases n with
  |zero=>have:y.status= .finished:=hy;rw[this]at hrun;cases hrun
  |succ n=>
  obtain⟨_,y2,hd,hf⟩:=hy;have hgb:gs[Z.k]?=some y:=C.b;have hk0:(Z.k==0)=false:=by simpa using H.k0
  have hr:=runT_crowd_go (P:=Z.Q) (sl:=sl') (i:=Z.k) hgb (by rw[hk0];exact hd w2);refine Runs.step (hstep.trans hr) ?_;have C3:=C.HR (x:=y) (y:=y2) (w1:=w2) H.k0 (woken_run hx.status) (u:=BY Z.k y.frame.fn y.frame.place #[]) ofEvents_g;have hes:BY Z.k y.frame.fn y.frame.place #[]=#[]:=rfl;rw[hes,SR]at C3 ⊢;subst h4;refine ih _ ?_ _ _ _ sl' q x y2 I2 hS hx n hf C3 rfl;rw[<- hM];simp
 .refine Runs.step hstep (ih (sumTo gs2.size q2+n) (by omega) _ _ gs2 sl' q2 x y ?_ (hS.app λop hop _=>hmute op hop) hx n hy C2 rfl);subst h4;exact I.mute w'.tape d hmute h0 hk
theorem IF(H:eG Z KA KB){gA wA}(TA:Tree (alt Z.Q Z.βA) KA gA wA):xn Z KA KB gA wA:=by
 induction TA with
 |stop h1=>exact xd H (.inl h1)
 |step G W E hr hone h0 ih=>exact xd H (.inr ⟨G,W,E,hone,λτ d hb=>⟨h0 τ d hb,ih τ d hb⟩⟩)
def xm(Z:Duo)(KA KB:AI->AT->Prop)(gA:AI)(wA:AT):Prop:=
 ∀pA gA' pB gB wB gB' w' t st gs sl q,Inv2 Z Z.TA.size pA gA wA gA' pB gB wB gB' w' t->Wt.Ok Z pA gA pB gB st->di Z.Q Z.k (st.xA Z gA') (st.xB Z gB') gs q t->(∀c v0 v z,st≠.rb c v0 v z)->KB gB wB->Runs Z.Q (crowd gs w' sl) t (Done Z KA KB)
theorem shut_node(hcl:Z.cls=false)(H:eG Z KA KB)(HB:G0 Z KB){gA wA}(TA:Tree (alt Z.Q Z.βA) KA gA wA)(hA:KA gA wA\/iB (alt Z.Q Z.βA) KA (λg w=>xm Z KA KB g w) gA wA):xm Z KA KB gA wA:=by
 intro pA gA' pB gB wB gB' w' t st gs sl q I hst C h1 hKB;generalize hM:sumTo gs.size q+st.bit=M;induction M using SL generalizing w' t st gs sl q with
 |ind M ih=>
 obtain⟨tm,hch⟩:=I.ch;rw[hcl]at hch;obtain⟨hrA,hc⟩:=zx I;obtain⟨h2,hd⟩:=Lc I;have hxB:st.xB Z gB'=gB':=by
  cases st with
  |rr=>rfl
  |ar c z ok=>rfl
  |rb c v0 v z=>exact absurd rfl (h1 c v0 v z)
 obtain⟨d,sl',hpick⟩:=C.pick (w:=w') (sl:=sl) H.k0 (IB st hrA) (IA st h2) (.inr (by rw[hxB];omega)) λa a' d=>⟨zP st hrA hch a a',zO st h2 hch a a'⟩
 have I2:=I.Nm w'.tape d;have hch2:(ah w' w'.tape d).heap[Z.c]?=some (.chan 0 #[] false Z.TA.size Z.TA.size tm):=hch;generalize h5:ah w' w'.tape d=w2 at I2 hch2 hpick;rcases hpick with⟨hrun,hstep⟩|⟨hrun,hstep⟩|⟨gs2,q2,ops,hstep,C2,hlt,hmute,h0,hk⟩
 .
  have hxA:st= .rr:=by
   cases st with
   |rr=>rfl
   |ar c z ok=>cases hrun
   |rb c v0 v z=>exact absurd rfl (h1 c v0 v z)
  subst hxA;have hga:gs[0]?=some gA':=C.a;rcases hA with he|h6
  .obtain⟨⟨z,ok,hx1⟩,_⟩:=H.sA gA wA he;obtain⟨c',k1,k2,k3⟩:=lq H.dA H.EA I2.SA (om I2) hx1 (0==0);obtain⟨e1,e2⟩:=caseA I2.SA I2.kA k3 rfl;obtain⟨ch',sd',z'⟩:=c';dsimp only at e1 e2;cases sd' with
   |some v=>cases e2
   |none=>
    subst e1;have h7:stepG Z.Q (0==0) gA' w2= .comm (bo gA') #[rcase Z.c z'] true (.recv ok) w2 #[]:=k1;have hnw:∀cc∈(#[rcase Z.c z']:Array CommCase),NoWays w2 (gs.setIfInBounds 0 ph) cc:=λcc hcc=>by
     have:cc=rcase Z.c z':=by grind
     subst this;refine⟨made_recv z' hch2,?_⟩;have:=GX C H.k0 Z.c true (mD h2 Z.c true);simp[ways,rcase,hch2,this]
    have hr:=crowd_waits (sl:=sl') hga h7 hnw;refine Runs.step (hstep.trans hr) ?_;have hes:BY 0 gA'.frame.fn gA'.frame.place #[]=#[]:=rfl;rw[hes,SR];subst h5;refine ih _ ?_ _ _ (.ar {chan:=.chan (some Z.rA),send:=none,zero:=z} z' ok) _ sl' q I2 ⟨rfl,rfl,k3⟩ (C.As H.k0 _) (λ_ _ _ _ e=>by cases e) rfl;rw[<- hM];simp[Wt.bit]
  .have h8:=h6;obtain⟨G,W,E0,hone,h4⟩:=h6;rcases oQ (M:=λg w=>xm Z KA KB g w) H.dA H.EA H.rA H.kA I2.SA hone h4 (om I2) (0==0)with⟨g1,w1,g1',w1',es',p',hx1,S1,hE,hT,hf⟩|⟨c,c',sh,hx1,hC,ho⟩|⟨_,hbig⟩
   .have hr:=runT_crowd_go (P:=Z.Q) (sl:=sl') (i:=0) hga hx1;refine Runs.step (hstep.trans hr) ?_;have I3:=I2.Br S1 hE gA'.frame.fn gA'.frame.place;have C3:=C.Br (x:=gA') (y:=g1') (w1:=w1') H.k0 (woken_run h2) (u:=BY 0 gA'.frame.fn gA'.frame.place es') ofEvents_g;exact hf p' g1' pB gB wB gB' w1' _ .rr _ sl' q I3 trivial C3 (λ_ _ _ _ e=>by cases e) hKB
   .exfalso;obtain⟨_,c0,hc0,hc1⟩:=hC;have hcc:c0=c:=by simpa using hc0.symm
    subst hcc;rcases hc1 with⟨h,_⟩|⟨_,ok,rfl,hs⟩
    .cases h
    obtain⟨_,a,ha,_⟩:=taken H I2 ho hs h8;have:=(x5.1 ha).1;exact absurd this (Nat.lt_irrefl _)
   .exact hbig.elim
 .
  have hgb:gs[Z.k]?=some gB':=C.b.trans (congrArg some hxB);obtain⟨⟨bf,hcs,hbo⟩,hmo,hki,⟨ats,tt,cs,hdf⟩,fn,hfn,hres⟩:=HB.stop gB wB hKB;have hrel:=I2.SB.relG _ (bL I2.SB.part 0);have hkap:pB.far w2.heap.size 0 Z.rB=Z.c:=((bL I2.SB.part 0).2 _ I2.kB.1).trans I2.kB.2;have f1:gB'.frame.mode= .returning:=by rw[hrel.frame,fL,hmo];rfl
  have f2:gB'.frame.kind= .deferred:=by rw[hrel.frame,oS];exact hki
  obtain⟨bf',f3,hb1,hb2,hb3,hg⟩:∃bf',gB'.callers=[bf']/\bf'.mode= .panicking [goexitEntry]/\bf'.defers=[]/\bf'.fn=bf.fn/\bf'.todo=bf.todo:=by
   refine⟨aC (pB.far w2.heap.size 0) bf,?_,?_,?_,rfl,rfl⟩
   .rw[hrel.callers,hcs,HB.rest];rfl
   .rw[fL,hbo.mode];simp[oa,jn,goexitEntry]
   .rw[jG,hbo.defers];rfl
  have f4:gB'.frame.defers=[{target:=.builtin .close ats tt cs,args:=#[.chan (some Z.c)]}]:=by
   rw[hrel.frame,jG,hdf];simp[lu,AG,hkap]
  have f5:gB'.frame.fn=gB.frame.fn:=by rw[hrel.frame];rfl
  have h3:=FH (Q:=Z.Q) hd f1 f4 hch2 (Z.k==0);rw[f3]at h3;have hr:=runT_crowd_go (P:=Z.Q) (sl:=sl') (i:=Z.k) hgb h3;refine Runs.step (hstep.trans hr) ?_;obtain⟨I3,hS⟩:=I2.shut hch2 gB'.frame.fn gB'.frame.place;have hclt:=(x5.1 hch2).1;have hsetc:(w2.setChan Z.c 0 #[] true Z.TA.size Z.TA.size tm).heap[Z.c]?=some (.chan 0 #[] true Z.TA.size Z.TA.size tm):=by simp[SH,hclt]
  have hmw:mayWake Z.Q gB'=true:=by unfold mayWake;rw[f1]
  obtain⟨x,hh,h9⟩:∃x,woken Z.Q gB' {frame:= {gB'.frame with defers:=[]},callers:=[bf'],status:=.running,dying:=none} (w2.setChan Z.c 0 #[] true Z.TA.size Z.TA.size tm) (st.xA Z gA')=x/\Pg x gA':=by
   cases st with
   |rr=>exact⟨gA',woken_run hrA,rfl,rfl,rfl,hrA⟩
   |rb c v0 v z=>exact absurd rfl (h1 c v0 v z)
   |ar c z ok=>
    refine⟨{parked (bo gA') #[rcase Z.c z] (.recv ok)with status:=.running},?_,rfl,rfl,?_,rfl⟩
    .show Go.Conc.woken _ _ _ _ (parked (bo gA') #[rcase Z.c z] (.recv ok))=_;unfold Go.Conc.woken;rw[hmw];exact(if_pos rfl).trans (again_recv_closed hsetc)
    .exact hc.symm
  have C3:=C.HR (x:=gB') (y:= {frame:= {gB'.frame with defers:=[]},callers:=[bf'],status:=.running,dying:=none}) (w1:=w2.setChan Z.c 0 #[] true Z.TA.size Z.TA.size tm) H.k0 hh (u:=BY Z.k gB'.frame.fn gB'.frame.place (closeEvents Z.c)) ofEvents_g;exact IF H TA pA gA' pB gB wB gB' _ _ _ sl' q x _ I3 hKB hS h9 (MN (fr:= {gB'.frame with defers:=[]}) f1 f2 rfl (by rw[show({gB'.frame with defers:=[]}:SG).fn=gB'.frame.fn from rfl,f5];exact hfn) hres hb1 rfl λe l h=>by cases h;rfl hb2 (by unfold Frame.catches;rw[hb3,hg,hbo.fn,hbo.todo])) C3
 .refine Runs.step hstep (ih (sumTo gs2.size q2+st.bit) (by omega) _ _ st gs2 sl' q2 ?_ hst C2 h1 rfl);subst h5;exact I.mute w'.tape d hmute h0 hk
theorem Jl(hcl:Z.cls=false)(H:eG Z KA KB)(HB:G0 Z KB){gA wA}(TA:Tree (alt Z.Q Z.βA) KA gA wA):xm Z KA KB gA wA:=by
 induction TA with
 |stop h1=>exact shut_node hcl H HB (.stop h1) (.inl h1)
 |step G W E hr hone h0 ih=>exact shut_node hcl H HB (.step G W E hr hone h0) (.inr ⟨G,W,E,hone,λτ d hb=>⟨h0 τ d hb,ih τ d hb⟩⟩)
theorem pair(hcl:Z.cls=false)(H:eG Z KA KB)(HB:G0 Z KB){gA gB gA' gB' wA wB w' pA pB t gs sl q}
 (TA:Tree (alt Z.Q Z.βA) KA gA wA) (TB:Tree (alt Z.Q Z.βB) KB gB wB) (I:Inv2 Z 0 pA gA wA gA' pB gB wB gB' w' t) (C:di Z.Q Z.k gA' gB' gs q t):Runs Z.Q (crowd gs w' sl) t (Done Z KA KB):=by
 refine(AQ hcl H TA gB wB TB 0 pA gA' pB gB' w' t .rr gs sl q I trivial C).bind λm' t' h=> ?_
 obtain⟨st,gs2,sl2,q2,n,pA2,gA2,wA2,gA2',pB2,gB2,wB2,gB2',w2',rfl,I2,hst,C2,h0,TA2,hKB⟩:=h;have hn:n=Z.TA.size:=by
  obtain⟨b,s,hO,hb⟩:=I2.cB;obtain⟨_,F,s3,hF,hsz,_⟩:=H.sB gB2 wB2 hKB;have:=hF.symm.trans hO.1;grind
 subst hn;exact Jl hcl H HB TA2 pA2 gA2' pB2 gB2 wB2 gB2' w2' t' st gs2 sl2 q2 I2 hst C2 h0 hKB
end
end
section
open Go.Conc
variable[aD]
structure bg(h0:Array Obj)(w w':AT):Prop where
 size:w'.heap.size=w.heap.size
 tape:w'.tape=w.tape
 drawn:w'.drawn=w.drawn
 os:w'.os=w.os
 output:w'.output=w.output
 blk:∀i:Nat,w.heap[i]?=w'.heap[i]?\/(w.heap[i]?=some (.coro none)/\((∃l,w'.heap[i]?=some (.loop l))\/∃d,w'.heap[i]?=some (.deferred d)))
 keep:∀i:Nat,w.heap[i]?=some (.coro none)->w'.heap[i]?=h0[i]?
section
variable{P:IS}{w w' w1:AT}{h0:Array Obj}
theorem bg.ah(h:bg h0 w w')(τ d):bg h0 (ah w τ d) (ah w' τ d):=⟨h.size,rfl,rfl,h.os,h.output,h.blk,h.keep⟩
theorem bg.cell(h:bg h0 w w')(a):w'.cell? a=w.cell? a:=by
 unfold World.cell?;rcases h.blk a.block with e|⟨e,⟨l,e'⟩|⟨l,e'⟩⟩<;>grind
theorem bg.shape(h:bg h0 w w')(r):w'.shape? r=w.shape? r:=by
 unfold World.shape?;rcases h.blk r with e|⟨e,⟨l,e'⟩|⟨l,e'⟩⟩<;>grind
theorem bg.frozen(h:bg h0 w w')(a):w'.frozen? a=w.frozen? a:=by
 unfold World.frozen?;rcases h.blk a.block with e|⟨e,⟨l,e'⟩|⟨l,e'⟩⟩<;>grind
theorem bg.noCell(h:bg h0 w w')(a s):w'.noCell a s=w.noCell a s:=by
 unfold World.noCell;rcases h.blk a.block with e|⟨e,⟨l,e'⟩|⟨l,e'⟩⟩<;>grind
theorem bg.seen(h:bg h0 w w')(x u a b):w'.seen P x u a b=w.seen P x u a b:=by
 unfold World.seen;rcases h.blk x.block with e|⟨e,⟨l,e'⟩|⟨l,e'⟩⟩
 .rw[e]
 .rw[e,e']
 .rw[e,e']
theorem bg.load(h:bg h0 w w')(a b):w'.farLoad P a b=w.farLoad P a b:=by
 simp[World.farLoad,h.noCell];have hv:∀x u,w'.viewLoad P x u a b=w.viewLoad P x u a b:=λx u=>by simp[World.viewLoad,h.seen]
 rcases h.blk a.block with e|⟨e,⟨l,e'⟩|⟨l,e'⟩⟩<;>grind
theorem bg.set(h:bg h0 w w')(r o)(ho:pE o):bg h0 {w with heap:=w.heap.setIfInBounds r o} {w' with heap:=w'.heap.setIfInBounds r o}:=by
 refine⟨by simp[h.size],h.tape,h.drawn,h.os,h.output,λi=> ?_,λi h1=> ?_⟩
 .by_cases hi:r=i
  .subst hi;simp[SZ,h.size]
  .rw[up hi,up hi];exact h.blk i
 .by_cases hi:r=i
  .subst hi;rw[SZ,if_pos rfl]at h1;split at h1
   .cases h1;exact ho.elim
   grind
  .rw[up hi]at h1 ⊢;exact h.keep i h1
theorem bg.push(h:bg h0 w w')(o)(ho:pE o):bg h0 {w with heap:=w.heap.push o} {w' with heap:=w'.heap.push o}:=by
 refine⟨by simp[h.size],h.tape,h.drawn,h.os,h.output,λi=> ?_,λi h1=> ?_⟩
 .rw[SK,SK,h.size];split
  .exact .inl rfl
  .exact h.blk i
 .rw[SK]at h1 ⊢;rw[h.size];split at h1
  .cases h1;exact ho.elim
  .rename_i hne;rw[if_neg hne];exact h.keep i h1
theorem bg.modify(h:bg h0 w w')(r f)(h1:f (.coro none)= .coro none)(h2:∀l,f (.loop l)= .loop l)(h3:∀d,f (.deferred d)= .deferred d)(h4:∀o,f o= .coro none->o= .coro none):bg h0 {w with heap:=w.heap.modify r f} {w' with heap:=w'.heap.modify r f}:=by
 refine⟨by simp[h.size],h.tape,h.drawn,h.os,h.output,λi=> ?_,λi h5=> ?_⟩
 .dsimp only;rw[SW,SW];split
  .rcases h.blk i with e|⟨e,⟨l,e'⟩|⟨l,e'⟩⟩<;>grind
  .exact h.blk i
 .dsimp only at h5 ⊢;rw[SW]at h5 ⊢;split at h5
  .obtain⟨o,ho,he⟩:=IN.1 h5;have:=h4 o he;subst this;have hk:=h.keep i ho;rcases h.blk i with e|⟨e,⟨l,e'⟩|⟨l,e'⟩⟩<;>grind
  .rename_i h6;rw[if_neg h6];exact h.keep i h5
theorem bg.setCell(h:bg h0 w w')(a v):bg h0 (w.setCell a v) (w'.setCell a v):=h.modify _ _ rfl (λ_=>rfl) (λ_=>rfl) λo ho=>by cases o<;>first |(exact ho)|(cases ho)
theorem bg.freeze(h:bg h0 w w')(a n):bg h0 (w.freeze a n) (w'.freeze a n):=by
 unfold World.freeze;split
 .exact h
 .exact h.modify _ _ rfl (λ_=>rfl) (λ_=>rfl) λo ho=>by cases o<;>first |(exact ho)|(cases ho)
theorem bg.Nc(h:bg h0 w w')(a v b){x}(e:w.farStore P a v b= .error x):w'.farStore P a v b= .error x:=by
 unfold T9 at e ⊢;rw[h.noCell];have hv:∀x u y,w.viewStore P x u a v b= .error y->w'.viewStore P x u a v b= .error y:=λx u y e=>by
  unfold Ti at e ⊢;rw[h.seen];simp only[bind,Except.bind,pure,Except.pure]at e ⊢;by_cases ht:tight P P.depth u=true
  .simp only[ht,Td,SQ,if_false]at e ⊢;cases hs:w.seen P x u a b with
   |error z=>rw[hs]at e;omega
   |ok z=>
    rw[hs]at e;obtain⟨c,e2,fz,first,like,cells⟩:=z;dsimp only at e ⊢;cases hb:v.bytes? <;>grind
  .simp only[ht]at e ⊢;exact e
 rcases h.blk a.block with e1|⟨e1,⟨l,e'⟩|⟨l,e'⟩⟩
 .rw[<- e1];split at e
  .split at e
   .cases e
   .rename_i h1;rw[hv _ _ _ h1];exact e
  .exact e
 .rw[e1]at e;rw[e'];exact e
 .rw[e1]at e;rw[e'];exact e
theorem bg.Nb(h:bg h0 w w')(a v b){l}(e:w.farStore P a v b= .ok (w1,l)):∃w1',w'.farStore P a v b= .ok (w1',l)/\bg h0 w1 w1':=by
 unfold T9 at e ⊢;have hv:∀x u y,w.viewStore P x u a v b= .ok y->∃y',w'.viewStore P x u a v b= .ok (y',y.2)/\bg h0 y.1 y':=λx u y e=>by
  unfold Ti at e ⊢;rw[h.seen];simp only[bind,Except.bind,pure,Except.pure]at e ⊢;by_cases ht:tight P P.depth u=true
  .simp only[ht,Td,SQ,if_false]at e ⊢;cases hs:w.seen P x u a b with
   |error z=>rw[hs]at e;cases e
   |ok z=>
    rw[hs]at e;obtain⟨c,e2,fz,first,like,cells⟩:=z;dsimp only at e ⊢;cases hb:v.bytes? with
    |none=>rw[hb]at e;cases e
    |some bytes=>
     rw[hb]at e;dsimp only at e ⊢;split at e
     .cases e
     .rename_i hc;rw[if_neg hc];split at e
      .cases e
      .cases e;exact⟨_,rfl,h.set _ _ trivial⟩
  .simp only[ht]at e;cases e
 rcases h.blk a.block with e1|⟨e1,⟨l2,e'⟩|⟨l2,e'⟩⟩
 .rw[<- e1];split at e
  .split at e
   .rename_i h1;obtain⟨y',k1,k2⟩:=hv _ _ _ h1;rw[k1];cases e;exact⟨_,rfl,k2⟩
   .cases e
  .cases e
 .rw[e1]at e;cases e
 .rw[e1]at e;cases e
theorem MP{α}(x:Ask α):∀{w w'},bg h0 w w'->(w'.ask x).1=(w.ask x).1/\bg h0 (w.ask x).2 (w'.ask x).2:=by
 induction x with
 |done a=>exactλh=>⟨rfl,h⟩
 |ask what range k ih=>
  intro w w' h;by_cases hf:(Question.extern what range).forced=true
  .rw[y6 _ _ _ _ hf,y6 _ _ _ _ hf];grind
  .rw[BX _ _ _ _ hf,BX _ _ _ _ hf,h.tape,h.drawn];exact ih _ (h.ah _ _)
theorem LG(c)(h:bg h0 w w'):(w'.sys c).1=(w.sys c).1/\bg h0 (w.sys c).2 (w'.sys c).2:=by
 simp[World.sys,h.os];obtain⟨h1,h2⟩:=MP (Ta c w.os) h;generalize w.ask (Ta c w.os)=x at h1 h2 ⊢;generalize w'.ask (Ta c w.os)=x' at h1 h2 ⊢;obtain⟨⟨r,os⟩,u⟩:=x;obtain⟨⟨r',os'⟩,u'⟩:=x';cases h1;cases r<;>first |exact⟨rfl,h⟩|exact⟨rfl,h2.size,h2.tape,h2.drawn,rfl,h2.output,h2.blk,h2.keep⟩
def oo{α:Type}(r:Except Halt α)(u:AT):Result α:=match r with
 | .ok a=>.ok a u
 | .error h=>.halt h u
theorem uO{α dy mk}{s:Sem α}(hs:cw P dy mk s):∀w w' es,an w->bg h0 w w'->(dy=true/\∃h u e,s.runT P w es=(.halt h u,e)/\Dead h)\/∃r u u' e,s.runT P w es=(oo r u,e)/\s.runT P w' es=(oo r u',e)/\bg h0 u u':=by
 induction s with
 |pure a=>exactλw w' es _ h=>.inr ⟨.ok a,w,w',es,rfl,rfl,h⟩
 |halt x=>exactλw w' es _ h=>.inr ⟨.error x,w,w',es,rfl,rfl,h⟩
 |load m a k ih=>
  intro w w' es hw h;simp only[Sv,h.cell,h.load];cases w.cell? a with
  |some v=>exact ih _ (hs _) _ _ _ hw h
  |none=>
   dsimp only;cases w.farLoad P a (m== .atomic)with
   |ok r=>exact ih _ (hs _) _ _ _ hw h
   |error e=>exact .inr ⟨.error e,w,w',_,rfl,rfl,h⟩
 |store m a v k ih=>
  intro w w' es hw h;have e0:v.oneCell'=true->∀u:AT,(Sem.store m a v k).runT P u es=(match u.cell? a with
   |some _=>if u.frozen? a then(.halt (.unsupported (.unsafePointer "a write to bytes that a string shares")) u,es)else k.runT P (u.setCell a v) (es.push ⟨.cell a,true,m== .atomic⟩)
   |none=>match u.farStore P a v (m== .atomic)with
    | .ok (u,touched)=>k.runT P u (es++touched.toArray.map (⟨.cell ·,true,m== .atomic⟩))
    | .error h=>(.halt h u,es)):=λhv u=>by
   cases v<;>first |rfl|(exact absurd hv (by decide))|(simp[Value.oneCell']at hv)
  by_cases hv:v.oneCell'=true
  .rw[e0 hv,e0 hv,h.cell,h.frozen];cases hc:w.cell? a with
   |some o=>
    dsimp only;split
    .exact .inr ⟨.error _,w,w',_,rfl,rfl,h⟩
    .exact ih hs _ _ _ (eO hw _ _) (h.setCell a v)
   |none=>
    dsimp only;cases hf:w.farStore P a v (m== .atomic)with
    |ok r=>
     obtain⟨w1,l⟩:=r;obtain⟨w1',k1,k2⟩:=h.Nb a v _ hf;rw[k1];exact ih hs _ _ _ (gp hw hf) k2
    |error e=>
     rw[h.Nc a v _ hf];exact .inr ⟨.error e,w,w',_,rfl,rfl,h⟩
  .have e1:∀u:AT,(Sem.store m a v k).runT P u es=(.halt (.stuck "store: not the value of one cell") u,es):=λu=>by
    cases v<;>first |rfl|(exact absurd rfl hv)
   rw[e1,e1];exact .inr ⟨.error _,w,w',es,rfl,rfl,h⟩
 |new o k ih=>
  intro w w' es hw h;simp only[Sv,h.size];exact ih _ (hs.2 _) _ _ _ (jK hw hs.1) (h.push o hs.1)
 |shape r k ih=>
  intro w w' es hw h;simp only[Sv,h.shape];exact ih _ (hs _) _ _ _ hw h
 |freeze a n k ih=>exactλw w' es hw h=>ih hs _ _ _ (iz hw _ _) (h.freeze a n)
 |frozen a k ih=>
  intro w w' es hw h;simp only[Sv,h.frozen];exact ih _ (hs _) _ _ _ hw h
 |getObj r k ih=>
  intro w w' es hw h;rcases h.blk r with e|⟨e,e'⟩
  .cases ho:w.heap[r]? with
   |none=>
    simp only[Sv,<- e,ho];exact .inr ⟨.error _,w,w',es,rfl,rfl,h⟩
   |some o=>
    have hk:=hs.1 o (hw _ _ ho).i;simp only[Sv,<- e,ho];cases o;case cells c t f=>exact .inr ⟨.error _,w,w',es,rfl,rfl,h⟩
    all_goals exact ih _ hk _ _ _ hw h
  .have key:∀o:Obj,w'.heap[r]?=some o->o.isChan=false->k o=k (.coro none)->(∀c t f,o≠.cells c t f)->(dy=true/\∃h u e,(SX r k).runT P w es=(.halt h u,e)/\Dead h)\/∃x u u' e,(SX r k).runT P w es=(oo x u,e)/\(SX r k).runT P w' es=(oo x u',e)/\bg h0 u u':=λo ho hc h3 hnc=>by
    have h1:(SX r k).runT P w es=(k (.coro none)).runT P w (es.push ⟨.obj r,false,false⟩):=by simp only[Sv,e];rfl
    have h2:(SX r k).runT P w' es=(k (.coro none)).runT P w' (es.push ⟨.obj r,false,false⟩):=by
     rw[<- h3,<- hc];grind [Sv]
    rw[h1,h2];exact ih _ (hs.1 _ (.inr (.inr ⟨_,rfl⟩))) _ _ _ hw h
   rcases hs.2 with⟨hy,x,hx,hd⟩|⟨hl,hd⟩
   .refine .inl ⟨hy,x,w,es.push ⟨.obj r,false,false⟩,?_,hd⟩;have h1:(SX r k).runT P w es=(k (.coro none)).runT P w (es.push ⟨.obj r,false,false⟩):=by simp only[Sv,e];rfl
    rw[h1,hx];rfl
   .rcases e' with⟨l,e'⟩|⟨d,e'⟩
    .exact key _ e' rfl (hl l) λ_ _ _ h=>by cases h
    .exact key _ e' rfl (hd d) λ_ _ _ h=>by cases h
 |setObj r o k ih=>
  intro w w' es hw h;have hgo:(∃o1,w.heap[r]?=some o1/\∀c t f,o1≠.cells c t f)->(∃o1,w'.heap[r]?=some o1/\∀c t f,o1≠.cells c t f)->(dy=true/\∃h u e,(Tc r o k).runT P w es=(.halt h u,e)/\Dead h)\/∃x u u' e,(Tc r o k).runT P w es=(oo x u,e)/\(Tc r o k).runT P w' es=(oo x u',e)/\bg h0 u u':=λ⟨o1,h1,n1⟩ ⟨o2,h2,n2⟩=>by
   have e0:∀(u:AT)(o1:Obj),u.heap[r]?=some o1->(∀c t f,o1≠.cells c t f)->(Tc r o k).runT P u es=k.runT P {u with heap:=u.heap.setIfInBounds r o} (es.push ⟨.obj r,true,o.isChan⟩):=λu o1 hu hn=>by
    simp only[Sv,hu];try(cases o1<;>first |rfl|exact absurd rfl (hn _ _ _))
   rw[e0 w o1 h1 n1,e0 w' o2 h2 n2];exact ih hs.2 _ _ _ (eE hw hs.1) (h.set r o hs.1)
  rcases h.blk r with e|⟨e,e'⟩
  .cases ho:w.heap[r]? with
   |none=>
    simp only[Sv,<- e,ho];exact .inr ⟨.error _,w,w',es,rfl,rfl,h⟩
   |some o1=>
    by_cases hc:∃c t f,o1= .cells c t f
    .obtain⟨c,t,f,rfl⟩:=hc;simp only[Sv,<- e,ho];exact .inr ⟨.error _,w,w',es,rfl,rfl,h⟩
    .have hn:∀c t f,o1≠.cells c t f:=λc t f h=>hc ⟨c,t,f,h⟩
     exact hgo ⟨o1,ho,hn⟩ ⟨o1,e▸ho,hn⟩
  .rcases e' with⟨l,e'⟩|⟨d,e'⟩
   .exact hgo ⟨_,e,λ_ _ _ h=>by cases h⟩ ⟨_,e',λ_ _ _ h=>by cases h⟩
   .exact hgo ⟨_,e,λ_ _ _ h=>by cases h⟩ ⟨_,e',λ_ _ _ h=>by cases h⟩
 |choose q k ih=>
  intro w w' es hw h;have ht:=h.tape;have hd:=h.drawn;simp only[Sv,ht,hd];split
  .exact ih _ (hs _) _ _ _ hw h
  .exact ih _ (hs _) {w with drawn:=w.drawn+1} {w' with tape:=w.tape,drawn:=w.drawn+1} _ hw ⟨h.size,rfl,rfl,h.os,h.output,h.blk,h.keep⟩
 |sys c k ih=>
  intro w w' es hw h;obtain⟨h1,h2⟩:=LG c h;simp only[Sv,h1];exact ih _ (hs.2 _) _ _ _ (kU hw c) h2
 |program k ih=>exactλw w' es hw h=>ih _ hs _ _ _ hw h
 |mark m k ih=>exactλw w' es hw h=>ih hs.2 _ _ _ hw h
end
def fW(h0:Array Obj)(Q:IS)(β:Nat->Option Code)(x x':GStep):Prop:=
 (∀g1 w1 es,x= .go g1 w1 es->g1.status= .running->qc Q β g1\/∃w1',x'= .go g1 w1' es/\bg h0 w1 w1')/\(Big x.es->Big x'.es)
def iN(x:GStep):Prop:=(∀g1 w1 es,x= .go g1 w1 es->g1.status= .running->False)/\¬ Big x.es
section
variable{Q:IS}{β:Nat->Option Code}{x x':GStep}{w w' u u':AT}{h0:Array Obj}
theorem bc(h:bg h0 u u'){g es}:fW h0 Q β (.go g u es) (.go g u' es):=⟨λg1 w1 es1 e _=>by
 grind,id⟩
theorem nl(h:bg h0 u u')(f args k cs){dy}(hdy:∀d,dy=some d->d.calling=true)(es):fW h0 Q β (.go {frame:=Tg (alt Q β) f args k,callers:=cs,status:=.running,dying:=dy} u es) (.go {frame:=Tg Q f args k,callers:=cs,status:=.running,dying:=dy} u' es):=by
 refine⟨λg1 w1 es1 e _=> ?_,id⟩;rcases FA (Q:=Q) (β:=β) f args k cs dy u es hdy with e|⟨g,w,es2,e,hf,_⟩<;>grind
theorem eQ(h:∀g u es,x≠.go g u es)(hb:x.es=#[]):iN x:=⟨λg1 w1 es e _=>absurd e (h _ _ _),av⟩
theorem oF{g}(h:g.status≠.running):iN (.go g u):=⟨λg1 w1 es1 e h1=>by
 grind,av⟩
theorem dj{E}(hE:¬ Big E)(h:iN x):iN (By E x):=by
 refine⟨?_,bh hE h.2⟩;intro g1 w1 es e h1;cases x<;>simp[By]at e;obtain⟨rfl,rfl,rfl⟩:=e;exact h.1 _ _ _ rfl h1
theorem iN.pat(h:iN x):fW h0 Q β x x':=⟨λg1 w1 es e h1=>(h.1 _ _ _ e h1).elim,λhb=>absurd hb h.2⟩
theorem aS(h:∀g u es,x≠.go g u es)(hb:x.es=#[]):fW h0 Q β x x':=(eQ h hb).pat
theorem ol{g}(h:g.status≠.running):fW h0 Q β (.go g u) x':=(oF h).pat
theorem bR{E}(h:fW h0 Q β x x'):fW h0 Q β (By E x) (By E x'):=by
 refine⟨?_,λhb=>hb⟩
 .intro g1 w1 es e h1;cases x<;>simp[By]at e;obtain⟨rfl,rfl,rfl⟩:=e;rcases h.1 _ _ _ rfl h1 with hf|⟨w1',rfl,hp⟩
  .exact .inl hf
  .exact .inr ⟨w1',rfl,hp⟩
theorem ij{c}[Decidable c]{A B A' B'}(ha:fW h0 Q β A A')(hb:fW h0 Q β B B'):fW h0 Q β (if c then A else B) (if c then A' else B'):=by
 grind
theorem KN{c}[Decidable c]{A B}(ha:iN A)(hb:iN B):iN (if c then A else B):=by
 grind
theorem gN{P α}{s:Sem α}(hs:Sep P s)(hw:an w)(h:bg h0 w w'):(∃x u e,s.runT P w #[]=(.halt x u,e)/\Dead x/\¬ Big e)\/∃r u u' e,s.runT P w #[]=(oo r u,e)/\s.runT P w' #[]=(oo r u',e)/\bg h0 u u':=by
 rcases hs with hs|hs
 .rcases uO hs w w' #[] hw h with⟨_,x,u,e,h1,h2⟩|h1
  .have:=vT hs w #[] hw av;grind
  grind
 .rcases uO hs w w' #[] hw h with⟨h0,_⟩|h1<;>grind
theorem kM{P α}{s:Sem α}(h:bU P true false s):Sep P s:=.inl h.st
theorem uN{P α}{s:Sem α}(hs:Sep P s)(hw:an w)(h:bg h0 w w'):(∃x u,s.run P w= .halt x u/\Dead x)\/∃r u u',s.run P w=oo r u/\s.run P w'=oo r u'/\bg h0 u u':=by
 rw[<- Sem.runT_fst P s w #[],<- Sem.runT_fst P s w' #[]];rcases gN hs hw h with⟨x,u,e,e1,hd,hb⟩|⟨r,u,u',e,e1,e2,hp⟩<;>grind
theorem wn{fr cs dy m}(hw:an u)(h:bg h0 u u'):fW h0 Q β (endFatal (alt Q β) fr cs dy m u) (endFatal Q fr cs dy m u'):=by
 rw[<- BD (β:=β) (w:=u')];have H:∀(shown:Sem (List (ByteArray×String)×List ByteArray)),bU (alt Q β) true false shown->fW h0 Q β (match shown.run (alt Q β) u with
  | .ok (texts,tabs) w=>dieOf fr (panicPieces texts++tabs) m true w
  | .halt (.unsupported u) w=>.ended (.unsupported u "") w
  | .halt _ w=>.ended (.stuck "the report of a panic" "") w) (match shown.run (alt Q β) u' with
  | .ok (texts,tabs) w=>dieOf fr (panicPieces texts++tabs) m true w
  | .halt (.unsupported u) w=>.ended (.unsupported u "") w
  | .halt _ w=>.ended (.stuck "the report of a panic" "") w):=by
  intro s hs;rcases uN (kM hs) hw h with⟨x,u,e1,hd⟩|⟨r,u,u',e1,e2,hp⟩
  .rw[e1];cases x<;>exact aS (λ_ _ _ h=>by cases h) rfl
  .rw[e1,e2];cases r with
   |ok a=>exact bc hp
   |error x=>cases x<;>exact aS (λ_ _ _ h=>by cases h) rfl
 have hraw:∀vs:List (T4×String),bU (alt Q β) true false (vs.mapM λ(v,mark)=>match panicText (alt Q β) true v with
  | .text s=>pure (s,mark)
  | .address s=>do pure (<- withAddress s,mark)
  |_=>unsupported (.noEntry "a fatal error during a panic whose value the report cannot show")):=by
  intro vs;refine @pL _ _ _ _ _ _ _ (λx=> ?_) _;dsimp only;split <;>exact zq2
 refine H _ ?_;split
 .exact zq2
 .exact @aX _ _ _ _ _ _ _ _ zq2 λ_=> @aX _ _ _ _ _ _ _ _ (hraw _) λ_=>zq2
 .exact @aX _ _ _ _ _ _ _ _ (hraw _) λ_=>zq2
 .exact zq2
theorem xD{s}(hs:oH Q β s):∀w w' es,an w->bg h0 w w'->¬ Big es->
 s.runT (alt Q β) w' es=s.runT Q w' es\/(∃f args u e,s.runT (alt Q β) w es=(.ok (.enter f args) u,e)/\(β f).isSome=true/\¬ Big e)\/∃x u e,s.runT (alt Q β) w es=(.halt x u,e)/\Dead x/\¬ Big e:=by
 induction hs with
 |sm h=>exactλw w' es _ _ _=>.inl (ic h w' es)
 |foul hf h=>exactλw w' es _ _ hb=>.inr (.inl ⟨_,_,w,es,h w es,hf,hb⟩)
 | @bind α s f hs hst hf ih=>
  intro w w' es hw hp hb;have h1:=cf (KZ hst:bU (alt Q β) true true s).st w es hw;have h2:=vT hst.st w es hw hb;simp only[aM];rw[<- ic hs];rcases uO hst.st w w' es hw hp with⟨_,x,u,e,e1,hd⟩|⟨r,u,u',e,e1,e2,hp'⟩
  .rw[e1]at h1 h2 ⊢;grind
  .rw[e1]at h1 h2;rw[e1,e2];cases r with
   |ok a=>exact ih a u u' e h1 hp' h2
   |error x=>exact .inl rfl
 | @prog f e h ih=>
  simp_all
theorem yX{s fr cs dy x u e}(e1:s.runT (alt Q β) w #[]=(.halt x u,e))(hd:Dead x)(hb:¬ Big e):iN (stepG.apply (alt Q β) true fr cs dy s w):=by
 simp only[stepG.apply,e1];have hE:∀E,(∀z∈E,z∈e)->¬ Big (seen (alt Q β) fr.fn (if(fr.kind== .early)=true then #[]else E)):=λE hE=>av
 have hn:∀z∈#[],z∈e:=λz hz=>by simp at hz
 cases x;case blocked=>exact dj (hE _ hn) (oF (by simp))
 case waiting=>exact dj (hE _ hn) (oF (by simp))
 case unsupported v=>
  cases v;case initOrder g=>exact hd.elim
  all_goals exact dj (hE _ λz hz=>hz) (eQ (λ_ _ _ h=>by cases h) rfl)
 case stuck m=>exact dj (hE _ λz hz=>hz) (eQ (λ_ _ _ h=>by cases h) rfl)
 all_goals exact hd.elim
theorem kv(T:dY (alt Q β)){s}(hs:Sep (alt Q β) s)(hst:St (alt Q β) s)(h1:oH Q β s){fr cs dy}(hdy:∀d,dy=some d->d.calling=true)(hw:an w)(h:bg h0 w w'):fW h0 Q β (stepG.apply (alt Q β) true fr cs dy s w) (stepG.apply Q true fr cs dy s w'):=by
 rcases gN hs hw h with⟨x,u,e,e1,hd,hb⟩|⟨r,u,u',e,e1,e2,hp⟩
 .exact(yX e1 hd hb).pat
 .have hI:=pQ hst.st w #[] hw;have hH:=cf hst.st w #[] hw;rw[e1]at hI hH;rcases xD h1 w w' #[] hw h av with hq|⟨f,args,u2,e3,hq,hf,hb⟩|⟨x,u2,e3,hq,hd,hb⟩
  rotate_left
  .unfold stepG.apply;simp only[if_true];rw[hq];refine⟨λg1 w1 es1 he _=> ?_,λh=>h⟩;cases he;exact .inl ⟨f,args,_,rfl,hf,rfl,hdy⟩
  .exact(yX hq hd hb).pat
  unfold stepG.apply;simp only[if_true];rw[<- hq,e1,e2];simp only[iW];cases r with
  |ok n=>
   dsimp only[oo];refine bR ?_;cases n;case enter f args=>exact nl hp _ _ _ _ hdy _
   case recover=>
    dsimp only;have e0:(alt Q β).follows .rangeFuncRecover=Q.follows .rangeFuncRecover:=rfl;rw[e0];split
    .exact bc hp
    .exact bc hp
   case spawn d=>
    dsimp only;have e0:(alt Q β).follows .goNilFatal=Q.follows .goNilFatal:=rfl;rw[e0,B6];exact ij (bc hp) (aS (λ_ _ _ h=>by cases h) rfl)
   case callThen d a b c=>
    dsimp only;unfold Frame.ofExtern;rw[lJ];split
    .exact bc hp
    .exact bc hp
   case row a b=>
    dsimp only;unfold Tf;rw[lJ];split
    .exact bc hp
    .exact bc hp
   case stack a b=>
    dsimp only;unfold Tf;rw[lJ];split
    .exact bc hp
    .exact bc hp
   all_goals first
    |exact bc hp
    |exact aS (λ_ _ _ h=>by cases h) rfl
  |error x=>
   dsimp only[oo];cases x;case unsupported v=>
    cases v;case initOrder g=>
     have hg:aD.lim<=g:=hI _ _ _ rfl;dsimp only;rw[oy T hg];exact bR (aS (λ_ _ _ h=>by cases h) rfl)
    all_goals exact bR (aS (λ_ _ _ h=>by cases h) rfl)
   case fatal m=>exact bR (wn hH hp)
   case throw m=>exact bR (bc hp)
   all_goals
    refine bR ?_;first
     |exact bc hp
     |exact aS (λ_ _ _ h=>by cases h) rfl
theorem oz(T:Twin Q β)(hp:bg h0 u u'){main fr cs v dy}(hdy:∀d,dy=some d->d.calling=true):fW h0 Q β (doReturn (alt Q β) main fr cs dy v u) (doReturn Q main fr cs dy v u'):=by
 simp[doReturn,Bi T];cases cs with
 |cons c cs=>
  dsimp only;split <;>exact bc hp
 |nil=>
  dsimp only;split
  .exact bc hp
  .exact aS (λ_ _ _ h=>by cases h) rfl
  .refine ij (ol (by simp)) ?_;have e0:(alt Q β).inits=Q.inits:=rfl;rw[e0];split
   .exact nl hp _ _ _ _ (λ_ h=>by cases h) _
   .exact aS (λ_ _ _ h=>by cases h) rfl
theorem mW{d fr cs dy x u e}(e1:(invoke d.target d.args).runT (alt Q β) w #[]=(.halt x u,e))(hd:Dead x)(hb:¬ Big e):iN (No (alt Q β) fr cs dy d w):=by
 refine KN (eQ (λ_ _ _ h=>by cases h) rfl) ?_;rw[e1];cases x;case blocked=>exact dj (aN av) (oF (by simp))
 case waiting=>exact dj (aN av) (oF (by simp))
 case unsupported v=>
  all_goals exact dj (aN hb) (eQ (λ_ _ _ h=>by cases h) rfl)
 case stuck m=>exact dj (aN hb) (eQ (λ_ _ _ h=>by cases h) rfl)
 all_goals exact hd.elim
theorem vm(T:Twin Q β)(TM:dY (alt Q β)){d fr cs dy}(hdy:∀d,dy=some d->d.calling=true)(hw:an w)(h:bg h0 w w'):fW h0 Q β (No (alt Q β) fr cs dy d w) (No Q fr cs dy d w'):=by
 rcases gN (nh TM d.target d.args) hw h with⟨x,u,e,e1,hd,hb⟩|⟨r,u,u',e,e1,e2,hp⟩
 .exact(mW e1 hd hb).pat
 .have hH:=cf (eH TM d.target d.args).st w #[] hw;rw[e1]at hH;rcases xD (n9 (β:=β) T d.target d.args) w w' #[] hw h av with hq|⟨f,args,u2,e3,hq,hf,hb⟩|⟨x,u2,e3,hq,hd,hb⟩
  rotate_left
  .unfold No;refine ij (aS (λ_ _ _ h=>by cases h) rfl) ?_;rw[hq];refine⟨λg1 w1 es1 he _=> ?_,λh=>h⟩;cases he;exact .inl ⟨f,args,_,rfl,hf,rfl,hdy⟩
  .exact(mW hq hd hb).pat
  unfold No;refine ij (aS (λ_ _ _ h=>by cases h) rfl) ?_;rw[<- hq,e1,e2];simp only[iW];cases r with
  |ok n=>
   dsimp only[oo];refine bR ?_;cases n;case enter f args=>exact nl hp _ _ _ _ hdy _
   case recover=>
    dsimp only;split
    .exact bc hp
    .exact bc hp
   case callThen d a b c=>dsimp only;unfold Frame.ofExtern;rw[lJ];exact bc hp
   case row r a=>dsimp only;unfold Tf;rw[lJ];exact bc hp
   case coroswitch c e=>cases e<;>exact aS (λ_ _ _ h=>by cases h) rfl
   case alone b v=>cases b<;>exact aS (λ_ _ _ h=>by cases h) rfl
   all_goals first
    |exact bc hp
    |exact aS (λ_ _ _ h=>by cases h) rfl
  |error x=>
   dsimp only[oo];cases x;case fatal m=>exact bR (wn hH hp)
   case throw m=>exact bR (bc hp)
   all_goals
    refine bR ?_;first
     |exact bc hp
     |exact aS (λ_ _ _ h=>by cases h) rfl
theorem EW(P){dy mk}(fn tmps):bU P dy mk (results fn tmps):=by
 refine @aX _ _ _ _ _ _ _ _ (@Dt _ _ _ _ _ _ _ (λa=> ?_) _) λ_=>zq2
 split <;>exact zq2
theorem En(T:Twin Q β)(TM:dY (alt Q β)){main fr cs dy}(hdy:∀d,dy=some d->d.calling=true)(hw:an w)(h:bg h0 w w'):fW h0 Q β (unwind (alt Q β) main fr cs dy w) (unwind Q main fr cs dy w'):=by
 unfold unwind;cases hd:fr.defers with
 |cons x ds=>
  obtain⟨tg,ar⟩:=x;cases tg with
  |collected b=>
   dsimp only;rw[<- ic (zq2:Sm Q (ax β) (SP b))];rcases gN (kM (zq2:bU (alt Q β) true false (SP b))) hw h with⟨x,u,e,e1,hd,hb⟩|⟨r,u,u',e,e1,e2,hp⟩
   .refine iN.pat ?_;rw[e1];exact dj (aN hb) (eQ (λ_ _ _ h=>by cases h) rfl)
   .rw[e1,e2];simp only[iW];cases r with
    |ok n=>exact bR (bc hp)
    |error x=>exact bR (aS (λ_ _ _ h=>by cases h) rfl)
  |_=>exact vm T TM hdy hw h
 |nil=>
  dsimp only;cases fr.mode with
  |run=>exact aS (λ_ _ _ h=>by cases h) rfl
  |panicking chain=>
   dsimp only;rw[Dl];refine ij (aS (λ_ _ _ h=>by cases h) rfl) ?_;cases cs with
   |cons c cs=>exact bc h
   |nil=>
    dsimp only;cases dy with
    |none=>
     dsimp only;refine ij (ol (by simp)) ?_;have e0:isRuntimeError (alt Q β)=isRuntimeError Q:=rfl;rw[<- km (zq2:Sm Q (ax β) (reportChain chain false)) w'];rcases uN (kM (zq2:bU (alt Q β) true false (reportChain chain false))) hw h with⟨x,u,e1,hd⟩|⟨r,u,u',e1,e2,hp⟩
     .rw[e1];cases x<;>exact aS (λ_ _ _ h=>by cases h) rfl
     .rw[e1,e2];cases r with
      |ok a=>exact bc hp
      |error x=>cases x<;>exact aS (λ_ _ _ h=>by cases h) rfl
    |some d=>
     dsimp only;split
     .unfold endPrinting;dsimp only;have e0:(alt Q β).info?=Q.info?:=rfl;have e1:(alt Q β).rt=Q.rt:=rfl;rw[e0,e1];split
      .exact bc h
      .exact aS (λ_ _ _ h=>by cases h) rfl
     .exact aS (λ_ _ _ h=>by cases h) rfl
  |returning=>
   dsimp only;rw[iG];cases Q.funcs[fr.fn]? with
   |none=>exact oz T h hdy
   |some fn=>
    dsimp only[Sy];have hr:results (ax β fr.fn fn) fr.tmps=results fn fr.tmps:=by
     unfold results;rw[qs]
    rw[hr];have h1:Sm Q (ax β) (results fn fr.tmps):=by
     unfold results;refine @ji _ _ _ _ _ _ (@Dy _ _ _ _ _ (λ_=> ?_) _) λ_=>zq2
     split <;>first |exact zq2|exact @ji _ _ _ _ _ _ zq2 λ_=>zq2
    rw[<- ic (β:=β) h1 w' #[]];rcases gN (kM (EW (alt Q β) fn fr.tmps)) hw h with⟨x,u,e,e1,hd,hb⟩|⟨r,u,u',e,e1,e2,hp⟩
    .refine iN.pat ?_;rw[e1];cases x<;>exact dj (aN hb) (eQ (λ_ _ _ h=>by cases h) rfl)
    .rw[e1,e2];simp only[iW];cases r with
     |ok n=>exact bR (oz T hp hdy)
     |error x=>cases x<;>exact bR (aS (λ_ _ _ h=>by cases h) rfl)
end
end
section
open Go.Conc
open Go.ConcN (sumTo upd sumTo_upd upd_ne upd_same)
variable[aD]
section
variable{Q:IS}{β:Nat->Option Code}{x x':GStep}{w w' u u':AT}{h0:Array Obj}
theorem JM(T:Twin Q β)(TM:dY (alt Q β)){fr cs dy}(hdy:∀d,dy=some d->d.calling=true)(hw:an w)(h:bg h0 w w'):fW h0 Q β (stepG.oper (alt Q β) true fr cs dy w) (stepG.oper Q true fr cs dy w'):=by
 unfold stepG.oper;split
 .exact aS (λ_ _ _ h=>by cases h) rfl
 .split
  .rename_i l c h1 h2;have h3:∀d,oK d->bU (alt Q β) true false (Instr.deferInRound l d):=λd hd=>kl _ l d hd
   refine kv TM (.inl ?_) (ga _ _ _ _) (eM zq2) hdy hw h;unfold resolve;cases c.callee with
   |builtin b=>exact(@aX _ _ _ _ _ _ _ _ (h3 _ (by exact trivial)) λ_=>zq2).st
   |invoke r n=>exact(@aX _ _ _ _ _ _ _ _ (h3 _ (by exact trivial)) λ_=>zq2).st
   |value f=>
    dsimp only;cases fr.eval f;case func fn a b=>exact(@aX _ _ _ _ _ _ _ _ (h3 _ (by exact trivial)) λ_=>zq2).st
    case nilFunc=>exact(@aX _ _ _ _ _ _ _ _ (h3 _ (by exact trivial)) λ_=>zq2).st
    all_goals trivial
  .exact kv TM (ER TM _ _) (gY TM _ _) (Ez T _ _) hdy hw h
theorem pf(T:Twin Q β){main fr cs dy}(hdy:∀d,dy=some d->d.calling=true)(hw:an w)(h:bg h0 w w')(l j)(hj:∀c,j=some c->cT c=true):fW h0 Q β (By (seen (alt Q β) fr.fn ((Sw l j).runT (alt Q β) w #[]).2) (match((Sw l j).runT (alt Q β) w #[]).1 with
 | .ok v w=>doReturn (alt Q β) main fr cs dy v w
 | .halt _ w=>.ended (.stuck "range over a function: no such loop" (fr.pos (alt Q β))) w))
 (By (seen Q fr.fn ((Sw l j).runT Q w' #[]).2) (match((Sw l j).runT Q w' #[]).1 with
  | .ok v w=>doReturn Q main fr cs dy v w
  | .halt _ w=>.ended (.stuck "range over a function: no such loop" (fr.pos Q)) w)):=by
 rw[<- ic (zq2:Sm Q (ax β) (Sw l j)) w' #[]];have hsp:Sep (alt Q β) (Sw l j):=.inl (jx (alt Q β) l j hj).st;rcases gN hsp hw h with⟨x,u,e,e1,hd,hb⟩|⟨r,u,u',e,e1,e2,hp⟩
 .refine iN.pat ?_;rw[e1];exact dj (aN hb) (eQ (λ_ _ _ h=>by cases h) rfl)
 .simp only[e1,e2,iW];cases r with
  |ok n=>exact bR (oz T hp hdy)
  |error x=>exact bR (aS (λ_ _ _ h=>by cases h) rfl)
theorem Ki(T:Twin Q β)(TM:dY (alt Q β)){main fr cs dy}(hdy:∀d,dy=some d->d.calling=true)(hw:an w)(h:bg h0 w w')(hf:dg fr):fW h0 Q β (stepG.exec (alt Q β) main true fr cs dy w) (stepG.exec Q main true fr cs dy w'):=by
 unfold stepG.exec;dsimp only;cases ht:fr.todo with
 |nil=>
  dsimp only;cases fr.roundOf with
  |none=>exact bc h
  |some l=>exact pf T hdy hw h _ _ nofun
 |cons it rest=>
  cases it with
  |code c=>
   cases c with
   |ret=>
    dsimp only;cases fr.roundOf with
    |none=>exact bc h
    |some l=>exact pf T hdy hw h _ _ λc hc=>by cases hc;rfl
   |exit id=>
    dsimp only;cases exitTo id rest with
    |some k=>exact bc h
    |none=>
     dsimp only[T7];cases fr.roundOf with
     |none=>exact aS (λ_ _ _ h=>by cases h) rfl
     |some l=>exact pf T hdy hw h _ _ λc hc=>by cases hc;rfl
   |goto id=>
    dsimp only;cases gotoIn id rest with
    |some k=>exact bc h
    |none=>
     dsimp only[T7];cases fr.roundOf with
     |none=>exact aS (λ_ _ _ h=>by cases h) rfl
     |some l=>exact pf T hdy hw h _ _ λc hc=>by cases hc;rfl
   |rangeFunc f params assign body=>
    dsimp only;have h3:cT assign=true/\cT body=true:=by
     have h0:=hf.1 (.code (.rangeFunc f params assign body)) (by rw[ht];simp);simpa[jM,cT]using h0
    have hst:=cP (mk:=false) (alt Q β) fr.fn fr.tmps params assign body fr.roundOf h3.1 h3.2;have hH:=cf (cP (mk:=true) (alt Q β) fr.fn fr.tmps params assign body fr.roundOf h3.1 h3.2).st w #[] hw;rw[<- ic (zq2:Sm Q (ax β) (T6 fr.fn fr.tmps params assign body fr.roundOf)) w' #[]];rcases gN (kM hst) hw h with⟨x,u,e,e1,hd,hb⟩|⟨r,u,u',e,e1,e2,hp⟩
    .refine iN.pat ?_;rw[e1];exact dj (aN hb) (eQ (λ_ _ _ h=>by cases h) rfl)
    .rw[e1]at hH;rw[e1,e2];simp only[iW];cases r with
     |ok a=>
      obtain⟨l,mark⟩:=a;exact bR (kv TM (um TM _ _ _) (@aX _ _ _ _ _ _ _ _ zq2 λd=>eH TM _ _) (nY zq2 zq2 λd=>n9 T _ _) hdy hH hp)
     |error x=>exact bR (aS (λ_ _ _ h=>by cases h) rfl)
   |region id ops draw=>
    dsimp only;refine ij (bc h) ?_;have h1:(choose (.order fr.fn id)).run (alt Q β) w=((choose (.order fr.fn id)).runT (alt Q β) w #[]).1:=by rw[T0]
    have h2:(choose (.order fr.fn id)).run Q w'=((choose (.order fr.fn id)).runT (alt Q β) w' #[]).1:=by rw[ic (zq2:Sm Q (ax β) (choose (.order fr.fn id))),T0]
    have e0:(alt Q β).follows .mixedOrders=Q.follows .mixedOrders:=rfl;rw[h1,h2,e0];rcases gN (kM (zq2:bU (alt Q β) true false (choose (.order fr.fn id)))) hw h with⟨x,u,e,e1,hd,hb⟩|⟨r,u,u',e,e1,e2,hp⟩
    .rw[e1];exact aS (λ_ _ _ h=>by cases h) rfl
    .rw[e1,e2];cases r with
     |ok a=>exact bc hp
     |error x=>exact aS (λ_ _ _ h=>by cases h) rfl
   |cond c a b=>
    dsimp only;split
    .exact bc h
    .exact aS (λ_ _ _ h=>by cases h) rfl
   |refuse why=>exact aS (λ_ _ _ h=>by cases h) rfl
   |_=>exact bc h
  |inRangeFunc id=>exact aS (λ_ _ _ h=>by cases h) rfl
  |beginRound=>
   cases hro:fr.roundOf with
   |none=>
    refine kv TM (.inl ?_) ?_ (eM ?_) hdy hw h
    .trivial
    .exact⟨trivial⟩
    .exact @ji _ _ _ _ _ _ (Jf _ _ _) λ_=>zq2
   |some l=>
    refine kv TM (.inl ?_) ?_ (eM ?_) hdy hw h
    .exact(@aX _ _ _ _ _ _ _ _ (dR (mk:=false) (alt Q β) l) λ_=>zq2).st
    .exact @aX _ _ _ _ _ _ _ _ (dR _ l) λ_=>zq2
    .exact @ji _ _ _ _ _ _ (rZ _ _ l) λ_=>zq2
  |call d a b c=>exact(hf.1 (.call d a b c) (by rw[ht];simp)).elim
  |extern row args=>
   have hrow:row=printRow:=hf.1 (.extern row args) (by rw[ht];simp);subst hrow;dsimp only;rw[nk];exact kv TM (.inl (lj (dy:=true) (mk:=false) (alt Q β) _ _ _).st) (lj (alt Q β) _ _ _) (eM (Jg _ _ _ _ _)) hdy hw h
  |endRangeFunc l=>
   dsimp only;rw[<- ic (zq2:Sm Q (ax β) (T3 l)) w' #[]];rcases gN (kM (zq2:bU (alt Q β) true false (T3 l))) hw h with⟨x,u,e,e1,hd,hb⟩|⟨r,u,u',e,e1,e2,hp⟩
   .refine iN.pat ?_;rw[e1];cases x<;>first |exact hd.elim|exact dj (aN hb) (eQ (λ_ _ _ h=>by cases h) rfl)
   .rw[e1,e2];simp only[iW];cases r with
    |ok a=>exact bR (bc hp)
    |error x=>cases x<;>first |exact bR (bc hp)|exact bR (aS (λ_ _ _ h=>by cases h) rfl)
  |inRegion ops todo=>
   cases todo with
   |nil=>exact bc h
   |cons i is=>
    dsimp only;exact ij (JM T TM hdy hw h) (bc h)
  |inBlock id=>exact bc h
  |inScope id=>exact bc h
  |inLoop id=>exact bc h
theorem Ce{fr d f}(hw:an w)(h:bg h0 w w'):fW h0 Q β (writeOn (alt Q β) fr d f w) (writeOn Q fr d f w'):=by
 rw[<- Cg (β:=β) fr d f w'];unfold writeOn;split
 .exact aS (λ_ _ _ h=>by cases h) rfl
 .rename_i piece rest _;dsimp only;have H:∀s:Sem Unit,bU (alt Q β) true false s->fW h0 Q β (match s.runT (alt Q β) w #[]with
   |(.ok _ w,es)=>.go {frame:=fr,callers:=[],status:=.running,dying:=some {d with fatal:=some {f with pieces:=rest,begun:=true}}} w es
   |(.halt .blocked w,_)=>.go {frame:=fr,callers:=[],status:=.blocked,dying:=some {d with fatal:=some f}} w #[]
   |(.halt (.unsupported u) w,_)=>.ended (.unsupported u "") w
   |(.halt _ w,_)=>.ended (.stuck "the report of a fatal error" "") w) (match s.runT (alt Q β) w' #[]with
   |(.ok _ w,es)=>.go {frame:=fr,callers:=[],status:=.running,dying:=some {d with fatal:=some {f with pieces:=rest,begun:=true}}} w es
   |(.halt .blocked w,_)=>.go {frame:=fr,callers:=[],status:=.blocked,dying:=some {d with fatal:=some f}} w #[]
   |(.halt (.unsupported u) w,_)=>.ended (.unsupported u "") w
   |(.halt _ w,_)=>.ended (.stuck "the report of a fatal error" "") w):=by
   intro s hs;rcases gN (kM hs) hw h with⟨x,u,e,e1,hd,hb⟩|⟨r,u,u',e,e1,e2,hp⟩
   .rw[e1];cases x;case blocked=>exact ol (by simp)
    all_goals exact aS (λ_ _ _ h=>by cases h) rfl
   .rw[e1,e2];cases r with
    |ok a=>exact bc hp
    |error x=>
     cases x;case blocked=>exact ol (by simp)
     all_goals exact aS (λ_ _ _ h=>by cases h) rfl
  refine H _ ?_;have hsys:∀b:ByteArray,bU (alt Q β) true false (do
   match<- sys (.write 2 b)with
   | .int n=>if n !=b.size then unsupported (.noEntry "a report that its descriptor cannot take whole")
   | .err _=>pure ()
   |_=>unsupported (.noEntry "a report that its descriptor cannot take whole"):Sem Unit):=by
   intro b;refine⟨⟨⟨_,rfl,trivial⟩,λv=> ?_⟩⟩;cases v<;>first
    |trivial
    |(
     show cw (alt Q β) true false (if _ then _ else _);split <;>trivial)
  repeat' (first
   |exact zq2
   |exact hsys _
   |(refine @aX _ _ _ _ _ _ _ _ ?_ λ_=> ?_)
   |(refine @vI _ _ _ _ _ _ _ _ _ ?_ ?_)
   |split
   |(intro _)
   |dsimp only)
theorem FC(w fd t o):∀g u es,endWith w fd t o≠.go g u es:=by
 intro g u es h;unfold endWith at h;grind
theorem MC(T:Twin Q β)(TM:dY (alt Q β)){fr d}(hw:an w)(h:bg h0 w w'):fW h0 Q β (die (alt Q β) fr d w) (die Q fr d w'):=by
 unfold die;split
 .exact Ce hw h
 .split
  .have e0:printLockHeld Q w'=printLockHeld (alt Q β) w:=by
    unfold printLockHeld;rw[h.cell];rfl
   rw[e0];exact ij (ol (by simp)) (aS (FC _ _ _ _) (FD _ _ _))
  .rw[rP];split
   .exact bc h
   .rename_i s _;rw[<- km (zq2:Sm Q (ax β) (withAddress s)) w'];rcases uN (kM (zq2:bU (alt Q β) true false (withAddress s))) hw h with⟨x,u,e1,hd⟩|⟨r,u,u',e1,e2,hp⟩
    .rw[e1];exact aS (λ_ _ _ h=>by cases h) rfl
    .rw[e1,e2];cases r with
     |ok a=>exact bc hp
     |error x=>exact aS (λ_ _ _ h=>by cases h) rfl
   .rename_i t recv name _;rcases xD (n9 (β:=β) T (.fn (.method name) #[]) #[.iface t recv]) w w' #[] hw h av with hq|⟨f,args,u2,e3,hq,hf,hb⟩|⟨x,u2,e3,hq,hd,hb⟩
    rotate_left
    .rw[hq];refine⟨λg1 w1 es1 he _=> ?_,λh=>h⟩;cases he;exact .inl ⟨f,args,_,rfl,hf,rfl,λd' h1=>by grind⟩
    .refine iN.pat ?_;rw[hq];cases x;case panic v=>exact hd.elim
     all_goals exact dj (aN hb) (eQ (λ_ _ _ h=>by cases h) rfl)
    rw[<- hq];rcases gN (nh TM (.fn (.method name) #[]) #[.iface t recv]) hw h with⟨x,u,e,e1,hd,hb⟩|⟨r,u,u',e,e1,e2,hp⟩
    .refine iN.pat ?_;rw[e1];cases x;case panic v=>exact hd.elim
     all_goals exact dj (aN hb) (eQ (λ_ _ _ h=>by cases h) rfl)
    .rw[e1,e2];simp only[iW];cases r with
     |ok n=>
      refine bR ?_;cases n;case enter f args=>exact nl hp _ _ _ _ λd' h1=>by grind _
      case value u=>cases u<;>first |exact bc hp|exact aS (λ_ _ _ h=>by cases h) rfl
      all_goals exact aS (λ_ _ _ h=>by cases h) rfl
     |error x=>
      refine bR ?_;cases x;case panic v=>
       simp[oo,endPrinting];have e0:(alt Q β).info?=Q.info?:=rfl;have e1:(alt Q β).rt=Q.rt:=rfl;rw[e0,e1];split
       .exact bc hp
       .exact aS (λ_ _ _ h=>by cases h) rfl
      all_goals exact aS (λ_ _ _ h=>by cases h) rfl
   .exact aS (λ_ _ _ h=>by cases h) rfl
theorem Gl(T:Twin Q β)(TM:dY (alt Q β))(main){g}(hw:an w)(h:bg h0 w w')(hj:(∀d,g.dying=some d->d.calling=true)->dg g.frame):fW h0 Q β (stepG (alt Q β) main g w) (stepG Q main g w'):=by
 obtain⟨fr,cs,st,dy,off⟩:=g;unfold stepG;dsimp only at hj ⊢;have key:(∀a b c e f i,dy=some ⟨a,b,false,c,e,f,i⟩->False)->∀d,dy=some d->d.calling=true:=λhn d hd=>by
  cases hc:d.calling with
  |true=>rfl
  |false=>
   obtain⟨a,b,c,e,f,i,j⟩:=d;subst hc;grind
 split
 .exact MC T TM hw h
 .rename_i hn hm;exact Ki T TM (key λa b c e f i hd=>hn _ _ _ _ _ _ hd) hw h (hj (key λa b c e f i hd=>hn _ _ _ _ _ _ hd))
 .rename_i hn hm;exact En T TM (key λa b c e f i hd=>hn _ _ _ _ _ _ hd) hw h
structure Lx(h0:Array Obj)(Q:IS)(g:AI)(w:AT)(m:Machine)(t:Trace):Prop where
 is:∃gs sl q w',m=crowd gs w' sl/\bg h0 (ah w w'.tape w'.drawn) w'/\gs[0]?=some g/\Leavers Q t gs q
 held:Held t
 hears:Deaf t 0=0
def Calm(es:Array SM):Prop:=∀e∈es,e.loc≠.mark .disable/\e.loc≠.mark .enable
theorem Calm.deaf{es}(h:Calm es){t fn pos}:Deaf (t++BY 0 fn pos es) 0=Deaf t 0:=by
 rw[Deaf_own,deafBehind_still h]
def Oi(P:IS):Prop:=∀g w g1 w1 es,Iv g w->stepG P true g w= .go g1 w1 es->g1.status= .running->OF 0 es=0
variable{K:AI->AT->Prop}
theorem zV(T:Twin Q β)(TM:bz (alt Q β))(hβ:∀f c,β f=some c->∃why,c= .refuse why)(hnc:¬ aD.cm)(hush:Oi (alt Q β))
 (hKr:∀g w,K g w->g.status= .running) (h8:∀g w,K g w->¬ qc Q β g) {g w} (h:Tree (alt Q β) K g w):Iv g w->∀m t,Lx h0 Q g w m t->Runs Q m t λm' t'=>∃g' w',K g' w'/\Iv g' w'/\Lx h0 Q g' w' m' t':=by
 induction h with
 |stop hK=>exactλhI m t hF=>.here ⟨_,_,hK,hI,hF⟩
 | @step g w G W E hr hone h3 ih=>
  intro hI m t hF;obtain⟨⟨gs,sl,q,w',rfl,hp,k0,hL⟩,hH,hD⟩:=hF;have key:∀M gs sl q w' t,sumTo gs.size q=M->bg h0 (ah w w'.tape w'.drawn) w'->gs[0]?=some g->Leavers Q t gs q->Held t->Deaf t 0=0->Runs Q (crowd gs w' sl) t λm' t'=>∃g' w',K g' w'/\Iv g' w'/\Lx h0 Q g' w' m' t':=by
   intro M;induction M using SL with
   |ind M ihM=>
   intro gs sl q w' t hM hp h0 hL hH hD;have haw:∀x∈gs,awake x:=by
    intro x hx;obtain⟨i,hi,rfl⟩:=SV.1 hx;rcases SO i with rfl|h2
    .have:gs[0]=g:=by grind
     rw[this];exact awake_of (.inl hr)
    .exact awake_of ((hL.old i _ h2 (Su hi)).status.elim .inl λx=>.inr (.inr x))
   obtain⟨i,x,d',sl',hi,hx,hst⟩:=crowd_pick (P:=Q) (w:=w') (sl:=sl) haw ⟨0,g,h0,hr⟩;have hat:w'.at d'=ah w' w'.tape d':=rfl;rw[hat]at hst;have hp':bg _ (ah w w'.tape d') (ah w' w'.tape d'):=hp.ah w'.tape d';rcases SO i with rfl|h2
   .obtain rfl:x=g:=by rw[h0]at hi;grind
    have hIv:Iv x (ah w w'.tape d'):=fE hI _ _;have hpat:=Gl T TM.todY true hIv.1 hp' (wI hI);by_cases hbig:Big (stepG (alt Q β) true x (ah w w'.tape d')).es
    .exact hbig.elim
    .have ho:=hone w'.tape d' hbig;have htr:=h3 w'.tape d' hbig;cases ho with
     |comm hc _=>
      exfalso;rcases ou TM hIv with⟨_,_,_,e,_⟩|⟨_,_,_,_,_,_,_,_,hcm⟩|⟨_,_,_,e⟩<;>grind
     |go hg=>
      have hru:(G w'.tape d').status= .running:=by
       cases htr<;>grind
      rcases hpat.1 _ _ _ hg hru with hfoul|⟨w1',h9,hpw⟩
      .exfalso;cases htr with
       |stop hK=>exact h8 _ _ hK hfoul
       |step G2 W2 E2 hr2 h4 htree2=>
        obtain⟨o,he⟩:=wR hβ hfoul (ah (W w'.tape d') w'.tape 0);have hnb:¬ Big (stepG (alt Q β) true (G w'.tape d') (ah (W w'.tape d') w'.tape 0)).es:=av;cases h4 w'.tape 0 hnb with
        |go hz=>rw[he]at hz;cases hz
        |comm hz _=>rw[he]at hz;cases hz
      .have h1:=runT_crowd_go (P:=Q) (sl:=sl') (i:=0) h0 (show stepG Q (0==0) x (ah w' w'.tape d')=_ from h9);have hlt:0<gs.size:=(x5.1 h0).1;have h6:bg _ (ah (W w'.tape d') w1'.tape w1'.drawn) w1':=⟨hpw.size,rfl,rfl,hpw.os,hpw.output,hpw.blk,hpw.keep⟩;refine Runs.step (hst.trans h1) (ih w'.tape d' hbig (nI TM hIv (.go hg)) _ _ ⟨⟨_,sl',q,w1',rfl,h6,by simp[hlt],?_⟩,hH.own λop hop=>by obtain⟨e,_,rfl⟩:=AS hop;rfl,by rw[Deaf_own,hD];exact hush _ _ _ _ _ hIv hg hru⟩);refine⟨λj y hj hy=> ?_,λj hj=> ?_⟩
       .have hne:0≠j:=by omega
        rw[up hne,If]at hy;obtain⟨z,hz,rfl⟩:=IN.1 hy;have hq:=hL.old j z hj hz;rw[woken_quitsD hq,Deaf_other t (by omega) _ λop hop=>by obtain⟨e,_,rfl⟩:=AS hop;rfl];omega
       .rw[Deaf_other t (g':=0) (by grind) _ λop hop=>by obtain⟨e,_,rfl⟩:=AS hop;rfl];exact hL.above j (by simpa using hj)
   .
    have hq:=hL.old i x h2 hi;have ha:(i==0)=false:=by simp;omega
    have hlt:i<gs.size:=(x5.1 hi).1;cases hqi:q i with
    |zero=>rw[hqi]at hq;rw[hq.1]at hx;cases hx
    |succ k=>
     rw[hqi]at hq;rcases hq with⟨hf,_⟩|⟨_,g',es,hm,h7,hd⟩
     .rw[hf]at hx;cases hx
     have h1:=runT_crowd_go (P:=Q) (sl:=sl') (i:=i) hi (by rw[ha];exact h7 (ah w' w'.tape d'));have hsz:((gs.map (woken Q x g' (ah w' w'.tape d'))).setIfInBounds i g').size=gs.size:=by simp
     have hsum:sumTo gs.size (upd q i k)+(k+1)=sumTo gs.size q+k:=by
      have:=sumTo_upd q k id hlt;simpa[hqi]using this
     refine Runs.step (hst.trans h1) (ihM (sumTo gs.size (upd q i k)) (by rw[<- hM];omega) _ sl' (upd q i k) (ah w' w'.tape d') _ (by rw[hsz]) hp' ?_ ?_ (hH.mute (g:=i) (by omega) λop hop=>by obtain⟨e,_,rfl⟩:=AS hop;rfl λop hop=>by obtain⟨e,he,rfl⟩:=AS hop;exact touch_mute (hm e he)) ((Deaf_other t (show i≠0 by omega) _ λop hop=>by obtain⟨e,_,rfl⟩:=AS hop;rfl).trans hD))
     .have hne:i≠0:=by omega
      rw[up hne,If,h0];simp[woken_run hr]
     .refine⟨λj y hj hy=> ?_,λj hj=> ?_⟩
      .by_cases hji:i=j
       .subst hji;rw[Sz (by simpa using hlt)]at hy;obtain rfl:=Option.some.inj hy;rw[upd_same,Deaf_own];exact hd
       .rw[up hji,If]at hy;obtain⟨z,hz,rfl⟩:=IN.1 hy;have h5:=hL.old j z hj hz;rw[woken_quitsD h5,upd_ne q k (Tl hji),Deaf_other t hji _ λop hop=>by obtain⟨e,_,rfl⟩:=AS hop;rfl];exact h5
      .rw[Deaf_other t (g':=i) (by simp at hj;omega) _ λop hop=>by obtain⟨e,_,rfl⟩:=AS hop;rfl];exact hL.above j (by simpa using hj)
  exact key _ gs sl q w' t rfl hp k0 hL hH hD
end
open Classical in
noncomputable def dQ(o:Obj):Obj:=if pE o\/(∃c t,o= .pending c t)\/(∃c,o= .coro c)then o else .coro none
noncomputable def strike(w:AT):AT:= {w with heap:=w.heap.map dQ}
theorem kF(w)(i:Nat):(strike w).heap[i]?=w.heap[i]?.map dQ:=by
 show(w.heap.map dQ)[i]?=_;rw[If]
theorem Eu(w):bg w.heap (strike w) w:=by
 have key:∀o,dQ o=o\/dQ o= .coro none/\((∃l,o= .loop l)\/∃d,o= .deferred d):=λo=>by
  unfold dQ;split
  .exact .inl rfl
  .rename_i hn;refine .inr ⟨rfl,?_⟩;cases o;case loop l=>exact .inl ⟨l,rfl⟩
   case deferred d=>exact .inr ⟨d,rfl⟩
   case pending c t=>exact absurd (.inr (.inl ⟨c,t,rfl⟩)) hn
   case coro c=>exact absurd (.inr (.inr ⟨c,rfl⟩)) hn
   all_goals exact absurd (.inl trivial) hn
 refine⟨by simp[strike],rfl,rfl,rfl,rfl,λi=> ?_,λi _=>rfl⟩;rw[kF];grind
def NoWait(h:Array Obj):Prop:=∀(i:Nat)(c:Array T4)(t:TypeId),h[i]?=some (.pending c t)->aD.lim<=i
theorem Gj{w}(hn:NoWait w.heap):an (strike w):=by
 intro r o ho;rw[kF]at ho;obtain⟨x,hx,rfl⟩:=IN.1 ho;unfold dQ;split
 .rename_i h;rcases h with h|⟨c,t,rfl⟩|h
  .exact .inl h
  .exact .inr (.inl ⟨⟨c,t,rfl⟩,hn r c t hx⟩)
  .exact .inr (.inr h)
 .exact .inr (.inr ⟨_,rfl⟩)
theorem bg.cells{h0 w1 w1'}(h:bg h0 w1 w1'){i:Nat}{c t f}:w1'.heap[i]?=some (.cells c t f)↔w1.heap[i]?=some (.cells c t f):=by
 rcases h.blk i with e|⟨e,⟨l,e'⟩|⟨l,e'⟩⟩<;>grind
end
section
open Go.Conc
def Ev(es:Array SM):Prop:=∀e∈es,e.loc= .mark .disable\/e.loc= .mark .enable->e.sync=true
theorem Ih:Ev #[]:=λe he=>by simp at he
theorem rp(d a b):OF d (a++b)=OF (OF d a) b:=by
 simp[OF]
theorem deaf_push(d a e):OF d (a.push e)=OF (OF d a) #[e]:=by
 simp[<- rp]
theorem rn{e}(h1:e.loc≠.mark .disable)(h2:e.loc≠.mark .enable)(d):OF d #[e]=d:=deafBehind_still (λx hx=>by
 grind) d
structure tj(n:Nat)(es:Array SM):Prop where
 ev:Ev es
 deaf:OF 0 es=n
theorem tj.push{n es}(h:tj n es){e}(h1:e.loc≠.mark .disable)(h2:e.loc≠.mark .enable):tj n (es.push e):=by
 refine⟨λx hx hm=> ?_,by rw[deaf_push,h.deaf,rn h1 h2]⟩;rcases Tb.1 hx with hx|rfl
 .exact h.ev x hx hm
 grind
theorem tj.cells{n es}(h:tj n es){l:List Addr}{w a}:tj n (es++l.toArray.map (⟨.cell ·,w,a⟩)):=by
 refine⟨λx hx hm=> ?_,?_⟩
 .rcases Array.mem_append.1 hx with hx|hx
  .exact h.ev x hx hm
  grind
 .rw[rp,h.deaf];refine deafBehind_still (λx hx=> ?_) n;grind
theorem ur(w:AT)(a s):C5 (w.noCell a s):=by
 unfold World.noCell;split <;>exact trivial
theorem Hj{P}{w:AT}{a b h}(e:w.farLoad P a b= .error h):C5 h:=by
 unfold World.farLoad at e;split at e
 .split at e
  .cases e
  .cases e;exact trivial
 .cases e;exact ur _ _ _
theorem Fc{P}{w:AT}{a v b h}(e:w.farStore P a v b= .error h):C5 h:=by
 unfold T9 at e;split at e
 .split at e
  .cases e
  .cases e;exact trivial
 .cases e;exact ur _ _ _
theorem j7{α P}{s:Sem α}:∀n,ia P n s->∀w es,tj n es->
 (∃a w1,(s.runT P w es).1= .ok a w1/\tj 0 (s.runT P w es).2)\/∃h w1,(s.runT P w es).1= .halt h w1/\Ev (s.runT P w es).2/\(C5 h\/tj 0 (s.runT P w es).2):=by
 induction s with
 |pure a=>exactλn h w es hl=>.inl ⟨a,w,rfl,by cases h;exact hl⟩
 |halt x=>exactλn h w es hl=>.inr ⟨x,w,rfl,hl.ev,h.elim (λe=>.inr (by simp_all)) .inl⟩
 |load m a k ih=>
  intro n h w es hl;simp only[Sv];split
  .exact ih _ _ (h _) _ _ (hl.push nofun nofun)
  .split
   .exact ih _ _ (h _) _ _ hl.cells
   .rename_i e;exact .inr ⟨_,_,rfl,hl.ev,.inl (Hj e)⟩
 |store m a v k ih=>
  intro n h w es hl;cases v;all_goals simp only[Sv]
  case agg=>exact .inr ⟨_,_,rfl,hl.ev,.inl trivial⟩
  case tuple=>exact .inr ⟨_,_,rfl,hl.ev,.inl trivial⟩
  all_goals
   split
   .split
    .exact .inr ⟨_,_,rfl,hl.ev,.inl trivial⟩
    .exact ih _ h _ _ (hl.push nofun nofun)
   .split
    .exact ih _ h _ _ hl.cells
    .rename_i e;exact .inr ⟨_,_,rfl,hl.ev,.inl (Fc e)⟩
 |new o k ih=>exactλn h w es hl=>ih _ _ (h _) _ _ hl
 |shape r k ih=>exactλn h w es hl=>ih _ _ (h _) _ _ hl
 |freeze a c k ih=>exactλn h w es hl=>ih _ h _ _ hl
 |frozen a k ih=>exactλn h w es hl=>ih _ _ (h _) _ _ hl
 |getObj r k ih=>
  intro n h w es hl;simp only[Sv];split
  .exact .inr ⟨_,_,rfl,hl.ev,.inl trivial⟩
  .exact ih _ _ (h _) _ _ (hl.push (by simp) (by simp))
  .exact .inr ⟨_,_,rfl,hl.ev,.inl trivial⟩
 |setObj r o k ih=>
  intro n h w es hl;simp only[Sv];split
  .exact .inr ⟨_,_,rfl,hl.ev,.inl trivial⟩
  .exact ih _ h _ _ (hl.push (by cases o.isChan<;>simp) (by cases o.isChan<;>simp))
  .exact .inr ⟨_,_,rfl,hl.ev,.inl trivial⟩
 |choose q k ih=>
  intro n h w es hl;simp only[Sv];split
  .exact ih _ _ (h _) _ _ hl
  .exact ih _ _ (h _) {w with drawn:=w.drawn+1} _ hl
 |sys c k ih=>exactλn h w es hl=>ih _ _ (h _) _ _ (hl.push nofun nofun)
 |program k ih=>exactλn h w es hl=>ih P _ h _ _ hl
 |mark m k ih=>
  intro n h w es hl;cases m;case disable=>exact ih _ h _ _ ⟨λx hx hm=>by
   rcases Tb.1 hx with hx|rfl
   .exact hl.ev x hx hm
   rfl,by rw[deaf_push,hl.deaf];rfl⟩
  case enable=>exact ih _ h.2 _ _ ⟨λx hx hm=>by
   rcases Tb.1 hx with hx|rfl
   .exact hl.ev x hx hm
   rfl,by rw[deaf_push,hl.deaf];rfl⟩
  all_goals exact ih _ h _ _ (hl.push nofun nofun)
theorem gP:tj 0 #[]:=⟨Ih,rfl⟩
theorem dO(P f){es}(h:Ev es):OF 0 (seen P f es)=OF 0 es:=by
 have key:∀(quiet:FuncId->Bool)(l:List SM),(∀e∈l,e.loc= .mark .disable\/e.loc= .mark .enable->e.sync=true)->∀(q:Bool)(kept:Array SM)(d:Nat),OF 0 (l.foldl (seenStep quiet) (q,kept)).2=OF (OF 0 kept) l.toArray:=by
  intro quiet l;induction l with
  |nil=>exactλ_ q kept d=>rfl
  |cons e l ih=>
   intro hl q kept d;have e1:(e::l).toArray=#[e]++l.toArray:=by simp
   rw[List.foldl_cons,e1,rp];have ih:=ih λx hx=>hl x (List.mem_cons_of_mem _ hx)
   simp[seenStep];split
   .rename_i f2 hf2;refine(ih _ _ d).trans ?_;rw[rn (by rw[hf2];nofun) (by rw[hf2];nofun)]
   .refine(ih _ _ d).trans ?_;by_cases hm:e.loc= .mark .disable\/e.loc= .mark .enable
    .simp[hl e (List.mem_cons_self ..) hm,Td,Bool.and_false,SQ,deaf_push]
    grind [rn,deaf_push]
 rw[seen_def];have:=key (λf=>P.funcs[f]?.any (·.norace)) es.toList (λe he=>h e (Array.mem_toList_iff.1 he)) (P.funcs[f]?.any (·.norace)) #[] 0;refine this.trans ?_;rfl
def eX(x:GStep):Prop:=∀g1 w1 es,x= .go g1 w1 es->g1.status= .running->OF 0 es=0
theorem bw(g w):eX (.go g w):=λg1 w1 es e _=>by cases e;rfl
theorem bJ{x}(h:∀g u es,x≠.go g u es):eX x:=λg1 w1 es e _=>absurd e (h _ _ _)
theorem j9{g w es}(h:g.status≠.running):eX (.go g w es):=λg1 w1 es1 e h1=>by
 grind
theorem dX{E x}(hE:OF 0 E=0)(h:eX x):eX (By E x):=by
 intro g1 w1 es e h1;cases x<;>simp[By]at e;obtain⟨rfl,rfl,rfl⟩:=e;rw[rp,hE];exact h _ _ _ rfl h1
theorem cW{E x}(h:∀g u es,x= .go g u es->g.status≠.running):eX (By E x):=by
 intro g1 w1 es e h1;cases x<;>simp[By]at e;grind
theorem j8{c}[Decidable c]{A B}(ha:eX A)(hb:eX B):eX (if c then A else B):=by
 grind
structure rY(P:IS):Prop where
 ext:∀(f:Nat)(fn:Func),P.funcs[f]?=some fn->fn.body.isNone=true->Tk fn=none/\∀e,Th fn=some e->∀args,Hu P (e args)
section
variable{P:IS}
theorem huA{α}{s:Sem α}(h:Hu P s:=by
 repeat' (first
  |exact zq2
  |(refine d9 ?_ λ_=> ?_)
  |(refine js ?_ ?_)
  |split
  |(intro _)
  |dsimp only)):Hu P s:=h
theorem pZ(X:rY P)(f args):Hu P (callFunc f args):=by
 cases hf:P.funcs[f]? with
 |none=>exact⟨by show ia P 0 (match P.funcs[f]? with |none=>_|some fn=>_);rw[hf];exact .inl rfl⟩
 |some fn=>
  suffices h:Hu P (if(fn.name== "runtime.NumGoroutine")=true then pure Next.numGoroutine else
   if fn.body.isNone=true then(do
    mark (.extern f)
    if let some e:=Tk fn then return<- e args
    match Th fn with
    |some e=>pure (.value (<- e args))
    |none=>
     if fn.name.endsWith ".init" && !fn.name.startsWith "(" && !fn.name.startsWith "gosem." then pure (.value (.tuple #[]))
     else unsupported (.extern fn.name))
   else pure (.enter f args)) by
   exact⟨by show ia P 0 (match P.funcs[f]? with |none=>_|some fn=>_);rw[hf];exact h.hu⟩
  refine js zq2 ?_;cases hb:fn.body.isNone with
  |false=>simp[SQ];exact zq2
  |true=>
   refine d9 zq2 λ_=> ?_
   rw[(X.ext f fn hf hb).1];cases he:Th fn with
   |some e=>exact d9 ((X.ext f fn hf hb).2 e he args) λ_=>zq2
   |none=>
    dsimp only;split <;>exact zq2
theorem rS(X:rY P)(recv name args):Hu P (callMethod recv name args):=by
 unfold callMethod;cases recv<;>first |exact zq2|(exact d9 zq2 λ_=>d9 zq2 λ_=>pZ X _ _)
theorem pi(X:rY P)(t args):Hu P (invoke t args):=by
 unfold invoke;cases t with
 |nil=>exact zq2
 |builtin b ats t cs=>exact zq2
 |collected r=>exact zq2
 |coroexit c=>exact zq2
 |fn f c=>
  cases f with
  |func f=>exact pZ X _ _
  |method n=>
   dsimp only;split
   .exact rS X _ _ _
   .exact zq2
  |methodOf t n=>
   dsimp only;split
   .refine d9 zq2 λ_=> ?_
    repeat' (first |exact rS X _ _ _)
   .exact zq2
  |via t p f q=>
   dsimp only;split
   .exact d9 zq2 λ_=>pZ X _ _
   .exact zq2
  |yield l=>exact zq2
theorem ri(ρ o)(hc:∀c,o.op≠.call c):Hu P (SI ρ o):=by
 unfold SI;cases h:o.op;case call c=>exact absurd h (hc c)
 case nilCheck x=>
  dsimp only;repeat' (first
   |exact zq2
   |split)
 all_goals exact huA
theorem HG(X:rY P)(ρ o):Hu P (SI ρ o):=by
 by_cases hc:∃c,o.op= .call c
 .obtain⟨c,hc⟩:=hc;simp[SI,hc];exact d9 zq2 λd=>pi X _ _
 .exact ri ρ o λc h=>hc ⟨c,h⟩
theorem wK{fr cs dy m w}:eX (endFatal P fr cs dy m w):=by
 simp[endFatal];generalize Sem.run P _ w=x;cases x with
 |ok a w=>exact bw _ _
 |halt x w=>cases x<;>exact bJ λ_ _ _ h=>by cases h
variable[aD]
theorem yR{fr:SG}{e}(h:tj 0 e):OF 0 (seen P fr.fn (if(fr.kind== .early)=true then #[]else e))=0:=by
 split
 .exact(dO P _ Ih).trans rfl
 .exact(dO P _ h.ev).trans h.deaf
theorem ju(T:dY P){s}(hs:Hu P s)(hst:St P s){fr cs dy w}(hw:an w):eX (stepG.apply P true fr cs dy s w):=by
 unfold stepG.apply;simp only[if_true];have hI:=pQ hst.st w #[] hw;have hu:=j7 0 hs.hu w #[] gP;generalize s.runT P w #[]=x at hI hu ⊢;obtain⟨r,e⟩:=x;dsimp only at hu;rcases hu with⟨n,w1,rfl,hl⟩|⟨x,w1,rfl,hev,hm⟩
 .dsimp only;refine dX (yR hl) ?_;cases n;case recover=>
   dsimp only;split <;>exact bw _ _
  case callThen d a b c=>dsimp only;split <;>exact bw _ _
  case row a b=>dsimp only;split <;>exact bw _ _
  case stack a b=>dsimp only;split <;>exact bw _ _
  case spawn d=>
   exact j8 (bw _ _) (bJ λ_ _ _ h=>by cases h)
  all_goals first
   |exact bw _ _
   |exact bJ λ_ _ _ h=>by cases h
   |exact j9 (by simp)
 .cases x;case unsupported v=>
   cases v;case initOrder g=>
    have hg:aD.lim<=g:=hI _ _ _ rfl;dsimp only;rw[oy T hg];exact cW λ_ _ _ h=>by cases h
   all_goals exact cW λ_ _ _ h=>by cases h
  case stuck m=>exact cW λ_ _ _ h=>by cases h
  case blocked=>exact cW λg u es h=>by grind
  case waiting=>exact cW λg u es h=>by grind
  all_goals
   rcases hm with hm|hl
   .exact hm.elim
   .refine dX (yR hl) ?_;first
     |exact bw _ _
     |exact wK
     |exact bJ λ_ _ _ h=>by cases h
     |exact j9 (by simp)
theorem mL{main fr cs dy v w}:eX (doReturn P main fr cs dy v w):=by
 unfold doReturn;cases cs with
 |cons c cs=>
  dsimp only;split <;>exact bw _ _
 |nil=>
  dsimp only;split
  .exact bw _ _
  .exact bJ λ_ _ _ h=>by cases h
  .refine j8 (j9 (by simp)) ?_;split
   .exact bw _ _
   .exact bJ λ_ _ _ h=>by cases h
theorem tV(T:dY P)(X:rY P){fr cs dy d w}(hw:an w):eX (No P fr cs dy d w):=by
 unfold No;refine j8 (bJ λ_ _ _ h=>by cases h) ?_;have hu:=j7 0 (pi X d.target d.args).hu w #[] gP;generalize (invoke d.target d.args).runT P w #[]=x at hu ⊢;obtain⟨r,e⟩:=x;dsimp only at hu;rcases hu with⟨n,w1,rfl,hl⟩|⟨x,w1,rfl,hev,hm⟩
 .dsimp only;refine dX ((dO P _ hl.ev).trans hl.deaf) ?_;cases n;case recover=>
   dsimp only;split <;>exact bw _ _
  case coroswitch c e=>cases e<;>exact bJ λ_ _ _ h=>by cases h
  case alone b v=>cases b<;>exact bJ λ_ _ _ h=>by cases h
  all_goals first
   |exact bw _ _
   |exact bJ λ_ _ _ h=>by cases h
   |exact j9 (by simp)
   |(dsimp only)
 .cases x;case unsupported v=>cases v<;>exact cW λ_ _ _ h=>by cases h
  case stuck m=>exact cW λ_ _ _ h=>by cases h
  case blocked=>exact cW λg u es h=>by grind
  case waiting=>exact cW λg u es h=>by grind
  all_goals
   rcases hm with hm|hl
   .exact hm.elim
   .refine dX ((dO P _ hl.ev).trans hl.deaf) ?_;first
     |exact bw _ _
     |exact wK
     |exact bJ λ_ _ _ h=>by cases h
     |exact j9 (by simp)
theorem wJ(fn tmps):Hu P (results fn tmps):=by
 refine d9 (@Mt _ _ _ _ (λa=> ?_) _) λ_=>zq2
 split <;>exact huA
theorem D7(T:dY P)(X:rY P){main fr cs dy w}(hw:an w):eX (unwind P main fr cs dy w):=by
 unfold unwind;cases hd:fr.defers with
 |cons x ds=>
  obtain⟨tg,ar⟩:=x;cases tg with
  |collected b=>
   dsimp only;have hu:=j7 0 (zq2:Hu P (SP b)).hu w #[] gP;generalize (SP b).runT P w #[]=x at hu ⊢;obtain⟨r,e⟩:=x;dsimp only at hu;rcases hu with⟨n,w1,rfl,hl⟩|⟨x,w1,rfl,hev,hm⟩
   .exact dX ((dO P _ hl.ev).trans hl.deaf) (bw _ _)
   .exact cW λ_ _ _ h=>by cases h
  |_=>exact tV T X hw
 |nil=>
  dsimp only;cases fr.mode with
  |run=>exact bJ λ_ _ _ h=>by cases h
  |panicking chain=>
   dsimp only;refine j8 (bJ λ_ _ _ h=>by cases h) ?_;cases cs with
   |cons c cs=>exact bw _ _
   |nil=>
    dsimp only;cases dy with
    |none=>
     dsimp only;refine j8 (j9 (by simp)) ?_;generalize Sem.run P _ w=x;cases x with
     |ok a w=>exact bw _ _
     |halt x w=>cases x<;>exact bJ λ_ _ _ h=>by cases h
    |some d=>
     dsimp only;split
     .unfold endPrinting;dsimp only;split
      .exact bw _ _
      .exact bJ λ_ _ _ h=>by cases h
     .exact bJ λ_ _ _ h=>by cases h
  |returning=>
   dsimp only;cases P.funcs[fr.fn]? with
   |none=>exact mL
   |some fn=>
    dsimp only;have hu:=j7 0 (wJ (P:=P) fn fr.tmps).hu w #[] gP;generalize (results fn fr.tmps).runT P w #[]=x at hu ⊢;obtain⟨r,e⟩:=x;rcases hu with⟨n,w1,rfl,hl⟩|⟨x,w1,rfl,hev,hm⟩
    .exact dX ((dO P _ hl.ev).trans hl.deaf) mL
    .cases x<;>exact cW λ_ _ _ h=>by cases h
theorem HJ(T:dY P)(X:rY P){fr cs dy w}(hw:an w):eX (stepG.oper P true fr cs dy w):=by
 unfold stepG.oper;split
 .exact bJ λ_ _ _ h=>by cases h
 .split
  .exact ju T (d9 zq2 λd=>d9 zq2 λ_=>zq2) (ga _ _ _ _) hw
  .exact ju T (HG X _ _) (gY T _ _) hw
theorem np{main fr cs dy w}(l j):eX (By (seen P fr.fn ((Sw l j).runT P w #[]).2) (match((Sw l j).runT P w #[]).1 with
 | .ok v w=>doReturn P main fr cs dy v w
 | .halt _ w=>.ended (.stuck "range over a function: no such loop" (fr.pos P)) w)):=by
 have hu:=j7 0 (zq2:Hu P (Sw l j)).hu w #[] gP;generalize (Sw l j).runT P w #[]=x at hu ⊢;obtain⟨r,e⟩:=x;rcases hu with⟨n,w1,rfl,hl⟩|⟨x,w1,rfl,hev,hm⟩
 .exact dX ((dO P _ hl.ev).trans hl.deaf) mL
 .exact cW λ_ _ _ h=>by cases h
theorem HK(T:dY P)(X:rY P){main fr cs dy w}(hw:an w)(hf:dg fr):eX (stepG.exec P main true fr cs dy w):=by
 unfold stepG.exec;dsimp only;cases ht:fr.todo with
 |nil=>
  dsimp only;cases fr.roundOf with
  |none=>exact bw _ _
  |some l=>exact np _ _
 |cons it rest=>
  cases it with
  |code c=>
   cases c with
   |ret=>
    dsimp only;cases fr.roundOf with
    |none=>exact bw _ _
    |some l=>exact np _ _
   |exit id=>
    dsimp only;cases exitTo id rest with
    |some k=>exact bw _ _
    |none=>
     dsimp only[T7];cases fr.roundOf with
     |none=>exact bJ λ_ _ _ h=>by cases h
     |some l=>exact np _ _
   |goto id=>
    dsimp only;cases gotoIn id rest with
    |some k=>exact bw _ _
    |none=>
     dsimp only[T7];cases fr.roundOf with
     |none=>exact bJ λ_ _ _ h=>by cases h
     |some l=>exact np _ _
   |rangeFunc f params assign body=>
    dsimp only;have h1:cT assign=true/\cT body=true:=by
     have h0:=hf.1 (.code (.rangeFunc f params assign body)) (by rw[ht];simp);simpa[jM,cT]using h0
    have hH:=cf (cP (mk:=true) P fr.fn fr.tmps params assign body fr.roundOf h1.1 h1.2).st w #[] hw;have hu:=j7 0 (zq2:Hu P (T6 fr.fn fr.tmps params assign body fr.roundOf)).hu w #[] gP;generalize (T6 fr.fn fr.tmps params assign body fr.roundOf).runT P w #[]=x at hu hH ⊢;obtain⟨r,e⟩:=x;rcases hu with⟨⟨l,mark⟩,w1,rfl,hl⟩|⟨x,w1,rfl,hev,hm⟩
    .exact dX ((dO P _ hl.ev).trans hl.deaf) (ju T (d9 zq2 λd=>pi X _ _) (@aX _ _ _ _ _ _ _ _ zq2 λd=>eH T _ _) hH)
    .exact cW λ_ _ _ h=>by cases h
   |region id ops draw=>
    refine j8 (bw _ _) ?_;generalize (choose (.order fr.fn id)).run P w=x;cases x with
    |ok a w=>exact bw _ _
    |halt x w=>exact bJ λ_ _ _ h=>by cases h
   |cond c a b=>
    dsimp only;split
    .exact bw _ _
    .exact bJ λ_ _ _ h=>by cases h
   |refuse why=>exact bJ λ_ _ _ h=>by cases h
   |_=>exact bw _ _
  |inRangeFunc id=>exact bJ λ_ _ _ h=>by cases h
  |beginRound=>
   cases hro:fr.roundOf with
   |none=>exact ju T (d9 (K8 P _) λ_=>zq2) (@aX _ _ _ _ _ _ _ _ (qN _ _) λ_=>zq2) hw
   |some l=>exact ju T (d9 zq2 λ_=>zq2) (@aX _ _ _ _ _ _ _ _ (dR _ l) λ_=>zq2) hw
  |call d a b c=>exact(hf.1 (.call d a b c) (by rw[ht];simp)).elim
  |extern row args=>
   have hrow:row=printRow:=hf.1 (.extern row args) (by rw[ht];simp);subst hrow;exact ju T (K9 P _ _ _) (lj P _ _ _) hw
  |endRangeFunc l=>
   dsimp only;have hu:=j7 0 (zq2:Hu P (T3 l)).hu w #[] gP;generalize (T3 l).runT P w #[]=x at hu ⊢;obtain⟨r,e⟩:=x;rcases hu with⟨n,w1,rfl,hl⟩|⟨x,w1,rfl,hev,hm⟩
   .exact dX ((dO P _ hl.ev).trans hl.deaf) (bw _ _)
   .cases x;case panic v=>
     rcases hm with hm|hl
     .exact hm.elim
     .exact dX ((dO P _ hl.ev).trans hl.deaf) (bw _ _)
    all_goals exact cW λ_ _ _ h=>by cases h
  |inRegion ops todo=>
   cases todo with
   |nil=>exact bw _ _
   |cons i is=>
    exact j8 (HJ T X hw) (bw _ _)
  |inBlock id=>exact bw _ _
  |inScope id=>exact bw _ _
  |inLoop id=>exact bw _ _
theorem Bo{fr d f w}:eX (writeOn P fr d f w):=by
 unfold writeOn;split
 .exact bJ λ_ _ _ h=>by cases h
 .rename_i piece rest _;dsimp only;have H:∀s:Sem Unit,Hu P s->eX (match s.runT P w #[]with
   |(.ok _ w,es)=>.go {frame:=fr,callers:=[],status:=.running,dying:=some {d with fatal:=some {f with pieces:=rest,begun:=true}}} w es
   |(.halt .blocked w,_)=>.go {frame:=fr,callers:=[],status:=.blocked,dying:=some {d with fatal:=some f}} w #[]
   |(.halt (.unsupported u) w,_)=>.ended (.unsupported u "") w
   |(.halt _ w,_)=>.ended (.stuck "the report of a fatal error" "") w):=by
   intro s hs;have hu:=j7 0 hs.hu w #[] gP;generalize s.runT P w #[]=x at hu ⊢;obtain⟨r,e⟩:=x;dsimp only at hu;rcases hu with⟨n,w1,rfl,hl⟩|⟨x,w1,rfl,hev,hm⟩
   .intro g1 w2 es he _;cases he;exact hl.deaf
   .cases x;case blocked=>exact j9 (by simp)
    all_goals exact bJ λ_ _ _ h=>by cases h
  refine H _ ?_;have hsys:∀b:ByteArray,Hu P (do
   if b.size>65536 then unsupported (.noEntry "a report of more than 65536 bytes")
   match<- sys (.write 2 b)with
   | .int n=>if n !=b.size then unsupported (.noEntry "a report that its descriptor cannot take whole")
   | .err _=>pure ()
   |_=>unsupported (.noEntry "a report that its descriptor cannot take whole"):Sem Unit):=by
   intro b;exact huA
  refine js ⟨?_⟩ (hsys piece);refine Bn (n:=1) λb=> ?_
  cases b with
  |true=>exact .inr trivial
  |false=>
   show ia P 1 (if f.whole=true then _ else _);split
   .exact⟨Nat.one_pos,(hsys piece).hu⟩
   .exact⟨Nat.one_pos,(hsys piece).hu⟩
theorem Dh(w fd t o):∀g u es,endWith w fd t o≠.go g u es:=by
 intro g u es h;unfold endWith at h;grind
theorem Ka(X:rY P){fr d w}:eX (die P fr d w):=by
 unfold die;split
 .exact Bo
 .split
  .exact j8 (j9 (by simp)) (bJ (Dh _ _ _ _))
  .rename_i v mark rest _;dsimp only;split
   .exact bw _ _
   .rename_i s _;generalize (withAddress s).run P w=x;cases x with
    |ok a w=>exact bw _ _
    |halt x w=>exact bJ λ_ _ _ h=>by cases h
   .rename_i t recv name _;have hu:=j7 0 (pi X (.fn (.method name) #[]) #[.iface t recv]).hu w #[] gP;generalize (invoke (.fn (.method name) #[]) #[.iface t recv]).runT P w #[]=x at hu ⊢;obtain⟨r,e⟩:=x;rcases hu with⟨n,w1,rfl,hl⟩|⟨x,w1,rfl,hev,hm⟩
    .refine dX ((dO P _ hl.ev).trans hl.deaf) ?_;cases n;case enter f args=>exact bw _ _
     case value u=>cases u<;>first |exact bw _ _|exact bJ λ_ _ _ h=>by cases h
     all_goals exact bJ λ_ _ _ h=>by cases h
    .cases x;case panic v=>
      rcases hm with hm|hl
      .exact hm.elim
      .refine dX ((dO P _ hl.ev).trans hl.deaf) ?_;unfold endPrinting;dsimp only;split
       .exact bw _ _
       .exact bJ λ_ _ _ h=>by cases h
     all_goals exact cW λ_ _ _ h=>by cases h
   .exact bJ λ_ _ _ h=>by cases h
theorem HI(T:dY P)(X:rY P)(main){g w}(hw:an w)(hj:(∀d,g.dying=some d->d.calling=true)->dg g.frame):eX (stepG P main g w):=by
 obtain⟨fr,cs,st,dy,off⟩:=g;unfold stepG;dsimp only at hj ⊢;have key:(∀a b c e f i,dy=some ⟨a,b,false,c,e,f,i⟩->False)->∀d,dy=some d->d.calling=true:=λhn d hd=>by
  cases hc:d.calling with
  |true=>rfl
  |false=>
   obtain⟨a,b,c,e,f,i,j⟩:=d;subst hc;grind
 split
 .exact Ka X
 .rename_i hn hm;exact HK T X hw (hj (key λa b c e f i hd=>hn _ _ _ _ _ _ hd))
 .exact D7 T X hw
end
end
section
open Go.Conc
variable[aD]
def Str(h:Array Obj)(i:Nat):Prop:=∃o,h[i]?=some o/\dQ o≠o
def rE(h0 h1:Array Obj):Prop:=∀i,i<h0.size->(((∃l,h1[i]?=some (.loop l))\/∃d,h1[i]?=some (.deferred d))\/Str h0 i)->h1[i]?=h0[i]?
structure Under(h0:Array Obj)(w:AT):Prop where
 le:h0.size<=w.heap.size
 st:∀i,i<h0.size->Str h0 i->w.heap[i]?=some (.coro none)
theorem Under.keep{h0 w w'}(h:Under h0 w)(hk:∀b,b<w.heap.size->w'.heap[b]?=w.heap[b]?)(hle:w.heap.size<=w'.heap.size):Under h0 w':=
 ⟨SY h.le hle,λi hi hs=>(hk i (SE hi h.le)).trans (h.st i hi hs)⟩
def pH(h0:Array Obj)(Q:IS)(g:AI)(w:AT)(m:Machine)(t:Trace):Prop:=∃h1,Lx h1 Q g w m t/\rE h0 h1
theorem pH.re{h0 Q g w m t}(h:pH h0 Q g w m t)(τ d):pH h0 Q g (ah w τ d) m t:=by
 obtain⟨h1,⟨⟨gs,sl,q,w',e,hp,h0,hL⟩,hH,hD⟩,ho⟩:=h;exact⟨h1,⟨⟨gs,sl,q,w',e,hp,h0,hL⟩,hH,hD⟩,ho⟩
theorem Mr{P}(T:dY P)(X:rY P):Oi P:=λg w g1 w1 es hI h hr=>HI T X true hI.1 (wI hI) g1 w1 es h hr
structure On(Q:IS)(β:Nat->Option Code):Prop where
 twin:Twin Q β
 tame:bz (alt Q β)
 refuse:∀f c,β f=some c->∃why,c= .refuse why
 quiet:¬ aD.cm
 hush:rY (alt Q β)
def IW(h0:Array Obj)(Q:IS)(K:AI->AT->Prop)(m:Machine)(t:Trace):Prop:=Runs Q m t λm' t'=>∃g' w',K g' w'/\Iv g' w'/\pH h0 Q g' w' m' t'
def br{Q:IS}{β:Nat->Option Code}(B:On Q β)(h0:Array Obj):dZ (alt Q β) where
 okF f:=β f=none
 H K g w:=Iv g w->∀m t,pH h0 Q g w m t->IW h0 Q K m t
 re K g w τ d h hI m t hF:=h (fE hI τ d) m t (hF.re τ d)
 stop K g w h hI m t hF:=.here ⟨g,w,h,hI,hF⟩
 bind K K' g w h hk hI m t hF:=(h hI m t hF).bind λm' t' ⟨g',w',h1,h2,h3⟩=>hk g' w' h1 h2 m' t' h3
 hit K g w hr hK h hI m t hF:=by
  obtain⟨h1,hF,ho⟩:=hF;have hT:=bar B.tame (λg w τ d=>zy (K:=K) g w τ d) (λg w ⟨_,_,h⟩=>(hK _ _ h).1) hI hr λτ d=>HH (h τ d)
  refine(zV B.twin B.tame B.refuse B.quiet (Mr B.tame.todY B.hush) (λg w ⟨_,_,h⟩=>(hK _ _ h).1) (λg w ⟨τ,d,h⟩ hf=> ?_) hT hI m t hF).mono λm' t' ⟨g',w',⟨τ,d,k1⟩,k2,k3⟩=>⟨g',_,k1,fE k2 τ d,pH.re ⟨h1,k3,ho⟩ τ d⟩
  obtain⟨f,args,k,e1,e2,_⟩:=hf;have:=(hK _ _ h).2;have e3:g.frame.fn=f:=by rw[e1];rfl
  rw[e3]at this;rw[this]at e2;cases e2
end
section
open Go.Conc
open Go.ConcN (sumTo upd sumTo_upd upd_ne upd_same)
variable[aD]
structure fX(Q:IS)(g:AI)(w:AT)(m:Machine)(t:Trace):Prop where
 is:∃gs sl q τ d,m=crowd gs (ah w τ d) sl/\gs[0]?=some g/\Leavers Q t gs q
 held:Held t
 hears:Deaf t 0=0
section
variable{Q:IS}{R:Machine->Trace->Prop}{g g1 child:AI}{w w1:AT}
theorem fX.turn(hr:g.status= .running)
 (H:∀gs sl q τ d t m,gs[0]?=some g->Leavers Q t gs q->Held t->Deaf t 0=0->stepT Q m=runT Q (crowd gs (ah w τ d) sl) 0->Runs Q m t R) {m t} (hF:fX Q g w m t):Runs Q m t R:=by
 obtain⟨⟨gs,sl,q,τ,d,rfl,h0,hL⟩,hH,hD⟩:=hF;have key:∀M gs sl q τ d t,sumTo gs.size q=M->gs[0]?=some g->Leavers Q t gs q->Held t->Deaf t 0=0->Runs Q (crowd gs (ah w τ d) sl) t R:=by
  intro M;induction M using SL with
  |ind M ihM=>
  intro gs sl q τ d t hM h0 hL hH hD;have haw:∀x∈gs,awake x:=by
   intro x hx;obtain⟨i,hi,rfl⟩:=SV.1 hx;rcases SO i with rfl|h1
   .have:gs[0]=g:=by grind
    rw[this];exact awake_of (.inl hr)
   .exact awake_of ((hL.old i _ h1 (Su hi)).status.elim .inl λx=>.inr (.inr x))
  obtain⟨i,x,d',sl',hi,hx,hst⟩:=crowd_pick (P:=Q) (w:=ah w τ d) (sl:=sl) haw ⟨0,g,h0,hr⟩;have hat:(ah w τ d).at d'=ah w τ d':=rfl;rw[hat]at hst;rcases SO i with rfl|h1
  .exact H gs sl' q τ d' t _ h0 hL hH hD hst
  .have hq:=hL.old i x h1 hi;have h4:(i==0)=false:=by grind
   have hlt:i<gs.size:=(x5.1 hi).1;cases hqi:q i with
   |zero=>rw[hqi]at hq;rw[hq.1]at hx;cases hx
   |succ k=>
    rw[hqi]at hq;rcases hq with⟨hf,_⟩|⟨_,g',es,hm,h3,hq'⟩
    .rw[hf]at hx;cases hx
    have h2:=runT_crowd_go (P:=Q) (sl:=sl') (i:=i) hi (by rw[h4];exact h3 (ah w τ d'));have hsz:((gs.map (woken Q x g' (ah w τ d'))).setIfInBounds i g').size=gs.size:=by simp
    have hsum:sumTo gs.size (upd q i k)+(k+1)=sumTo gs.size q+k:=by
     have:=sumTo_upd q k id hlt;simp_all
    have hne:i≠0:=by omega
    refine Runs.step (hst.trans h2) (ihM (sumTo gs.size (upd q i k)) (by rw[<- hM];omega) _ sl' (upd q i k) τ d' _ (by rw[hsz]) ?_ ?_ (hH.mute (g:=i) hne λop hop=>by obtain⟨e,_,rfl⟩:=AS hop;rfl λop hop=>by obtain⟨e,he,rfl⟩:=AS hop;exact touch_mute (hm e he)) ((Deaf_other t hne _ λop hop=>by obtain⟨e,_,rfl⟩:=AS hop;rfl).trans hD))
    .rw[up hne,If,h0];simp[woken_run hr]
    .refine⟨λj y hj hy=> ?_,λj hj=> ?_⟩
     .by_cases hji:i=j
      .simp_all[Sz,upd_same,Deaf_own]
      .rw[up hji,If]at hy;obtain⟨z,hz,rfl⟩:=IN.1 hy;have h5:=hL.old j z hj hz;rw[woken_quitsD h5,upd_ne q k (Tl hji),Deaf_other t hji _ λop hop=>by obtain⟨e,_,rfl⟩:=AS hop;rfl];omega
     .rw[Deaf_other t (g':=i) (by omega) _ λop hop=>by obtain⟨e,_,rfl⟩:=AS hop;rfl];exact hL.above j (by simpa using hj)
 exact key _ gs sl q τ d t rfl h0 hL hH hD
theorem fX.go(hr:g.status= .running)(h:∀τ d,∃d' E,stepG Q true g (ah w τ d)= .go g1 (ah w1 τ d') E/\OF 0 E=0)
 (k:∀m t,fX Q g1 w1 m t->Runs Q m t R) {m t} (hF:fX Q g w m t):Runs Q m t R:=by
 refine hF.turn hr λgs sl q τ d t m h0 hL hH hD hst=> ?_
 obtain⟨d',E,hg,hq⟩:=h τ d;refine Runs.step (hst.trans (runT_crowd_go (P:=Q) (sl:=sl) (i:=0) h0 (show stepG Q (0==0) g (ah w τ d)=_ from hg))) (k _ _ ⟨⟨_,sl,q,τ,d',rfl,by simp[(x5.1 h0).1],?_⟩,hH.own λop hop=>by obtain⟨e,_,rfl⟩:=AS hop;rfl,by rw[Deaf_own,hD];omega⟩);refine⟨λj y hj hy=> ?_,λj hj=> ?_⟩
 .have hne:0≠j:=by omega
  rw[up hne,If]at hy;obtain⟨z,hz,rfl⟩:=IN.1 hy;have hq:=hL.old j z hj hz;rw[woken_quitsD hq,Deaf_other t (by omega) _ λop hop=>by obtain⟨e,_,rfl⟩:=AS hop;rfl];omega
 .rw[Deaf_other t (g':=0) (by grind) _ λop hop=>by obtain⟨e,_,rfl⟩:=AS hop;rfl];exact hL.above j (by simpa using hj)
theorem fX.hire(hr:g.status= .running)(h:∀τ d,∃d',stepG Q true g (ah w τ d)= .spawn g1 child (ah w1 τ d') #[])
 (H:∀gs sl q τ d t k,k≠0->di Q k g1 child gs q t->PT k (λ_=>False) (λ_=>False) t->Runs Q (crowd gs (ah w1 τ d) sl) t R) {m t} (hF:fX Q g w m t):Runs Q m t R:=by
 refine hF.turn hr λgs sl q τ d t m h0 hL hH hD hst=> ?_
 obtain⟨d',hg⟩:=h τ d;have h4:=runT_crowd_spawn (P:=Q) (sl:=sl) (i:=0) h0 (show stepG Q (0==0) g (ah w τ d)=_ from hg);have hlt:0<gs.size:=(x5.1 h0).1;refine Runs.step (hst.trans h4) ?_;have e:((BY 0 g.frame.fn g.frame.place #[]).push {g:=0,fn:=g.frame.fn,pos:=g.frame.place,act:=.go gs.size}|>.push {g:=gs.size,fn:=child.frame.fn,pos:=g.frame.place,act:=.start})=#[{g:=0,fn:=g.frame.fn,pos:=g.frame.place,act:=.go gs.size},{g:=gs.size,fn:=child.frame.fn,pos:=g.frame.place,act:=.start}]:=rfl;rw[e];refine H _ _ q τ d' _ gs.size (by omega) ⟨?_,?_,λi x h1 h2 h3=> ?_,λj hj=> ?_⟩ (PT.hire hH hD (hL.above _ (Te _)) (by omega))
 .rw[T8 (by simpa using hlt)];simp
 .rw[show gs.size=(gs.setIfInBounds 0 g1).size from by simp,Array.getElem?_push_size]
 .have h5:i<gs.size:=by
   grind
  rw[T8 (by simpa using h5)]at h3;have hx:gs[i]?=some x:=by
   rw[<- h3,<- Su,up (Tl h1)]
  have:=hL.old i x (by omega) hx;have hd:Deaf (t++ #[{g:=0,fn:=g.frame.fn,pos:=g.frame.place,act:=.go gs.size},{g:=gs.size,fn:=child.frame.fn,pos:=g.frame.place,act:=.start}]) i=Deaf t i:=by
   refine Deaf_quiet λop hop d=> ?_
   simp[SF]at hop;rcases hop with rfl|rfl<;>rfl
  rw[hd];omega
 .have hd:Deaf (t++ #[{g:=0,fn:=g.frame.fn,pos:=g.frame.place,act:=.go gs.size},{g:=gs.size,fn:=child.frame.fn,pos:=g.frame.place,act:=.start}]) j=Deaf t j:=by
   refine Deaf_quiet λop hop d=> ?_
   simp[SF]at hop;rcases hop with rfl|rfl<;>rfl
  rw[hd];simp[Array.size_push]at hj;exact hL.above j (by omega)
end
end
section
open Go.Conc
variable[aD]
section
variable{Q:IS}{R:Machine->Trace->Prop}{m:Machine}{t:Trace}{w w1:AT}{b:SG}{a:Act}{k:List Item}{cs:List SG}{ops:Array Oper}{i:Nat}{rest:List Nat}{o:Oper}
theorem fX.ctl{g g1}(hr:g.status= .running)(h:∀w,stepG Q true g w= .go g1 w)(k:∀m t,fX Q g1 w m t->Runs Q m t R)(hF:fX Q g w m t):Runs Q m t R:=
 hF.go hr (λτ d=>⟨d,#[],h _,rfl⟩) k
theorem q9{fn}(hu:Hu Q (SI a.eval o)){n u}(hr:(SI a.eval o).run Q w= .ok n u):OF 0 (listed Q fn a o w)=0:=by
 rcases j7 0 hu.hu w #[] gP with⟨_,_,_,hl⟩|⟨x,u2,e1,_⟩
 .exact(dO Q fn hl.ev).trans hl.deaf
 simp_all
theorem fX.value{v}(ho:ops[i]?=some o)(hw:SJ o (yielded ops a.tmps)=true)(hk:b.kind≠.early)(hc:∀c,o.op≠.call c)
 (hr:∀τ d,(SI a.eval o).run Q (ah w τ d)= .ok (.value v) (ah w1 τ d)) (k1:∀m t,fX Q (G (b.at (a.put o.dst v) (.inRegion ops rest::k)) cs) w1 m t->Runs Q m t R)
 (hF:fX Q (G (b.at a (.inRegion ops (i::rest)::k)) cs) w m t):Runs Q m t R:=
 hF.go rfl (λτ d=>⟨d,_,stepG_value ho hw hk (hr τ d),q9 (ri _ _ hc) (hr τ d)⟩) k1
theorem fX.none(ho:ops[i]?=some o)(hw:SJ o (yielded ops a.tmps)=true)(hk:b.kind≠.early)(hc:∀c,o.op≠.call c)
 (hr:∀τ d,(SI a.eval o).run Q (ah w τ d)= .ok .skip (ah w1 τ d)) (k1:∀m t,fX Q (G (b.at (a.put o.dst undef) (.inRegion ops rest::k)) cs) w1 m t->Runs Q m t R)
 (hF:fX Q (G (b.at a (.inRegion ops (i::rest)::k)) cs) w m t):Runs Q m t R:=
 hF.go rfl (λτ d=>⟨d,_,stepG_none ho hw hk (hr τ d),q9 (ri _ _ hc) (hr τ d)⟩) k1
theorem fX.enter{f fn c args}(ho:ops[i]?=some o)(hw:SJ o (yielded ops a.tmps)=true)(hk:b.kind≠.early)(hu:Hu Q (SI a.eval o))
 (hf:Q.funcs[f]?=some fn) (hb:fn.body=some c) (hr:∀τ d,(SI a.eval o).run Q (ah w τ d)= .ok (.enter f args) (ah w τ d))
 (k1:∀m t,fX Q (G ((base f).at {tmps:=args++Array.replicate (fn.ntmps-args.size) undef,defers:=[]} [.code c]) (b.at a (.inRegion ops (i::rest)::k)::cs)) w m t->Runs Q m t R)
 (hF:fX Q (G (b.at a (.inRegion ops (i::rest)::k)) cs) w m t):Runs Q m t R:=
 hF.go rfl (λτ d=>⟨d,_,by rw[<- enter_at args hf hb];exact stepG_enter ho hw hk (hr τ d),q9 hu (hr τ d)⟩) k1
def ca(Q:IS)(R:Machine->Trace->Prop)(g:AI)(w:AT):Prop:=∀m t,fX Q g w m t->Runs Q m t R
theorem ca.ctl{g g1}(h:∀w,stepG Q true g w= .go g1 w)(hr:g.status= .running)(k:ca Q R g1 w):ca Q R g w:=λm t hF=>hF.ctl hr h k
theorem ca.value{v}(w1)(ho:ops[i]?=some o)(hw:SJ o (yielded ops a.tmps)=true)(hk:b.kind≠.early)(hc:∀c,o.op≠.call c)
 (hr:∀τ d,(SI a.eval o).run Q (ah w τ d)= .ok (.value v) (ah w1 τ d)) (k1:ca Q R (G (b.at (a.put o.dst v) (.inRegion ops rest::k)) cs) w1):ca Q R (G (b.at a (.inRegion ops (i::rest)::k)) cs) w:=λm t hF=>hF.value ho hw hk hc hr k1
theorem ca.none(w1)(ho:ops[i]?=some o)(hw:SJ o (yielded ops a.tmps)=true)(hk:b.kind≠.early)(hc:∀c,o.op≠.call c)
 (hr:∀τ d,(SI a.eval o).run Q (ah w τ d)= .ok .skip (ah w1 τ d)) (k1:ca Q R (G (b.at (a.put o.dst undef) (.inRegion ops rest::k)) cs) w1):ca Q R (G (b.at a (.inRegion ops (i::rest)::k)) cs) w:=λm t hF=>hF.none ho hw hk hc hr k1
theorem ca.hire{d0 f c}(ho:ops[i]?=some o)(hw:SJ o (yielded ops a.tmps)=true)(hk:b.kind≠.early)
 (hr:∀τ d,(SI a.eval o).run Q (ah w τ d)= .ok (.spawn d0) (ah w τ d)) (he:∀τ d,(SI a.eval o).events Q (ah w τ d) #[]=#[]) (hd:d0.target= .fn f c)
 (H:∀gs sl q τ d t n,n≠0->di Q n (G (b.at (a.put o.dst undef) (.inRegion ops rest::k)) cs) (born Q d0) gs q t->PT n (λ_=>False) (λ_=>False) t->Runs Q (crowd gs (ah w τ d) sl) t R):ca Q R (G (b.at a (.inRegion ops (i::rest)::k)) cs) w:=
 λm t hF=>hF.hire rfl (λτ d=>⟨d,by rw[stepG_spawn ho hw hk (hr τ d) hd,listed_nil (he τ d)]⟩) H
end
end
theorem HW{α β:Type}{P:β->Prop}{f}(hf:∀a b r,P b->f a b=some r->P (match r with | .done b=>b| .yield b=>b)):∀(l:List α) b r,P b->forIn l b f=some r->P r:=by
 intro l;induction l with
 |nil=>simp
 |cons a l ih=>
  intro b r hb h;cases hx:f a b<;>grind
def py(σ:Nat->Nat)(i:TypeInfo):Prop:=∀v,i.zero=some v->ab σ v=v
theorem yV{σ v}(h:ab σ v=v):v.cells.map (ab σ)=v.cells:=by
 rw[<- ig,h]
theorem MU{σ cs}(h:cs.map (ab σ)=cs):ab σ (.agg cs)= .agg cs:=by rw[fy,h]
theorem Cl{σ info}(hi:∀t i,info t=some i->py σ i){fs i}(h:Made.reckonStruct info fs=some i):py σ i:=by
 unfold Made.reckonStruct at h;simp only[Option.pure_def,Option.bind_eq_bind,IT]at h;obtain⟨r,hr,h⟩:=h;rw[<- Array.forIn_toList]at hr;have hP:=HW (P:=λst:Array Field×Nat×Nat×Nat×Nat×Bool×Bool×Option (Array T4)×String=>∀vs,st.2.2.2.2.2.2.2.1=some vs->vs.map (ab σ)=vs) ?_ _ _ _ λvs h0=>by grind hr
 .have hz:∀j:TypeInfo,j.zero=Option.map Value.agg r.2.2.2.2.2.2.2.1->py σ j:=λj hj v hv=>by
   rw[hj]at hv;obtain⟨vs,h0,rfl⟩:=IN.1 hv;simp[*]
  repeat' (first |split at h|(cases h;exact hz _ rfl))
 .intro f st x hst hx;obtain⟨j,hj,hx⟩:=IT.1 hx;have key:∀vs,(if st.2.1+j.size>Made.mostCells then none else st.2.2.2.2.2.2.2.1.bind λa=>j.zero.bind λb=>some (a++b.cells))=some vs->vs.map (ab σ)=vs:=λvs h0=>by
   split at h0
   .cases h0
   .obtain⟨a,ha,h0⟩:=IT.1 h0;obtain⟨z,hz,h0⟩:=IT.1 h0;cases h0;rw[Array.map_append,hst a ha,yV (hi _ _ hj z hz)]
  by_cases c1:j.str.isEmpty=true
  .rw[if_pos c1]at hx;cases hx
  rw[if_neg c1]at hx;by_cases c2:f.embedded=true
  .rw[if_pos c2]at hx;cases hx
  rw[if_neg c2]at hx;by_cases c3:f.tag.isEmpty=true
  .rw[if_pos c3]at hx;obtain⟨tag,_,hx⟩:=IT.1 hx;by_cases c4:j.bytes=0
   .rw[if_pos c4]at hx;cases hx;exact key
   .rw[if_neg c4]at hx;cases hx;exact key
  .rw[if_neg c3]at hx;obtain⟨tag,_,hx⟩:=IT.1 hx;by_cases c4:j.bytes=0
   .rw[if_pos c4]at hx;cases hx;exact key
   .rw[if_neg c4]at hx;cases hx;exact key
theorem CW{σ info}(hi:∀t i,info t=some i->py σ i){d i}(h:Made.reckon info d=some i):py σ i:=by
 unfold Made.reckon at h;cases d;case struct fs=>exact Cl hi h
 case array n e=>
  simp[IT]at h;obtain⟨j,hj,s,_,h⟩:=h;cases h;intro v hv;split at hv
  .cases hv
  split at hv
  .cases hv;simp
  .obtain⟨z,hz,rfl⟩:=IN.1 hv;refine MU ?_;rw[Array.map_flatten,Array.map_replicate,yV (hi e j hj z hz)]
 all_goals
  simp[IT]at h;repeat' (first |(obtain⟨_,_,h⟩:=h)|split at h)
  all_goals first
   |(intro v hv;cases hv;simp)
   |(cases h)
   |(cases h;intro v hv)
   |(generalize Made.spell _=o at h;cases o<;>cases h;intro v hv;cases hv<;>simp)
theorem D3{σ T}(h0:∀(t:Nat) i,T.types[t]?=some i->py σ i):∀f t i,Made.infoAt T f t=some i->py σ i:=by
 intro f;induction f with
 |zero=>intro t i h;cases h
 |succ f ih=>
  intro t i h;unfold Made.infoAt at h;split at h
  .exact h0 t i h
  .obtain⟨d,_,h⟩:=IT.1 h;exact CW ih h
def sM:Nat->T4->Bool
 |0,_=>false
 |d+1,.agg cs=>cs.all (sM d)
 |d+1,.tuple cs=>cs.all (sM d)
 |_,v=>qt v
theorem EY(σ):∀d v,sM d v=true->ab σ v=v:=by
 intro d;induction d with
 |zero=>intro v h;cases v<;>cases h
 |succ d ih=>
  intro v h;have hall:∀cs:Array T4,cs.all (sM d)=true->cs.map (ab σ)=cs:=λcs hc=>by
   grind
  cases v;case agg cs=>rw[fy,hall cs h]
  case tuple cs=>rw[gl,hall cs h]
  all_goals exact wh h σ
theorem N1{Q}(h:(Q.types.all λi=>match i.zero with |some v=>sM 4 v|none=>true)=true)(σ):l4 Q σ:=by
 have h0:∀(t:Nat)(i:TypeInfo),Q.types[t]?=some i->py σ i:=λt i ht v hv=>by
  rw[Array.all_eq_true]at h;obtain⟨hlt,rfl⟩:=x5.1 ht;have:=h t hlt;rw[hv]at this;exact EY σ 4 v this
 intro t i v ht hv;have h1:=ht;unfold Tables.info? at h1;split at h1
 .exact h0 t i h1 v hv
 .exact D3 h0 _ t i h1 v hv
end Go.Proofs.YtkgohmcmmcpigaaGreatDoor
