/- A part of the proof that Folded holds; no condition. -/
import Derived.Conc.EventLaws
import Derived.Conc.TokenWalk
import Derived.Conc.QuitsD
import Derived.Conc.Own2
import Derived.Conc.Own4
import Derived.Conc.CompanyWords
import Derived.Test.YtkgohmcmmcpigabGreatDoorW04
set_option linter.all false
namespace Go.Proofs.YtkgohmcmmcpigabGreatDoor
open Go
open _root_.Array renaming getElem?_setIfInBounds_ne->AI,getElem?_eq_some_iff->AS,getElem?_map->SC,getElem?_eq_getElem->SH,getElem?_setIfInBounds_self_of_lt->SO,getElem?_push->T9,append_empty->Ti,mem_iff_getElem->Tp,getElem?_modify->Tq,getElem?_setIfInBounds->Tv,getElem?_push_lt->TR,mem_push->TX
open Go renaming Goroutine->Sv,World->Sx,Program->SE,deafBehind->SG,callDeferred->SI,Frame->SZ,execOp->T6,Event->Tc,Value->TG,Question->TL
open Go.Conc renaming mem_ofEvents->Sw,served->SQ
open Go.GStep renaming after->Sy,go->SU,ended->T4,comm->Tm
open Go.MemOp renaming ofEvents->Sz
open _root_.Option renaming map_eq_some_iff->SD,bind_eq_some_iff->SF,map_some->T5,isSome_iff_exists->Tf
open Go.Sem renaming runT->SK,getObj->Tr,runT_eq->Tw,setObj->TY
open Go.Instr renaming endRound->SN,takeDeferred->Th,endLoop->TF,enterLoop->TQ
open Go.Builtin renaming close_->SP,close->T8
open _root_.Nat renaming lt_of_lt_of_le->SS,strongRecOn->Tb,eq_zero_or_pos->Tg,le_trans->Tu,le_refl->U5
open _root_.Classical renaming byContradiction->SX
open _root_.List renaming mem_toArray->SY,not_mem_nil->Tn,mem_cons->TE
open Go.World renaming setChan->T0,farStore->TS,viewStore->U9
open Go.Region renaming wanted->T7
open Go.MemAct renaming ofEvent->Tj,touch?->TD
open _root_.Bool renaming false_eq_true->Tz
open Go.Kernel renaming perform->TW
open Go.Frame renaming ofRow->U6,enter->U7
open Go.Extern renaming find->U8,findNext->Uc
open Go.Next renaming value->Ub
open _root_.Ne renaming symm->Uf
open Go.GoStatus renaming running->Su,finished->U0
open Go.Obj renaming chan->SJ,coro->Ta,cells->Tl,deferred->TP
open Go.Result renaming halt->SL,ok->Tk
open Go.Value renaming chan->SM,iface->TJ
open Go.Item renaming inRegion->SR
open Go.Target renaming builtin->SV
open _root_.Except renaming error->SW
open Go.Outcome renaming unsupported->Td,stuck->Ty
open Go.Halt renaming unsupported->Te
open Go.FrameMode renaming panicking->Ts,returning->TZ
open Go.Loc renaming mark->Tt,obj->TC
open Go.CommShape renaming recv->Tx,send->U2
open Go.CallKind renaming early->TH,deferred->TN
open Go.Mark renaming disable->TI,enable->TV
open Go.Unsupported renaming noEntry->TK
open Go.Question renaming order->TU
section
open Go.Conc
variable[aD]
structure tn(Q:SE)(U:Nat->Option Code)(K:Sv->Sx->Prop):Prop where
 run:∀g w,K g w->g.status=Su
 dep:∀g w,K g w->g.callers≠[]
 foul:∀g w,K g w->¬ qc Q U g
structure m8(Q:SE)(U:Nat->Option Code)(D0:SZ):Prop extends C9 D0 where
 defers:∃f fn why,D0.defers=[{target:= .fn (.func f) #[],args:=#[]}]/\U f=some (.refuse why)/\Q.funcs[f]?=some fn
section
variable{Q:SE}{U:Nat->Option Code}{D0:SZ}{K:Sv->Sx->Prop}
def FB(A:lf Q U){f c fn}(d:U f=some c)(a:Q.funcs[f]?=some fn)(args w b):(callFunc f args).runT (alt Q U) w b=(Tk (.enter f args) w,b):=by
 show(match(alt Q U).funcs[f]? with
  |none=>stuck "call: no such function"
  |some fn=>_).runT (alt Q U) w b=_
 simp only[ft,a,T5,j5,A.num f fn a];have e:(ax U f fn).body.isNone=false:=by simp[ax,d]
 simp[e]
def Hd{g w}(i:¬ K g w)(h:∀e d,∃o c,stepG (alt Q U) true g (ah w e d)=T4 o c)(T:Tree (alt Q U) K g w):False:=by
 cases T with
 |stop f=>exact i f
 |step G W E k a b=>
  have⟨o,c,j⟩:=h w.tape w.drawn;cases a w.tape w.drawn av<;>grind
def oO(a:gS U)(f:tn Q U K){g w}(T:Tree (alt Q U) K g w)(h:qc Q U g):False:=
 Hd (λb=>f.foul _ _ b h) (λc d=>let⟨o,e⟩:=wR a h (ah w c d);⟨o,_,e⟩) T
def nP(a:tn Q U K){g w}(T:Tree (alt Q U) K g w):g.status=Su:=by
 cases T with
 |stop b=>exact a.run _ _ b
 |step G W E c _ _=>exact c
def si(A:lf Q U)(v:gS U)(y:tn Q U K)(z:m8 Q U D0){r b B}(T:Tree (alt Q U) K r b)(h:tP D0 (SU r b B)):False:=by
 rcases h with h|⟨c,m,g,h⟩
 exact h (nP y T);have p:¬ K r b:=λu=>y.dep _ _ u g
 have⟨F,L,N,H,i⟩:=r;dsimp only at c m g h;subst c m g;rcases h with rfl|⟨a,rfl⟩
 refine Hd p (λC d=> ?_) T;have⟨j,R⟩:=z.todo;refine⟨Td (Unsupported.elab j) (F.pos (alt Q U)),ah b C d,?_⟩;unfold stepG;dsimp only;rw[z.mode];simp_all[stepG.exec]
 have⟨f,M,j,x,n,t⟩:=z.defers;cases T with
 |stop u=>exact p u
 |step G W E I k e=>
  have c:stepG (alt Q U) true {frame:= {D0 with mode:=Ts a},callers:=[],status:=Su,dying:=none,offers:=i} (ah b b.tape b.drawn)=
   Sy (seen (alt Q U) D0.fn #[]) (SU {frame:=U7 (alt Q U) f #[] TN,callers:=[{D0 with mode:=Ts a,defers:=[]}],status:=Su,dying:=none} (ah b b.tape b.drawn)):=by
   rw[x];exact oD (P:=alt Q U) (fr:= {D0 with mode:=Ts a,defers:=[]}) (cs:=[]) (f:=f) (args:=#[]) (cap:=#[]) (w:=ah b b.tape b.drawn) (FB A n t (#[]++ #[]) _ #[])
  have l:¬ Big (stepG (alt Q U) true {frame:= {D0 with mode:=Ts a},callers:=[],status:=Su,dying:=none,offers:=i} (ah b b.tape b.drawn)).es:=by
   rw[c];exact bh (aN av) av
  cases k _ _ l with
  |go q=>
   rw[c]at q;simp only[Sy,GStep.go.injEq]at q;have⟨s,_,_⟩:=q;refine oO v y (e _ _ l) ?_;rw[<- s];exact⟨f,#[],TN,rfl,by rw[n];rfl,rfl,λd D=>by cases D⟩
  |comm q _=>
   simp_all[Sy]
end
section
variable{Q:SE}{U:Nat->Option Code}{D0:SZ}{dt:bM}{Ro:Nat->Prop}{os:Os}{rest:List SZ}{K:Sv->Sx->Prop}
def Side.ah{b p g e w c}(S:Side Q U D0 dt b Ro os rest p g w e c)(f d):Side Q U D0 dt b Ro os rest p g w e (ah c f d):=
 ⟨S.part,S.gok,S.iv,S.ro,S.relG,λi a=>by
  have h:=S.relW i a;exact⟨h.inj,rfl,rfl,h.ro,h.blk,h.num,h.os⟩⟩
def Side.plain{a p g b w c}(S:Side Q U D0 dt a Ro os rest p g w b c):g.dying=none/\g.frame.roundOf=none/\(g.frame.kind= .normal\/g.frame.kind=TN)/\g.status=Su:=
 ⟨(S.relG _ (bL S.part 0)).dying.1,S.gok.frame.round,S.gok.frame.kind,(S.relG _ (bL S.part 0)).status.1⟩
theorem Side.after{c p g a w d r cap s i s2 rc2 b b2 f}(S:Side Q U D0 dt c Ro os rest p g w a d)(k:cG w r cap b s i f)(j:lZ dt g.frame){v v'}(h:∀e,Ag p e->v'=ab e v):
 Side Q U D0 dt c Ro os rest p {g with frame:=g.frame.finish v,status:=Su,offers:=none} (ay w r (SJ cap b2 false s2 rc2 f)) {a with frame:=a.frame.finish v',status:=Su,offers:=none} d:=
 (S.fin j h).chan k.1 rfl rfl
def Side.Ld{a p g c w e}(S:Side Q U D0 dt a Ro os rest p g w c e)(b d):Side Q U D0 dt a Ro os rest p g (Go.Proofs.YtkgohmcmmcpigabGreatDoor.ah w b d) c e:=⟨S.part,S.gok,fE S.iv b d,S.ro,S.relG,S.relW⟩
def Side.frame{b p g g' w h}(S:Side Q U D0 dt b Ro os rest p g w g' h){f e}(k:ck Q dt b f)(j:f.kind=g.frame.kind)(m:dg g.frame->dg f)(l:∀O,Ag p O->e=aC O f):
 Side Q U D0 dt b Ro os rest p {frame:=f,callers:=g.callers,status:=Su,dying:=none} w {frame:=e,callers:=g'.callers,status:=Su,dying:=none} h:=by
 refine⟨S.part,⟨k,S.gok.callers,cJ g.callers.dropLast j S.gok.stack,S.gok.last⟩,⟨S.iv.1,?_⟩,S.ro,λO a=>⟨l O a,(S.relG O a).callers,⟨rfl,rfl⟩,⟨rfl,rfl⟩⟩,S.relW⟩;rcases S.iv.2 with⟨⟨d,c,_⟩,_⟩|⟨i,c⟩
 rw[(S.relG _ (bL S.part 0)).dying.1]at c;cases c;exact .inr ⟨⟨m i.1,i.2.1,nofun,nofun⟩,nofun⟩
def Side.NV{c p g b w d}(S:Side Q U D0 dt c Ro os rest p g w b d)(t m):
 Side Q U D0 dt c Ro os rest p {frame:=g.frame.raise [{v:=TJ t (strVal m),recovered:=false}],callers:=g.callers,status:=Su,dying:=none} w {frame:=b.frame.raise [{v:=TJ t (strVal m),recovered:=false}],callers:=b.callers,status:=Su,dying:=none} d:=by
 refine S.frame (S.gok.frame.raise _) (by grind [Frame.raise]) (λh=>gZ h _) λe a=> ?_
 simp[(S.relG e a).frame,j3,jn,strVal]
def Side.Nr{e p g b w f}(S:Side Q U D0 dt e Ro os rest p g w b f){d ds}(k:g.frame.defers=d::ds):
 Side Q U D0 dt e Ro os rest p {frame:= {g.frame with defers:=ds},callers:=g.callers,status:=Su,dying:=none} w {frame:= {b.frame with defers:=b.frame.defers.tail},callers:=b.callers,status:=Su,dying:=none} f:=by
 have a:=S.gok.frame;refine S.frame ⟨a.round,a.items,a.regs,λx j=>a.defs x (by grind),a.kind,a.init⟩ rfl (λh=>⟨h.1,λx j=>h.2 x (by grind)⟩) λi c=> ?_
 rw[(S.relG i c).frame];simp_all[aC]
section
variable{P:SE}{fr:SZ}{cs:List SZ}{w:Sx}{a:Array TypeId}{t:TypeId}{c:Array Bool}{r:Nat}
def It{m e b}(g:fr.mode= .run->False){d ds}(h:fr.defers=d::ds)(j:d.target=SV T8 a t c)(i:d.args=#[SM (some r)]):
 stepG P m {frame:=fr,callers:=cs,status:=e,dying:=none,offers:=b} w=SI P {fr with defers:=ds} cs none ⟨SV T8 a t c,#[SM (some r)]⟩ w:=by
 have⟨dt,f⟩:=d;simp_all[stepG,unwind]
def NS{v d b}(h:(SP a t #[SM (some r)]).runT P w #[]=(Tk v d,b)):(invoke (SV T8 a t c) #[SM (some r)]).runT P w #[]=(Tk (.value v) d,b):=by
 show(SP a t #[SM (some r)]>>=λv=>pure (Ub v)).runT P w #[]=_;rw[aM,h];rfl
def BN{x d b}(h:(SP a t #[SM (some r)]).runT P w #[]=(SL x d,b)):(invoke (SV T8 a t c) #[SM (some r)]).runT P w #[]=(SL x d,b):=by
 show(SP a t #[SM (some r)]>>=λv=>pure (Ub v)).runT P w #[]=_;rw[aM,h]
def KC{d s e b f}(h:w.heap[r]?=some (SJ d b false s e f)):
 ∃g,¬ Big g/\SI P fr cs none ⟨SV T8 a t c,#[SM (some r)]⟩ w=Sy g (SU {frame:=fr,callers:=cs,status:=Su,dying:=none} (ay w r (SJ d b true s e f))):=by
 refine⟨seen P fr.fn ((#[].push ⟨TC r,false,true⟩).push ⟨TC r,true,true⟩),aN av,?_⟩;have i:=NS (c:=c) (show(SP a t #[SM (some r)]).runT P w #[]=(Tk (.tuple #[]) (ay w r (SJ d b true s e f)),(#[].push ⟨TC r,false,true⟩).push ⟨TC r,true,true⟩)from by
  rw[Tw,run_close_open _ _ h,events_close_open _ _ h];rfl)
 simp_all[SI]
def Kz{d s f b g}(h:w.heap[r]?=some (SJ d b true s f g)):
 ∃e,¬ Big e/\SI P fr cs none ⟨SV T8 a t c,#[SM (some r)]⟩ w=Sy e (SU {frame:=fr.raise [{v:=TJ P.rt.plainError (strVal "close of closed channel"),recovered:=false}],callers:=cs,status:=Su,dying:=none} w):=by
 refine⟨seen P fr.fn (#[].push ⟨TC r,false,true⟩),aN av,?_⟩;have i:=BN (c:=c) (show(SP a t #[SM (some r)]).runT P w #[]=(SL (.panic (TJ P.rt.plainError (strVal "close of closed channel"))) w,#[].push ⟨TC r,false,true⟩)from by
  simp[close_some,run_getObj_chan _ _ h,events_getObj_chan _ _ _ h];exact⟨rfl,rfl⟩)
 simp_all[SI]
def BM(h:∀o,w.heap[r]?=some o->o.isChan=false):∃b o,¬ Big b/\SI P fr cs none ⟨SV T8 a t c,#[SM (some r)]⟩ w=Sy b (T4 o w):=by
 have e:∃s b,¬ Big b/\(SP a t #[SM (some r)]).runT P w #[]=(SL (.stuck s) w,b):=by
  rw[close_some];cases d:w.heap[r]? with
  |none=>exact⟨_,_,av,by simp only[getObj,bind,Sem.bind,SK,d];rfl⟩
  |some o=>
   have g:=h o d;cases o;case chan=>cases g
   case cells=>exact⟨_,_,av,by simp only[getObj,bind,Sem.bind,SK,d];rfl⟩
   all_goals
    refine⟨"close: no channel in this block",(#[]:Array Tc).push ⟨TC r,false,false⟩,?_,?_⟩;rotate_left
    simp only[getObj,bind,Sem.bind,SK,d];rfl;exact av
 have⟨s,b,f,i⟩:=e;have j:=BN (c:=c) i;refine⟨seen P fr.fn b,Ty s (fr.pos P),aN f,?_⟩;simp_all[SI]
end
def shut_tree(E:mS Q U dt true)(H:gS U)(hK:tn Q U K)(hD:m8 Q U D0){r}(hKo:∀g w,K g w->¬ jZ w r){g w}(T:Tree (alt Q U) K g w):
 ∀p g' l,Side Q U D0 dt true Ro os rest p g w g' l->jZ w r->False:=by
 induction T with
 |stop hk=>exactλp g' l S A=>hKo _ _ hk A
 | @step g w G W E0 hr i j ih=>
  intro p g' l S A;have hO2:jZ (Go.Proofs.YtkgohmcmmcpigabGreatDoor.ah w l.tape l.drawn) r:=A;have I:=S.plain;by_cases L:AtClose g;have⟨hm,d,ds,a,t,c,R,h1,h2,h3⟩:=L;have n:∀w2,stepG (alt Q U) true g w2=SI (alt Q U) {g.frame with defers:=ds} g.callers none ⟨SV T8 a t c,#[SM (some R)]⟩ w2:=λw2=>by
   have⟨fr,cs,st,dy,off⟩:=g;dsimp only at I hm h1;obtain⟨rfl,_⟩:=I;exact It hm h1 h2 h3
  by_cases hch:∃o,w.heap[R]?=some o/\o.isChan=true;have⟨o,ho,hoc⟩:=hch;have:=A.2 R o ho hoc;subst this;have⟨⟨cap,b,s,rc,tm,h0⟩,_⟩:=A;have⟨M,m,k⟩:=Kz (P:=alt Q U) (fr:= {g.frame with defers:=ds}) (cs:=g.callers) (a:=a) (t:=t) (c:=c) (w:=Go.Proofs.YtkgohmcmmcpigabGreatDoor.ah w l.tape l.drawn) h0;have f:¬ Big (stepG (alt Q U) true g (Go.Proofs.YtkgohmcmmcpigabGreatDoor.ah w l.tape l.drawn)).es:=by rw[n,k];exact bh m av
  have x:=ih _ _ f;cases i _ _ f with
  |go e=>
   rw[n,k]at e;simp only[Sy,GStep.go.injEq]at e;have⟨q,u,_⟩:=e;rw[<- q,<- u]at x;exact x p _ l (((S.Ld l.tape l.drawn).Nr h1).NV ..) hO2
  |comm e _=>rw[n,k]at e;grind [Sy]
  have⟨M,o,m,k⟩:=BM (P:=alt Q U) (fr:= {g.frame with defers:=ds}) (cs:=g.callers) (a:=a) (t:=t) (c:=c) (r:=R) (w:=Go.Proofs.YtkgohmcmmcpigabGreatDoor.ah w l.tape l.drawn) λo ho=>by
   simp_all
  cases i _ _ (by rw[n,k];exact bh m av)with
  |go e=>rw[n,k]at e;simp_all[Sy]
  |comm e _=>rw[n,k]at e;simp_all[Sy]
  rcases oP hD.toC9 E S false L with⟨g1,w1,M,C,B,es',p',y,_,N,D,f⟩|⟨g1,c,sh,w1,M,C,c',B,es',p',y,_,hC,hFin,N,hcr,D,f⟩|⟨g1,w1,M,y,hf,f⟩|⟨h,_⟩|⟨X,f⟩
  have x:=ih _ _ f;cases i _ _ f with
  |go e=>
   rw[y]at e;simp only[GStep.go.injEq]at e;have⟨q,u,_⟩:=e;rw[<- q,<- u]at x;exact x p' C B N (A.kinds D.kinds D.grown.le)
  |comm e _=>rw[y]at e;cases e
  have x:=ih _ _ f;cases i _ _ f with
  |go e=>rw[y]at e;cases e
  |comm e hcm=>
   rw[y]at e;simp only[GStep.comm.injEq]at e;have⟨rfl,rfl,rfl,rfl,rfl,rfl⟩:=e;have⟨_,c0,Z,hc1⟩:=hC;have hcc:c0=c:=by simpa using Z.symm
   subst hcc;rcases hc1 with⟨_,rfl,hsd⟩|⟨h,_⟩
   have⟨v,hv⟩:=Tf.1 hsd;have F:=A.kinds D.kinds D.grown.le;have⟨e2,e3⟩:=Fo F hv hcm (nP hK (j _ _ f));have z:=N.plain;rw[e2,e3]at x;have m:=N.NV (alt Q U).rt.plainError "send on closed channel";have⟨fr1,cs1,st1,dy1,off1⟩:=g1;dsimp only at z x m;obtain⟨rfl,_,_,rfl⟩:=z;exact x p' _ B ⟨m.part,⟨m.gok.frame,m.gok.callers,m.gok.stack,m.gok.last⟩,m.iv,m.ro,λO hσ=>let h:=m.relG O hσ;⟨h.frame,h.callers,h.dying,h.status⟩,m.relW⟩ F;cases h
  exfalso;have ht:=j _ _ f;cases i _ _ f with
  |go e=>
   rw[y]at e;simp only[GStep.go.injEq]at e;have⟨q,u,_⟩:=e;rw[<- q]at ht;exact oO H hK ht hf
  |comm e _=>rw[y]at e;cases e
  cases h;exfalso;cases i _ _ f with
  |go e=>
   rw[e]at X;exact si E.apt H hK hD (j _ _ f) X
  |comm e _=>rw[e]at X;exact X
def uz(E:mS Q U dt true)(C:gS U)(hK:tn Q U K)(hD:m8 Q U D0){r n Z H}(X:∀g w,K g w->∃b s,w.heap[r]?=some (SJ n b false s Z H)){g w}(T:Tree (alt Q U) K g w)(N:AtClose g)
 {p g' j b s} (S:Side Q U D0 dt true Ro os rest p g w g' j) (u:cG w r n b s Z H):K g w:=by
 cases T with
 |stop L=>exact L
 |step G W E0 hr l q=>
  exfalso;have y:=S.plain;have⟨hm,d,ds,a,t,c,m,R,h2,h3⟩:=N;have f:∀D,stepG (alt Q U) true g D=SI (alt Q U) {g.frame with defers:=ds} g.callers none ⟨SV T8 a t c,#[SM (some m)]⟩ D:=λD=>by
   have⟨fr,cs,st,dy,off⟩:=g;dsimp only at y hm R;obtain⟨rfl,_⟩:=y;exact It hm R h2 h3
  by_cases x:∃o,w.heap[m]?=some o/\o.isChan=true;have⟨o,k,F⟩:=x;have:=u.2 m o k F;subst this;have⟨es,M,e⟩:=KC (P:=alt Q U) (fr:= {g.frame with defers:=ds}) (cs:=g.callers) (a:=a) (t:=t) (c:=c) (w:=Go.Proofs.YtkgohmcmmcpigabGreatDoor.ah w j.tape j.drawn) u.1;have v:¬ Big (stepG (alt Q U) true g (Go.Proofs.YtkgohmcmmcpigabGreatDoor.ah w j.tape j.drawn)).es:=by rw[f,e];exact bh M av
  have k:=l _ _ v;have ht:=q _ _ v;cases k with
  |go h=>
   rw[f,e]at h;simp only[Sy,GStep.go.injEq]at h;have⟨I,A,_⟩:=h;rw[<- I,<- A]at ht;refine shut_tree (r:=m) E C hK hD (λg w L z=> ?_) ht p _ j (((S.Ld j.tape j.drawn).Nr R).chan (r:=m) u.1 rfl rfl) ⟨⟨n,b,s,Z,H,by simp[ay,ah,(AS.1 u.1).1]⟩,λi o k B=> ?_⟩<;>first |(have⟨b2,s2,hO2⟩:=X g w L;have⟨⟨_,_,_,_,_,h0⟩,_⟩:=z<;>grind)|by_cases hi:m=i<;>first |exact hi.symm|(simp only[ay]at k;rw[AI hi]at k;exact u.2 i o k B)
  |comm h _=>rw[f,e]at h;simp_all[Sy]
  have⟨es,o,M,e⟩:=BM (P:=alt Q U) (fr:= {g.frame with defers:=ds}) (cs:=g.callers) (a:=a) (t:=t) (c:=c) (r:=m) (w:=Go.Proofs.YtkgohmcmmcpigabGreatDoor.ah w j.tape j.drawn) λo k=>by
   cases B:o.isChan<;>first |rfl|exact absurd ⟨o,k,B⟩ x
  cases l _ _ (by rw[f,e];exact bh M av)with
  |go h=>rw[f,e]at h;simp only[Sy]at h;cases h
  |comm h _=>rw[f,e]at h;simp only[Sy]at h;cases h
def leaf(E:mS Q U dt true)(C:gS U)(hK:tn Q U K)(hD:m8 Q U D0){r y A R}(hKo:∀g w,K g w->∃b s,w.heap[r]?=some (SJ y b false s A R)){g w}(T:Tree (alt Q U) K g w):
 ∀p g' w' b s,Side Q U D0 dt true Ro os rest p g w g' w'->cG w r y b s A R->∃P m l X,K P m/\cG m r y (b++l) X A R/\w.heap.size<=m.heap.size/\∀i,i<w.heap.size->aJ m i->aJ w i:=by
 induction T with
 |stop hk=>exactλp g' w' b s S H=>⟨_,_,#[],s,hk,by simpa using H,U5 _,λi _ h=>h⟩
 | @step g w G W E0 hr k j ih=>
  intro p g' w' b s S H;by_cases hac:AtClose g;exact⟨g,w,#[],s,uz E C hK hD hKo (.step G W E0 hr k j) hac S H,by simpa using H,U5 _,λi _ h=>h⟩;have x:∀{L:Part}{u n:Sx}{Z:Array Tc},Eff p L Ro w w' u n Z->∀m,u.heap.size<=m.heap.size->(∀i,i<u.heap.size->aJ m i->aJ u i)->∀i,i<w.heap.size->aJ m i->aJ w i:=λ{L u n Z} q m hle h i D hc=>by
   have⟨c,t,f,h1⟩:=h i (SS D q.grown.le) hc;rcases q.kinds i _ h1 with⟨h2,_⟩|⟨h2,_⟩|h2<;>first |omega |exact h2|exact⟨c,t,f,h2⟩
  rcases oP hD.toC9 E S false hac with⟨g1,u,Z,M,n,es',L,B,_,S1,q,a⟩|⟨g1,c,sh,u,Z,M,c',n,es',L,B,_,hC,N,S1,hcr,q,a⟩|⟨g1,u,Z,B,hf,a⟩|⟨h,_⟩|⟨hl,a⟩
  have D:=ih _ _ a;cases k _ _ a with
  |go d=>
   rw[B]at d;simp only[GStep.go.injEq]at d;have⟨F,hz2,_⟩:=d;rw[<- F,<- hz2]at D;have⟨P,m,l,X,k1,k2,I,k4⟩:=D L M n b s S1 (H.kinds q.kinds q.grown.le);exact⟨P,m,l,X,k1,k2,Tu q.grown.le I,x q m I k4⟩
  |comm d _=>rw[B]at d;cases d
  have D:=ih _ _ a;cases k _ _ a with
  |go d=>rw[B]at d;cases d
  |comm d hcm=>
   rw[B]at d;simp only[GStep.comm.injEq]at d;have⟨rfl,rfl,rfl,rfl,rfl,rfl⟩:=d;have⟨_,c0,hc0,hc1⟩:=hC;have hcc:c0=c:=by simpa using hc0.symm
   subst hcc;rcases hc1 with⟨_,rfl,hsd⟩|⟨h,_⟩
   have⟨v,hv⟩:=Tf.1 hsd;have z:=H.kinds q.kinds q.grown.le;have⟨e1,e2,e3⟩:=wO z hv hcm (nP hK (j _ _ a));rw[e2,e3]at D;have⟨P,m,l,X,k1,k2,I,k4⟩:=D L _ n (b.push v) (s+1) (S1.after (b2:=b.push v) (s2:=s+1) (rc2:=A) z N (v:=undef) (v':=undef) λO _=>jl.symm) (z.to (s+1) A);have hsz:(ay u r (SJ y (b.push v) false (s+1) A R)).heap.size=u.heap.size:=by simp[ay]
   rw[hsz]at I k4;refine⟨P,m,#[v]++l,X,k1,?_,Tu q.grown.le I,x q m I λi hi2 hc=> ?_⟩;have:b++(#[v]++l)=b.push v++l:=by rw[<- Array.append_assoc];simp
   rw[this];exact k2;have⟨cc,t,f,h⟩:=k4 i hi2 hc;have hne:r≠i:=λe=>by
    subst e;have:=(z.to (b2:=b.push v) (s+1) A).1;rw[this]at h;cases h
   have:(ay u r (SJ y (b.push v) false (s+1) A R)).heap[i]?=u.heap[i]?:=by simp only[ay];rw[AI hne]
   exact⟨cc,t,f,this▸h⟩;cases h
  exfalso;have ht:=j _ _ a;cases k _ _ a with
  |go d=>
   rw[B]at d;simp only[GStep.go.injEq]at d;have⟨F,hz2,_⟩:=d;rw[<- F]at ht;exact oO C hK ht hf
  |comm d _=>rw[B]at d;cases d
  cases h;exfalso;cases k _ _ a with
  |go d=>
   rw[d]at hl;exact si E.apt C hK hD (j _ _ a) hl
  |comm d _=>rw[d]at hl;exact hl
end
def TT(c:Nat->Nat)(b:Nat->Prop)(w:Sx)(a:Touch):Prop:=
 (∀x,a.loc= .cell x->∃i,x.block=c i/\aJ w i/\(a.write=true->¬ b i))/\∀r,a.loc=TC r->a.write=false
def ys{d f w e}(h:Oe d f w e){b}(c:(Tj e).touch?=some b):TT d f w b:=by
 have⟨a,j,n⟩:=e;have g:b=⟨a,j,if n then .atomic else .plain⟩->TT d f w b:=λe=>by
  subst e;exact⟨λx k=>h.cell x k,λr i=>h.obj r i⟩
 cases a;case mark m=>
  have l:=h.mark m rfl;cases m<;>first |exact l.1.elim|(simp[Tj,TD]at c)
 case obj r=>
  have:=h.obj r rfl;simp_all[Tj,TD]
 all_goals
  simp[Tj,TD]at c;exact g c.symm
def yt{j q w i fn c f}(h:∀e∈f,Oe j q w e):Quiet (Sz i fn c f):=λg t b d=>by
 obtain⟨e,p,rfl⟩:=Sw b;have s:=h e p;have⟨a,k,n⟩:=e;cases a;case mark m=>
  have l:=s.mark m rfl;cases m<;>first |exact l.1.elim|rfl
 case obj r=>cases k<;>cases n<;>rfl
 all_goals rfl
def ofEvents_g{i fn b c}:∀op∈Sz i fn b c,op.g=i:=λop a=>by
 obtain⟨e,_,rfl⟩:=Sw a;rfl
section
variable{Q:SE}{U:Nat->Option Code}{D0:SZ}{dt:bM}{cl:Bool}{Ro:Nat->Prop}{os:Os}{rest:List SZ}{p p':Part}{g g' g1 g1':Sv}{w w' w1 w1':Sx}{es':Array Tc}
def Side.real(S:Side Q U D0 dt cl Ro os rest p g w g' w'){i}(h:aJ w i):∃c e f,w'.heap[p.κ i]?=some (Tl c e f):=by
 have⟨c,t,f,d⟩:=h;have a:=(S.relW _ (bL S.part 0)).blk i _ d;rw[(bL S.part 0).2 i (S.cells ⟨c,t,f,d⟩)]at a;by_cases b:Ro i;have⟨j,h,_⟩:=(a.1 b).2<;>grind;exact⟨_,_,_,a.2 b⟩
def Side.EX(S:Side Q U D0 dt cl Ro os rest p g w g' w'){i a l}(h:w.heap[i]?=some (.number a l)):∃c,w'.heap[p.κ i]?=some (.number c l):=by
 have b:=(S.relW _ (bL S.part 0)).blk i _ h;rw[(bL S.part 0).2 i (sQ S.part S.relW h trivial)]at b;exact⟨_,b⟩
def Eff.turned(S:Side Q U D0 dt cl Ro os rest p g w g' w')(s:Side Q U D0 dt cl Ro os rest p' g1 w1 g1' w1')(d:Eff p p' Ro w w' w1 w1' es'){b}(r:b<w'.heap.size)(e:w1'.heap[b]?≠w'.heap[b]?):
 ∃i,p.κ i=b/\p'.κ i=b/\aJ w i/\aJ w1 i/\¬ Ro i:=by
 have⟨i,n,m,q⟩:=d.frame b r e;rcases d.grown.new i (s.cells m)with k|⟨_,h⟩
 have⟨c,t,f,j⟩:=m;have l:=S.part.dom i k;refine⟨i,(d.grown.old i k).2.symm.trans n,n,?_,⟨c,t,f,j⟩,q⟩;rcases d.kinds i _ j with⟨a,_⟩|⟨a,_⟩|a<;>first |omega |exact a|exact⟨c,t,f,a⟩
 omega
def Eff.Ea(d:Eff p p' Ro w w' w1 w1' es'){i}(h:aJ w i):aJ w1 i:=by
 have⟨c,t,f,m⟩:=h;have b:=(AS.1 m).1;have e:=SH (SS b d.grown.le);rcases d.kinds i _ e with⟨a,_⟩|⟨_,l,j,k,a⟩|a
 omega;exact⟨l,j,k,by rw[e,a]⟩;exact⟨c,t,f,by grind⟩
def Eff.pr(S:Side Q U D0 dt cl Ro os rest p g w g' w')(k:Side Q U D0 dt cl Ro os rest p' g1 w1 g1' w1')(b:Eff p p' Ro w w' w1 w1' es'){i}(h:aJ w1 i):aJ w i/\p'.κ i=p.κ i\/w'.heap.size<=p'.κ i:=by
 rcases b.grown.new i (k.cells h)with d|⟨_,a⟩
 refine .inl ⟨?_,(b.grown.old i d).2⟩;have⟨c,t,f,j⟩:=h;have e:=S.part.dom i d;rcases b.kinds i _ j with⟨a,_⟩|⟨a,_⟩|a<;>first |omega |exact a|exact⟨c,t,f,a⟩
 omega
end
structure Duo where
 Q:SE
 βA:Nat->Option Code
 βB:Nat->Option Code
 DA:SZ
 DB:SZ
 dtA:bM
 dtB:bM
 RoA:Nat->Prop
 RoB:Nat->Prop
 os:Os
 restA:List SZ
 restB:List SZ
 k:Nat
 rA:Nat
 rB:Nat
 capA:Nat
 capB:Nat
 tmA:Bool
 tmB:Bool
 rcB:Nat
 c:Nat
 eA:Nat
 TA:Array TG
 N0:Nat
 h0:Array Obj
 out0:Array (Nat×ByteArray)
 MA:Nat->Prop
 MB:Nat->Prop
 cls:Bool
 lo:Nat
def zz(Z:Duo)(i:Nat)(a b:TG)(w:Sx):Prop:=
 (∀c d,ab c a=ab d b)\/(i+1=Z.TA.size/\∃e,Z.lo<e/\aJ w e/\¬ Z.RoB e/\(∀c d,c Z.eA=d e->ab c a=ab d b)/\∀c d,ab c b=ab d b->c e=d e)
structure Inv2(Z:Duo)(n:Nat)(pA:Part)(gA:Sv)(wA:Sx)(gA':Sv)(pB:Part)(gB:Sv)(wB:Sx)(gB':Sv)(w':Sx)(t:Trace):Prop where
 SA:Side Z.Q Z.βA Z.DA Z.dtA false Z.RoA Z.os Z.restA pA gA wA gA' w'
 SB:Side Z.Q Z.βB Z.DB Z.dtB true Z.RoB Z.os Z.restB pB gB wB gB' w'
 cA:∃s rc,cG wA Z.rA Z.capA (Z.TA.extract n Z.TA.size) s rc Z.tmA
 cB:∃b s,cG wB Z.rB Z.capB b s Z.rcB Z.tmB/\b.size=n
 kA:pA.K Z.rA/\pA.κ Z.rA=Z.c
 kB:pB.K Z.rB/\pB.κ Z.rB=Z.c
 ch:∃tm,w'.heap[Z.c]?=some (SJ 0 #[] Z.cls n n tm)
 eA:Z.eA<wA.heap.size/\(∀o,wA.heap[Z.eA]?=some o->¬ jv o)/\(n<Z.TA.size->¬ pA.K Z.eA)
 nT:n<=Z.TA.size
 oth:∀i,pA.K i->(∃o,wA.heap[i]?=some o/\jv o)\/(∃j,j<=Z.lo/\pB.K j/\pB.κ j=pA.κ i)\/i=Z.rA\/i=Z.eA
 disj:∀i j,aJ wA i->aJ wB j->pA.κ i=pB.κ j->Z.RoA i/\Z.RoB j
 tr:PT Z.k (TT pA.κ Z.RoA wA) (TT pB.κ Z.RoB wB) t
 mA:∀i,aJ wA i->¬ Z.RoA i->pA.κ i<Z.N0->Z.MA (pA.κ i)
 mB:∀i,aJ wB i->¬ Z.RoB i->pB.κ i<Z.N0->Z.MB (pB.κ i)
 fr:∀b,b<Z.N0->b≠Z.c->¬ Z.MA b->¬ Z.MB b->w'.heap[b]?=Z.h0[b]?
 nz:Z.N0<=w'.heap.size
 out:w'.output=Z.out0
 val:∃b s,cG wB Z.rB Z.capB b s Z.rcB Z.tmB/\∀(i:Nat)(x y:TG),Z.TA[i]?=some x->b[i]?=some y->∀O Y,Ag pA O->Ag pB Y->ab O x=ab Y y
section
variable{Z:Duo}{n:Nat}{pA pB p':Part}{gA gA' gB gB' g1 g1':Sv}{wA wB w' w1 w1':Sx}{t:Trace}{es':Array Tc}
def vr{wA wB}(w:∀i j,aJ wA i->aJ wB j->pA.κ i=pB.κ j->Z.RoA i/\Z.RoB j):Apart (TT pA.κ Z.RoA wA) (TT pB.κ Z.RoB wB):=by
 intro a b c d p l;have⟨g,f,u⟩:=a;have⟨z,m,s⟩:=b;subst p;cases g with
 |cell x=>
  have⟨i,y,h,e⟩:=c.1 x rfl;have⟨j,v,k,q⟩:=d.1 x rfl<;>grind
 |obj r=>exact⟨c.2 r rfl,d.2 r rfl⟩
 |_=>cases l
def Ag.less{p q O}(h:Ag q O)(b:∀i,p.K i->q.K i/\q.κ i=p.κ i):Ag p O:=⟨h.1,λi a=>(h.2 i (b i a).1).trans (b i a).2⟩
def Inv2.Br(I:Inv2 Z n pA gA wA gA' pB gB wB gB' w' t)(C:Side Z.Q Z.βA Z.DA Z.dtA false Z.RoA Z.os Z.restA p' g1 w1 g1' w1')(k:Eff pA p' Z.RoA wA w' w1 w1' es')(fn M):
 Inv2 Z n p' g1 w1 g1' pB gB wB gB' w1' (t++Sz 0 fn M es'):=by
 have m:∀b,b<w'.heap.size->w1'.heap[b]?≠w'.heap[b]?->_:=λb v q=>k.turned I.SA C v q
 have⟨tm,E⟩:=I.ch;have w:w1'.heap[Z.c]?=w'.heap[Z.c]?:=SX λq=>by
  have⟨i,d,_,A,_,_⟩:=m Z.c (AS.1 E).1 q;have⟨c,e,f,h⟩:=I.SA.real A<;>grind
 have r:∀i j,aJ w1 i->aJ wB j->p'.κ i=pB.κ j->Z.RoA i/\Z.RoB j:=λi j B z h=>by
  rcases k.pr I.SA C B with⟨d,g⟩|d<;>first |exact I.disj i j d z (g.symm.trans h)|(have:=I.SB.part.ran j (I.SB.cells z);omega)
 have P:∀a,TT pA.κ Z.RoA wA a->TT p'.κ Z.RoA w1 a:=λa L=>⟨λx N=>by
  have⟨i,d,g,A⟩:=L.1 x N;exact⟨i,d.trans (k.grown.old i (I.SA.cells g)).2.symm,k.Ea g,A⟩,L.2⟩
 have S:∀i,aJ w1 i->¬ Z.RoA i->p'.κ i<Z.N0->Z.MA (p'.κ i):=λi B X u=>by
  rcases k.pr I.SA C B with⟨d,g⟩|d<;>first |(rw[g]at u ⊢;exact I.mA i d X u)|(have:=I.nz;omega)
 refine⟨C,I.SB.keep k.grown.le' k.os (λj z=> ?_) ⟨rfl,rfl,rfl,(I.SB.relG _ (bL I.SB.part 0)).status.2⟩,?_,I.cB,⟨(k.grown.old _ I.kA.1).1,(k.grown.old _ I.kA.1).2.trans I.kA.2⟩,I.kB,⟨tm,w.trans E⟩,⟨SS I.eA.1 k.grown.le,λo F H=> ?_,λu G=> ?_⟩,I.nT,λi B=> ?_,r,?_,S,I.mB,λb v hc d g=> ?_,Tu I.nz k.grown.le',k.output.trans I.out,let⟨b,s,d,g⟩:=I.val;⟨b,s,d,λi x y N hy O Y Q R=>g i x y N hy O Y (Q.less k.grown.old) R⟩⟩
 .by_cases p:w1'.heap[pB.κ j]?=w'.heap[pB.κ j]?;exact .inl p;have⟨i,d,g,A,h4,h5⟩:=m _ (I.SB.part.ran j z) p;have⟨c,e,f,X⟩:=I.SA.real A;have⟨c2,e2,f2,hr2⟩:=C.real h4;refine .inr ⟨λo F H=> ?_,Tl c2 e2 f2,by rw[<- g];omega,trivial,.inl ⟨_,_,_,rfl⟩⟩;cases o;case cells cc ee ff=>exact h5 (I.disj i j A ⟨cc,ee,ff,F⟩ d).1
  case number a l=>
   have⟨a',L⟩:=I.SB.EX F<;>grind
  all_goals exact H
 .have⟨s,rc,hO⟩:=I.cA;exact⟨s,rc,hO.kinds k.kinds k.grown.le⟩
 .rcases k.kinds _ _ F with⟨d,_⟩|⟨⟨c,t2,f,d⟩,_⟩|d<;>first |(have:=I.eA.1;omega)|exact I.eA.2.1 _ d trivial|exact I.eA.2.1 _ d H
 .rcases k.grown.new _ G with d|⟨d,_⟩<;>first |exact I.eA.2.2 u d|(have:=I.eA.1;omega)
 .have D:=C.part.dom i B;have d:w1.heap[i]?=some w1.heap[i]:=SH D;rcases k.grown.new i B with G|⟨hge,_⟩
  rcases I.oth i G with⟨o,F,H⟩|h
  refine .inl ⟨_,d,?_⟩;rcases k.kinds i _ d with⟨_,g⟩|⟨_,c,t2,f,g⟩|g
  exact g;rw[g];trivial;grind
  rcases h with⟨j,z,W,T⟩|h<;>first |exact .inr (.inl ⟨j,z,W,T.trans (k.grown.old i G).2.symm⟩)|exact .inr (.inr h)
  refine .inl ⟨_,d,?_⟩;rcases k.kinds i _ d with⟨_,g⟩|⟨_,c,t2,f,g⟩|g<;>first |exact g|(rw[g];trivial)|(have:=(AS.1 g).1;omega)
 .refine(I.tr.mono P λa h=>h).PN (vr r) ofEvents_g (λop K b v _=> ?_) (yt k.events);obtain⟨e,he,rfl⟩:=Sw K;exact ys (k.events e he) v
 .rw[<- I.fr b v hc d g];refine SX λq=> ?_
  have⟨i,k1,k2,k3,k4,k5⟩:=m b (SS v I.nz) q;have:=I.mA i k3 k5 (by rw[k1];exact v);rw[k1]at this;exact d this
def Inv2.HR(I:Inv2 Z n pA gA wA gA' pB gB wB gB' w' t)(A:Side Z.Q Z.βB Z.DB Z.dtB true Z.RoB Z.os Z.restB p' g1 w1 g1' w1')(d:Eff pB p' Z.RoB wB w' w1 w1' es')(fn N):
 Inv2 Z n pA gA wA gA' p' g1 w1 g1' w1' (t++Sz Z.k fn N es'):=by
 have g:∀b,b<w'.heap.size->w1'.heap[b]?≠w'.heap[b]?->_:=λb u r=>d.turned I.SB A u r
 have⟨tm,C⟩:=I.ch;have v:w1'.heap[Z.c]?=w'.heap[Z.c]?:=SX λr=>by
  have⟨i,k,_,w,_,_⟩:=g Z.c (AS.1 C).1 r;have⟨c,e,f,h⟩:=I.SB.real w<;>grind
 have p:∀i j,aJ wA i->aJ w1 j->pA.κ i=p'.κ j->Z.RoA i/\Z.RoB j:=λi j z B h=>by
  rcases d.pr I.SB A B with⟨k,m⟩|k<;>first |exact I.disj i j z k (h.trans m)|(have:=I.SA.part.ran i (I.SA.cells z);omega)
 have G:∀a,TT pB.κ Z.RoB wB a->TT p'.κ Z.RoB w1 a:=λa P=>⟨λx M=>by
  have⟨i,k,m,w⟩:=P.1 x M;exact⟨i,k.trans (d.grown.old i (I.SB.cells m)).2.symm,d.Ea m,w⟩,P.2⟩
 have F:∀i,aJ w1 i->¬ Z.RoB i->p'.κ i<Z.N0->Z.MB (p'.κ i):=λi z T D=>by
  rcases d.pr I.SB A z with⟨k,m⟩|k<;>first |(rw[m]at D ⊢;exact I.mB i k T D)|(have:=I.nz;omega)
 refine⟨I.SA.keep d.grown.le' d.os (λj B=> ?_) ⟨rfl,rfl,rfl,(I.SA.relG _ (bL I.SA.part 0)).status.2⟩,A,I.cA,?_,I.kA,⟨(d.grown.old _ I.kB.1).1,(d.grown.old _ I.kB.1).2.trans I.kB.2⟩,⟨tm,v.trans C⟩,I.eA,I.nT,λi z=>(I.oth i z).imp id (·.imp (λ⟨j,B,E,H⟩=>⟨j,B,(d.grown.old j E).1,(d.grown.old j E).2.trans H⟩) id),p,?_,I.mA,F,λb u hc k m=> ?_,Tu I.nz d.grown.le',d.output.trans I.out,let⟨b,s,k,m⟩:=I.val;⟨b,s,k.kinds d.kinds d.grown.le,λi x y M hy O W Q K=>m i x y M hy O W Q (K.less d.grown.old)⟩⟩
 .by_cases q:w1'.heap[pA.κ j]?=w'.heap[pA.κ j]?;exact .inl q;have⟨i,k,m,w,h4,h5⟩:=g _ (I.SA.part.ran j B) q;have⟨c,e,f,T⟩:=I.SB.real w;have⟨c2,X,f2,hr2⟩:=A.real h4;refine .inr ⟨λo S hn=> ?_,Tl c2 X f2,by rw[<- m];omega,trivial,.inl ⟨_,_,_,rfl⟩⟩;cases o;case cells cc ee ff=>exact h5 (I.disj j i ⟨cc,ee,ff,S⟩ w k.symm).2
  case number a l=>
   have⟨a',P⟩:=I.SA.EX S<;>grind
  all_goals exact hn
 .have⟨b,s,hO,u⟩:=I.cB;exact⟨b,s,hO.kinds d.kinds d.grown.le,u⟩
 .refine(I.tr.mono (λa h=>h) G).NY (vr p) ofEvents_g (λop L b u _=> ?_) (yt d.events);obtain⟨e,he,rfl⟩:=Sw L;exact ys (d.events e he) u
 .rw[<- I.fr b u hc k m];refine SX λr=> ?_
  have⟨i,R,k2,k3,k4,k5⟩:=g b (SS u I.nz) r;have:=I.mB i k3 k5 (by rw[R];exact u);rw[R]at this;exact m this
def Inv2.mute(I:Inv2 Z n pA gA wA gA' pB gB wB gB' w' t)(a d){u}(b:∀op∈u,op.act.touch?=none)(h0:Deaf (t++u) 0=Deaf t 0)(c:Deaf (t++u) Z.k=Deaf t Z.k):
 Inv2 Z n pA gA wA gA' pB gB wB gB' (ah w' a d) (t++u):=
 ⟨I.SA.ah a d,I.SB.ah a d,I.cA,I.cB,I.kA,I.kB,I.ch,I.eA,I.nT,I.oth,I.disj,I.tr.appMute b h0 c,I.mA,I.mB,I.fr,I.nz,I.out,I.val⟩
def GW(a ok v):ab a (recvd ok v true)=recvd ok (ab a v) true:=by
 cases ok<;>simp[recvd]
def Inv2.meet(hcl:Z.cls=false)(I:Inv2 Z n pA gA wA gA' pB gB wB gB' w' t){ok v v' a s H E b z}(hc:w'.heap[Z.c]?=some (SJ 0 #[] false n n z))(hA:cG wA Z.rA Z.capA (Z.TA.extract n Z.TA.size) s H Z.tmA)(L:cG wB Z.rB Z.capB b E Z.rcB Z.tmB)(hb:b.size=n)
 (ha:Z.TA[n]?=some a) (htok:zz Z n a v wB) (hv:∀Y,Ag pB Y->v'=ab Y v) (hfA:lZ Z.dtA gA.frame) (hfB:lZ Z.dtB gB.frame) (fk pk f0 q0):
 ∃c,Inv2 Z (n+1) c {gA with frame:=gA.frame.finish (recvd ok a true),status:=Su,offers:=none} (ay wA Z.rA (SJ Z.capA (Z.TA.extract (n+1) Z.TA.size) false s (H+1) Z.tmA)) {gA' with frame:=gA'.frame.finish (recvd ok v' true),status:=Su,offers:=none}
  pB {gB with frame:=gB.frame.finish undef,status:=Su,offers:=none} (ay wB Z.rB (SJ Z.capB (b.push v) false (E+1) Z.rcB Z.tmB)) {gB' with frame:=gB'.frame.finish undef,status:=Su,offers:=none}
  (w'.setChan Z.c 0 #[] false (n+1) (n+1) z) (t++met Z.k 0 fk pk f0 q0 Z.c n 0):=by
 have r:n<Z.TA.size:=(AS.1 ha).1;have C:∀i,i≠Z.c->(w'.setChan Z.c 0 #[] false (n+1) (n+1) z).heap[i]?=w'.heap[i]?:=λi d=>by
  grind [T0,AI]
 have hsetc:(w'.setChan Z.c 0 #[] false (n+1) (n+1) z).heap[Z.c]?=some (SJ 0 #[] false (n+1) (n+1) z):=by simp[T0,(AS.1 hc).1]
 have Q:(w'.setChan Z.c 0 #[] false (n+1) (n+1) z).heap.size=w'.heap.size:=by simp[T0]
 have hpA:∃c,Side Z.Q Z.βA Z.DA Z.dtA false Z.RoA Z.os Z.restA c gA wA gA' w'/\(∀i,pA.K i->c.K i/\c.κ i=pA.κ i)/\(∀i,c.K i->pA.K i\/i=Z.eA)/\(n+1<Z.TA.size->¬ c.K Z.eA)/\∀w,Ag c w->v'=ab w a:=by
  rcases htok with hpl|⟨hlast,e,he1,B,he3,he4,he5⟩
  exact⟨pA,I.SA,λi d=>⟨d,rfl⟩,λi d=>.inl d,λ_=>I.eA.2.2 r,λw k=>(hv _ (bL I.SB.part 0)).trans (hpl w _).symm⟩;have hne:=I.eA.2.2 r;have hek:pB.K e:=I.SB.cells B;refine⟨pA.also Z.eA (pB.κ e),I.SA.also hne I.eA.1 (I.SB.real B) λi d W=> ?_,λi d=>⟨.inl d,?_⟩,λi d=>d,λh=>by omega,λw k=> ?_⟩;rcases I.oth i d with⟨o,g,q⟩|hg|rfl|rfl
  .cases o;case cells cc N ff=>exact he3 (I.disj i e ⟨cc,N,ff,g⟩ B W).2
   case number x l=>
    have⟨x',X⟩:=I.SA.EX g;have⟨c2,N,f2,M⟩:=I.SB.real B<;>grind
   all_goals exact q
  .have⟨j,hj,K,P⟩:=hg;have:=I.SB.part.inj j e K hek (P.trans W);omega
  .have⟨c2,N,f2,M⟩:=I.SB.real B;rw[<- W,I.kA.2,hc]at M;cases M
  grind
  show(if i=Z.eA then pB.κ e else pA.κ i)=pA.κ i;rw[if_neg λh:i=Z.eA=>hne (h▸d)];have A:=bL I.SB.part 0;have h1:w Z.eA=pB.κ e:=by
   rw[k.2 Z.eA (.inr rfl)];show(if Z.eA=Z.eA then pB.κ e else pA.κ Z.eA)=pB.κ e;rw[if_pos rfl]
  rw[hv _ A];exact(he4 w _ (h1.trans (A.2 e hek).symm)).symm
 have⟨c,SA2,m,hnew,hnot,G⟩:=hpA;have hκ:∀i,aJ wA i->c.κ i=pA.κ i:=λi d=>(m i (I.SA.cells d)).2
 have S:c.K Z.rA/\c.κ Z.rA=Z.c:=⟨(m _ I.kA.1).1,(m _ I.kA.1).2.trans I.kA.2⟩;have T:∀i,c.K i->qD c wA w' (w'.setChan Z.c 0 #[] false (n+1) (n+1) z) i:=λi d=>by
  by_cases p:c.κ i=Z.c;have:i=Z.rA:=SA2.part.inj i Z.rA d S.1 (p.trans S.2.symm);subst this;refine .inr ⟨λo g q=> ?_,SJ 0 #[] false (n+1) (n+1) z,by rw[p];omega,trivial,.inr λo g=> ?_⟩;rw[hA.1]at g;cases g;exact q;rw[hA.1]at g;cases g;rfl;exact .inl (C _ p)
 have R:∀i,pB.K i->qD pB wB w' (w'.setChan Z.c 0 #[] false (n+1) (n+1) z) i:=λi d=>by
  by_cases p:pB.κ i=Z.c;have:i=Z.rB:=I.SB.part.inj i Z.rB d I.kB.1 (p.trans I.kB.2.symm);subst this;refine .inr ⟨λo g q=> ?_,SJ 0 #[] false (n+1) (n+1) z,by rw[p];omega,trivial,.inr λo g=> ?_⟩;rw[L.1]at g;cases g;exact q;rw[L.1]at g;cases g;rfl;exact .inl (C _ p)
 have f:∀i,aJ (ay wA Z.rA (SJ Z.capA (Z.TA.extract (n+1) Z.TA.size) false s (H+1) Z.tmA)) i->aJ wA i:=λi ⟨cc,N,ff,h⟩=>by
  by_cases d:Z.rA=i<;>first |(subst d;rw[(hA.to (b2:=Z.TA.extract (n+1) Z.TA.size) s (H+1)).1]at h;cases h)|exact⟨cc,N,ff,by simp_all[ay,AI]⟩
 have u:∀i,aJ (ay wB Z.rB (SJ Z.capB (b.push v) false (E+1) Z.rcB Z.tmB)) i->aJ wB i:=λi ⟨cc,N,ff,h⟩=>by
  by_cases d:Z.rB=i<;>first |(subst d;rw[(L.to (b2:=b.push v) (E+1) Z.rcB).1]at h;cases h)|exact⟨cc,N,ff,by simp_all[ay,AI]⟩
 have D:∀i,Z.rA≠i->(ay wA Z.rA (SJ Z.capA (Z.TA.extract (n+1) Z.TA.size) false s (H+1) Z.tmA)).heap[i]?=wA.heap[i]?:=λi d=>by simp_all[ay,AI]
 have heNe:Z.rA≠Z.eA:=λh=>I.eA.2.2 r (h▸I.kA.1)
 refine⟨c,(SA2.keep (w2':=w'.setChan Z.c 0 #[] false (n+1) (n+1) z) (g2':=gA') (by rw[Q];simp) rfl T ⟨rfl,rfl,rfl,(I.SA.relG _ (bL I.SA.part 0)).status.2⟩).after (b2:=Z.TA.extract (n+1) Z.TA.size) (s2:=s) (rc2:=H+1) hA hfA (v:=recvd ok a true) (v':=recvd ok v' true) λw k=>by rw[GW,<- G w k],(I.SB.keep (w2':=w'.setChan Z.c 0 #[] false (n+1) (n+1) z) (g2':=gB') (by rw[Q];simp) rfl R ⟨rfl,rfl,rfl,(I.SB.relG _ (bL I.SB.part 0)).status.2⟩).after (b2:=b.push v) (s2:=E+1) (rc2:=Z.rcB) L hfB (v:=undef) (v':=undef) λw k=>jl.symm,⟨s,H+1,hA.to s (H+1)⟩,⟨b.push v,E+1,L.to (E+1) Z.rcB,by simp[hb]⟩,S,I.kB,⟨z,by rw[hcl];omega⟩,⟨by simpa[ay]using I.eA.1,λo g=>I.eA.2.1 o (by rw[<- D _ heNe];exact g),hnot⟩,r,λi d=> ?_,λi j d hj h=>I.disj i j (f i d) (u j hj) ((hκ i (f i d)).symm.trans h),(I.tr.meet fk pk f0 q0 Z.c n).mono (λ_ h=>h.elim) λ_ h=>h.elim,λi d M F=> ?_,λi d M F=>I.mB i (u i d) M F,λx X hxc h1 h2=>(C x hxc).trans (I.fr x X hxc h1 h2),by rw[Q];exact I.nz,I.out,⟨b.push v,E+1,L.to (E+1) Z.rcB,λi x y X hy w Y k A=> ?_⟩⟩;rcases hnew i d with hk|rfl
 rcases I.oth i hk with⟨o,g,q⟩|h<;>first |by_cases hir:Z.rA=i<;>first |exact .inr (.inr (.inl hir.symm))|exact .inl ⟨o,(D i hir).trans g,q⟩|rcases h with⟨j,hj,K,P⟩|h<;>first |exact .inr (.inl ⟨j,hj,K,P.trans (m i hk).2.symm⟩)|exact .inr (.inr h)
 exact .inr (.inr (.inr rfl));have:=hκ i (f i d);rw[this]at F ⊢;exact I.mA i (f i d) M F;rw[T9]at hy;split at hy
 .next e=>
  cases hy;rw[e,hb,ha]at X;cases X;exact(G w k).symm.trans (hv Y A)
 .have⟨b0,s0,h1,h2⟩:=I.val;have:=h1.1.symm.trans L.1;simp only[Option.some.injEq,Obj.chan.injEq]at this;rw[<- this.2.1]at hy;exact h2 i x y X hy w Y (k.less m) A
end
end
section
open Go.Conc
open Go.ConcN (sumTo upd sumTo_upd upd_ne upd_same)
variable[aD]
def bo(g:Sv):Sv:= {frame:=g.frame,callers:=g.callers,status:=Su,dying:=none}
def kQ{g}(h:g.dying=none)(f):({bo g with frame:=f,status:=Su,offers:=none}:Sv)= {g with frame:=f,status:=Su,offers:=none}:=by
 have⟨d,b,e,c,a⟩:=g;subst h;rfl
structure Off(Q:SE)(U:Nat->Option Code)(dt:bM)(p:Part)(g:Sv)(c c':CommCase)(sh:CommShape):Prop where
 at_:tv g.frame
 gh:∀m w,stepG (alt Q U) m g w=Tm (bo g) #[c] true sh w #[]
 re:∀O,Ag p O->c'=jS O c
 fin:lZ dt g.frame
def iB(P:SE)(K:Sv->Sx->Prop)(M:Sv->Sx->Prop)(g:Sv)(w:Sx):Prop:=
 ∃(G:(Nat->TL->Nat)->Nat->Sv)(W:(Nat->TL->Nat)->Nat->Sx)(E:(Nat->TL->Nat)->Nat->Array Tc),
  (∀a d,¬ Big (stepG P true g (ah w a d)).es->gT P g (ah w a d) (G a d) (W a d) (E a d))/\∀a d,¬ Big (stepG P true g (ah w a d)).es->Tree P K (G a d) (W a d)/\M (G a d) (W a d)
section
variable{Q:SE}{U:Nat->Option Code}{D0:SZ}{dt:bM}{cl:Bool}{Ro:Nat->Prop}{os:Os}{rest:List SZ}{p p':Part}{g g' g1 g1':Sv}{w w' w1 w1':Sx}{es es':Array Tc}{c c':CommCase}{sh:CommShape}{K M:Sv->Sx->Prop}
def xI(S:Side Q U D0 dt cl Ro os rest p g w g' w')(a d):Side Q U D0 dt cl Ro os rest p g (ah w a d) g' w':=
 ⟨S.part,S.gok,fE S.iv a d,S.ro,S.relG,S.relW⟩
def MV{n j a}(h:iA Q p' n a)(G:Grown p p' n j n a){d}(b:Ag p d):Ag p' d:=by
 refine⟨b.1,λi f=> ?_⟩;rcases G.new i f with e|⟨k,_⟩
 rw[(G.old i e).2];exact b.2 i e;have:=h.dom i f;omega
def vS(A:lf Q U)(S:Side Q U D0 dt cl Ro os rest p g w g' w'){n}(h:stepG (alt Q U) true g (ah w w'.tape w'.drawn)=Tm g1 #[c] true sh w1 es)(j:stepG Q n g' w'=Tm g1' #[c'] true sh w1' es')(t:lZ dt g1.frame)
 (k:Side Q U D0 dt cl Ro os rest p' g1 w1 g1' w1') (i:∀e,Ag p' e->c'=jS e c) (q:Eff p p' Ro w w' w1 w1' es'):
 stepG Q n g' w'=Tm (bo g') #[c'] true sh w' #[]/\Off Q U dt p g c c' sh/\g1=bo g/\w1=ah w w'.tape w'.drawn:=by
 have b:=Bs A S.gok.frame S.plain.1 h;have⟨l,_,m⟩:=uA b S.plain.1 S.plain.2.1 S.plain.2.2.1 h;have a:=S.relG _ (bL S.part 0);have d:tv g'.frame:=by
  rw[a.frame];exact⟨by rw[fL,b.mode];rfl,b.at_⟩
 have⟨r,s,u⟩:=uA d a.dying.2 (by rw[a.frame];exact S.plain.2.1) (by rw[a.frame];exact S.plain.2.2.1) j;rw[r,s,u]at j;rw[l]at q k;refine⟨j,⟨b,FP b S.plain.1 S.plain.2.1 S.plain.2.2.1 h,λe f=>i e (MV k.part q.grown f),?_⟩,m,l⟩;rw[m]at t;omega
def oQ(v:m8 Q U D0)(E:mS Q U dt cl)(l:gS U)(y:tn Q U K)(S:Side Q U D0 dt cl Ro os rest p g w g' w')
 {G:(Nat->TL->Nat)->Nat->Sv} {W:(Nat->TL->Nat)->Nat->Sx} {C:(Nat->TL->Nat)->Nat->Array Tc}
 (b:∀e d,¬ Big (stepG (alt Q U) true g (ah w e d)).es->gT (alt Q U) g (ah w e d) (G e d) (W e d) (C e d)) (f:∀e d,¬ Big (stepG (alt Q U) true g (ah w e d)).es->Tree (alt Q U) K (G e d) (W e d)/\M (G e d) (W e d))
 (q:¬ AtClose g) (n):
 (∃g1 w1 g1' w1' es' p',stepG Q n g' w'=SU g1' w1' es'/\Side Q U D0 dt cl Ro os rest p' g1 w1 g1' w1'/\Eff p p' Ro w w' w1 w1' es'/\Tree (alt Q U) K g1 w1/\M g1 w1)\/
 (∃c c' sh,stepG Q n g' w'=Tm (bo g') #[c'] true sh w' #[]/\qB cl #[c] true sh/\Off Q U dt p g c c' sh)\/cl=false/\Big (stepG Q n g' w').es:=by
 rcases oP v.toC9 E S n q with⟨g1,w1,es,g1',w1',es',p',j,i,t,x,a⟩|⟨g1,c,sh,w1,es,g1',c',w1',es',p',j,i,F,k,t,s,x,a⟩|⟨g1,w1,es,j,A,a⟩|⟨D,_,z⟩|⟨m,a⟩
 cases b _ _ a<;>grind;have⟨H,I,_,_⟩:=vS E.apt S j i k t s x<;>grind;exfalso;have u:=(f _ _ a).1;cases b _ _ a with
 |go h=>
  simp[j]at h;have⟨r,B,_⟩:=h;rw[<- r]at u;exact oO l y u A
 |comm h _=>rw[j]at h;cases h
 exact .inr (.inr ⟨D,z⟩);exfalso;cases b _ _ a with
 |go h=>
  rw[h]at m;exact si E.apt l y v (f _ _ a).1 m
 |comm h _=>rw[h]at m;exact m
def lq(t:m8 Q U D0)(E:mS Q U dt cl)(S:Side Q U D0 dt cl Ro os rest p g w g' w')(h:¬ AtClose g)(r:∀m j,stepG (alt Q U) m g j=Tm (bo g) #[c] true sh j #[])(l):
 ∃c',stepG Q l g' w'=Tm (bo g') #[c'] true sh w' #[]/\qB cl #[c] true sh/\Off Q U dt p g c c' sh:=by
 have d:=r true (ah w w'.tape w'.drawn);rcases oP t.toC9 E S l h with⟨g1,w1,es,g1',w1',es',p',b,f,n,q,a⟩|⟨g1,x,s,w1,es,g1',c',w1',es',p',b,f,y,e,n,i,q,a⟩|⟨g1,w1,es,b,B,a⟩|⟨C,u,z⟩|⟨k,a⟩
 rw[d]at b;cases b;have⟨A,v,_,_⟩:=vS E.apt S b f e n i q<;>grind;rw[d]at b;cases b;exact u.elim;rw[d]at k;exact k.elim
def wu(h:iB (alt Q U) K M g w)(j:∀m w,stepG (alt Q U) m g w=Tm (bo g) #[c] true sh w #[])(e d):
 ∃g1 w1,(communicate (alt Q U) dV #[ph] 0 (bo g) #[c] true sh (ah w e d)).1= .next (oneG g1 w1)/\Tree (alt Q U) K g1 w1/\M g1 w1:=by
 have⟨G,W,i,a,b⟩:=h;have f:¬ Big (stepG (alt Q U) true g (ah w e d)).es:=av;cases a e d f<;>grind
end
structure di(Q:SE)(k:Nat)(xA xB:Sv)(gs:Array Sv)(q:Nat->Nat)(t:Trace):Prop where
 a:gs[0]?=some xA
 b:gs[k]?=some xB
 old:∀i x,i≠0->i≠k->gs[i]?=some x->QuitsD Q (q i) (Deaf t i) x
 above:∀j,gs.size<=j->Deaf t j=0
section
variable{Q:SE}{k:Nat}{xA xB yA yB:Sv}{gs gs2:Array Sv}{q:Nat->Nat}{t t2:Trace}{w w1:Sx}{sl:Option (Nat×Nat)}
def di.to(C:di Q k xA xB gs q t)(hs:gs2.size=gs.size)(f:gs2[0]?=some yA)(e:gs2[k]?=some yB)(d:∀i x,i≠0->i≠k->gs2[i]?=some x->gs[i]?=some x)(c:∀i,i≠0->i≠k->Deaf t2 i=Deaf t i):di Q k yA yB gs2 q t2:=by
 have l:=(AS.1 C.b).1;refine⟨f,e,λi x b a g=> ?_,λj h=> ?_⟩;rw[c i b a];exact C.old i x b a (d i x b a g);rw[c j (by omega) (by omega)];exact C.above j (by omega)
def di.Br(C:di Q k xA xB gs q t)(b:k≠0){x y}(g:woken Q x y w1 xB=xB){u}(j:∀op∈u,op.g=0):di Q k y xB ((gs.map (woken Q x y w1)).setIfInBounds 0 y) q (t++u):=by
 refine C.to (by simp) (by simp[(AS.1 C.a).1]) ?_ (λi z a h d=> ?_) λi a _=>Deaf_other t (g':=0) (by omega) u j<;>first |rw[AI λe=>b e.symm,SC,C.b,T5,g]|(rw[AI λe=>a e.symm,SC]at d;obtain⟨f,c,rfl⟩:=SD.1 d;rw[woken_quitsD (C.old i f a h c)];omega)
def di.HR(C:di Q k xA xB gs q t)(c:k≠0){x y}(h:woken Q x y w1 xA=yA){u}(j:∀op∈u,op.g=k):di Q k yA y ((gs.map (woken Q x y w1)).setIfInBounds k y) q (t++u):=by
 refine C.to (by simp) ?_ (by simp[(AS.1 C.b).1]) (λi z f a d=> ?_) λi _ a=>Deaf_other t (g':=k) (λe=>a e.symm) u j<;>first |rw[AI c,SC,C.a,T5,h]|(rw[AI λe=>a e.symm,SC]at d;obtain⟨g,b,rfl⟩:=SD.1 d;rw[woken_quitsD (C.old i g f a b)];omega)
def di.As(C:di Q k xA xB gs q t)(a:k≠0)(y):di Q k y xB (gs.setIfInBounds 0 y) q t:=by
 refine C.to (by simp) (by simp[(AS.1 C.a).1]) ?_ (λi z d c b=> ?_) λ_ _ _=>rfl
 rw[AI λe=>a e.symm];exact C.b;grind
def di.setB(C:di Q k xA xB gs q t)(a:k≠0)(y):di Q k xA y (gs.setIfInBounds k y) q t:=by
 refine C.to (by simp) ?_ (by simp[(AS.1 C.b).1]) (λi z d c b=> ?_) λ_ _ _=>rfl
 rw[AI a];exact C.a;grind
def di.trace(C:di Q k xA xB gs q t)(a:∀i,i≠0->i≠k->Deaf t2 i=Deaf t i):di Q k xA xB gs q t2:=C.to rfl C.a C.b (λ_ _ _ _ h=>h) a
def di.quiet(C:di Q k xA xB gs q t){i x}(a:i≠0)(b:i≠k)(c:gs[i]?=some x)(r s):offersAt x r s=[]:=
 offersAt_of_not_blocked (λe=>by rcases(C.old i x a b c).status with h|h<;>rw[h]at e<;>cases e) r s
def di.pick(C:di Q k xA xB gs q t)(hk0:k≠0)(haA:awake xA)(haB:awake xB)(A:xA.status=Su\/xB.status=Su)
 (hw:∀a W d,woken Q a W (ah w w.tape d) xA=xA/\woken Q a W (ah w w.tape d) xB=xB):
 ∃d c,xA.status=Su/\stepT Q (crowd gs w sl)=runT Q (crowd gs (ah w w.tape d) c) 0\/xB.status=Su/\stepT Q (crowd gs w sl)=runT Q (crowd gs (ah w w.tape d) c) k\/
  ∃gs2 X f,stepT Q (crowd gs w sl)=(.next (crowd gs2 (ah w w.tape d) c),f)/\di Q k xA xB gs2 X (t++f)/\sumTo gs2.size X<sumTo gs.size q/\(∀op∈f,op.act.touch?=none)/\Deaf (t++f) 0=Deaf t 0/\Deaf (t++f) k=Deaf t k:=by
 have L:∀x∈gs,awake x:=by
  intro x v;obtain⟨i,l,rfl⟩:=Tp.1 v;by_cases r:i=0;subst r;have:gs[0]=xA:=by simpa[SH l]using C.a
  rw[this];omega;by_cases s:i=k;subst s;have:gs[i]=xB:=by simpa[SH l]using C.b
  rw[this];omega;exact awake_of ((C.old i _ r s (SH l)).status.elim .inl λx=>.inr (.inr x))
 have n:∃(i:Nat)(g:Sv),gs[i]?=some g/\g.status=Su:=by
  rcases A with h|h
  exact⟨0,xA,C.a,h⟩;exact⟨k,xB,C.b,h⟩
 have⟨i,x,d,c,l,v,E⟩:=crowd_pick (P:=Q) (w:=w) (sl:=sl) L n;have R:w.at d=ah w w.tape d:=rfl;rw[R]at E;refine⟨d,c,?_⟩;by_cases r:i=0;subst r;obtain rfl:xA=x:=Option.some.inj (C.a.symm.trans l)<;>grind;by_cases s:i=k;subst s;obtain rfl:xB=x:=Option.some.inj (C.b.symm.trans l)<;>grind;refine .inr (.inr ?_);have G:=C.old i x r s l;have K:(i==0)=false:=by grind
 have H:i<gs.size:=(AS.1 l).1;cases D:q i with
 |zero=>rw[D]at G;rw[G.1]at v;cases v
 |succ u=>
  rw[D]at G;rcases G with⟨hf,_⟩|⟨_,F,es,hm,B,hq'⟩
  rw[hf]at v;cases v;have N:((gs.map (woken Q x F (ah w w.tape d))).setIfInBounds i F).size=gs.size:=by simp
  have hsum:sumTo gs.size (upd q i u)+(u+1)=sumTo gs.size q+u:=by
   have:=sumTo_upd q u id H;simp_all
  have b:∀j,i≠j->Deaf (t++Sz i x.frame.fn x.frame.place es) j=Deaf t j:=λj T=>Deaf_other t T _ λop p=>by obtain⟨e,_,rfl⟩:=Sw p;rfl
  refine⟨_,upd q i u,_,E.trans (runT_crowd_go (P:=Q) (sl:=c) (i:=i) l (by rw[K];exact B (ah w w.tape d))),⟨?_,?_,λj y S I Z=> ?_,λj T=> ?_⟩,by rw[N];omega,λop p=> ?_,b 0 r,b k s⟩;rw[AI r,SC,C.a,T5,(hw x F d).1];rw[AI s,SC,C.b,T5,(hw x F d).2];by_cases m:i=j;simp_all[SO,upd_same,Deaf_own]
  rw[AI m,SC]at Z;obtain⟨z,hz,rfl⟩:=SD.1 Z;have M:=C.old j z S I hz;rw[woken_quitsD M,upd_ne q u (Uf m),b j m];omega;rw[b j (by omega)];exact C.above j (by simpa using T);obtain⟨e,he,rfl⟩:=Sw p;exact touch_mute (hm e he)
end
inductive Wt where
 |rr
 |ar (c:CommCase) (z:TG) (ok:Bool)
 |rb (c:CommCase) (v0 v z:TG)
def Wt.bit:Wt->Nat
 | .rr=>1
 |_=>0
def Wt.xA(Z:Duo):Wt->Sv->Sv
 | .ar _ z a,g=>parked (bo g) #[rcase Z.c z] (Tx a)
 |_,g=>g
def Wt.xB(Z:Duo):Wt->Sv->Sv
 | .rb _ _ v z,g=>parked (bo g) #[scase Z.c v z] U2
 |_,g=>g
def Wt.Ok(Z:Duo)(d:Part)(g:Sv)(e:Part)(b:Sv):Wt->Prop
 | .rr=>True
 | .ar c z a=>c.chan=SM (some Z.rA)/\c.send=none/\Off Z.Q Z.βA Z.dtA d g c (rcase Z.c z) (Tx a)
 | .rb c f v z=>c.chan=SM (some Z.rB)/\c.send=some f/\Off Z.Q Z.βB Z.dtB e b c (scase Z.c v z) U2
structure eG(Z:Duo)(KA KB:Sv->Sx->Prop):Prop where
 EA:mS Z.Q Z.βA Z.dtA false
 EB:mS Z.Q Z.βB Z.dtB true
 rA:gS Z.βA
 rB:gS Z.βB
 kA:tn Z.Q Z.βA KA
 kB:tn Z.Q Z.βB KB
 dA:m8 Z.Q Z.βA Z.DA
 dB:m8 Z.Q Z.βB Z.DB
 k0:Z.k≠0
 sA:∀g w,KA g w->(∃z ok,∀m w2,stepG (alt Z.Q Z.βA) m g w2=Tm (bo g) #[{chan:=SM (some Z.rA),send:=none,zero:=z}] true (Tx ok) w2 #[])/\∃s rc,w.heap[Z.rA]?=some (SJ Z.capA #[] false s rc Z.tmA)
 sB:∀g w,KB g w->AtClose g/\∃F s,w.heap[Z.rB]?=some (SJ Z.capB F false s Z.rcB Z.tmB)/\F.size=Z.TA.size/\∀i a b,Z.TA[i]?=some a->F[i]?=some b->zz Z i a b w
def Closing(Z:Duo)(p u:Sv->Sx->Prop)(m:Machine)(t:Trace):Prop:=
 ∃d i r q n h f k a j e g b l,m=crowd i l r/\Inv2 Z n h f k a j e g b l t/\Wt.Ok Z h f j e d/\di Z.Q Z.k (d.xA Z a) (d.xB Z b) i q t/\(∀c s v z,d≠.rb c s v z)/\Tree (alt Z.Q Z.βA) p f k/\u e g
def Claim(Z:Duo)(m k:Sv->Sx->Prop)(e:Sv)(l:Sx)(d:Sv)(j:Sx):Prop:=
 ∀n h a g b i t c f p q,Inv2 Z n h e l a g d j b i t->Wt.Ok Z h e g d c->di Z.Q Z.k (c.xA Z a) (c.xB Z b) f q t->Runs Z.Q (crowd f i p) t (Closing Z m k)
section
variable{Z:Duo}{KA KB M MB:Sv->Sx->Prop}{n:Nat}{pA pB:Part}{gA gA' gB gB':Sv}{wA wB w':Sx}{t:Trace}{st:Wt}{gs:Array Sv}{q:Nat->Nat}{sl:Option (Nat×Nat)}
def eG.Le(H:eG Z KA KB):∀g w,KB g w->∃b s,w.heap[Z.rB]?=some (SJ Z.capB b false s Z.rcB Z.tmB):=λg w h=>let⟨_,F,s,a,_⟩:=H.sB g w h;⟨F,s,a⟩
def Inv2.Nm(I:Inv2 Z n pA gA wA gA' pB gB wB gB' w' t)(a d):Inv2 Z n pA gA wA gA' pB gB wB gB' (ah w' a d) t:=
 ⟨I.SA.ah a d,I.SB.ah a d,I.cA,I.cB,I.kA,I.kB,I.ch,I.eA,I.nT,I.oth,I.disj,I.tr,I.mA,I.mB,I.fr,I.nz,I.out,I.val⟩
def Inv2.Ld(I:Inv2 Z n pA gA wA gA' pB gB wB gB' w' t)(a d):Inv2 Z n pA gA (ah wA a d) gA' pB gB (ah wB a d) gB' w' t:=
 ⟨xI I.SA a d,xI I.SB a d,I.cA,I.cB,I.kA,I.kB,I.ch,I.eA,I.nT,I.oth,I.disj,I.tr,I.mA,I.mB,I.fr,I.nz,I.out,I.val⟩
def om(I:Inv2 Z n pA gA wA gA' pB gB wB gB' w' t):¬ AtClose gA:=λ⟨_,d,f,a,g,c,r,b,e,_⟩=>by
 have:=I.SA.gok.frame.defs d (by simp[b]);rw[e]at this;exact absurd this (by intro h;cases h)
def token(H:eG Z KA KB)(I:Inv2 Z n pA gA wA gA' pB gB wB gB' w' t){c c' f}(z:Off Z.Q Z.βB Z.dtB pB gB c c' U2)(hs:c.send=some f)(hn:iB (alt Z.Q Z.βB) KB MB gB wB):
 n<Z.TA.size/\c.chan=SM (some Z.rB)/\(∀a,Z.TA[n]?=some a->zz Z n a f wB)/\∀b s,cG wB Z.rB Z.capB b s Z.rcB Z.tmB->∀k d,∃i g,i= {gB with frame:=gB.frame.finish undef,status:=Su,offers:=none}/\g=ay (ah wB k d) Z.rB (SJ Z.capB (b.push f) false (s+1) Z.rcB Z.tmB)/\Tree (alt Z.Q Z.βB) KB i g/\MB i g:=by
 have⟨b,s,r,hb⟩:=I.cB;have y:∀b s,cG wB Z.rB Z.capB b s Z.rcB Z.tmB->∀k d,c.chan=SM (some Z.rB)/\∃i g,i= {gB with frame:=gB.frame.finish undef,status:=Su,offers:=none}/\g=ay (ah wB k d) Z.rB (SJ Z.capB (b.push f) false (s+1) Z.rcB Z.tmB)/\Tree (alt Z.Q Z.βB) KB i g/\MB i g:=λb s r k d=>by
  have⟨i,g,C,A,B⟩:=wu hn z.gh k d;have j:cG (ah wB k d) Z.rB Z.capB b s Z.rcB Z.tmB:=r;have⟨G,w,R⟩:=wO j hs C (nP H.kB A);refine⟨G,i,g,?_,R,A,B⟩;rw[w];exact kQ I.SB.plain.1 _
 have⟨p,i,g,G,w,A,_⟩:=y b s r w'.tape w'.drawn;have j:cG (ah wB w'.tape w'.drawn) Z.rB Z.capB b s Z.rcB Z.tmB:=r;have N:=(xI I.SB w'.tape w'.drawn).after (b2:=b.push f) (s2:=s+1) (rc2:=Z.rcB) j z.fin (v:=undef) (v':=undef) λO _=>jl.symm
 rw[<- G,<- w]at N;have m:=j.to (b2:=b.push f) (s+1) Z.rcB;rw[<- w]at m;have⟨g2,w2,l,s2,k1,P,k3,k4⟩:=leaf H.EB H.rB H.kB H.dB H.Le A _ _ _ _ _ N m;have⟨_,F,s3,Q,hsz,x⟩:=H.sB g2 w2 k1;have hFe:F=b.push f++l:=by
  have:=Q.symm.trans P.1;grind
 have u:n<Z.TA.size:=by
  grind
 have E:F[n]?=some f:=by
  grind
 refine⟨u,p,λa W=> ?_,λb s r k d=>(y b s r k d).2⟩;rcases x n a f W E with h|⟨h1,e,h2,h3,h4,X,T⟩
 exact .inl h;refine .inr ⟨h1,e,h2,?_,h4,X,T⟩;have D:pB.K e:=by
  have hr0:=z.re _ (bL I.SB.part 0);have hr1:=z.re _ (bL I.SB.part 1);have hv:ab (pB.far w'.heap.size 0) f=ab (pB.far w'.heap.size 1) f:=by
   simp_all[jS]
  grind [tI]
 have hlt:=I.SB.part.dom e D;have L:g.heap.size=wB.heap.size:=by simp[w,ay]
 have⟨cc,tt,S,K⟩:=k4 e (by omega) h3;have hne:Z.rB≠e:=λh=>by
  subst h;rw[m.1]at K;cases K
 refine⟨cc,tt,S,?_⟩;simp_all[ay]
def taken(H:eG Z KA KB)(I:Inv2 Z n pA gA wA gA' pB gB wB gB' w' t){c c' ok}(u:Off Z.Q Z.βA Z.dtA pA gA c c' (Tx ok))(hs:c.send=none)(w:iB (alt Z.Q Z.βA) KA M gA wA):
 c.chan=SM (some Z.rA)/\∃a,Z.TA[n]?=some a/\∀s f,cG wA Z.rA Z.capA (Z.TA.extract n Z.TA.size) s f Z.tmA->∀g d,∃e b,e= {gA with frame:=gA.frame.finish (recvd ok a true),status:=Su,offers:=none}/\b=ay (ah wA g d) Z.rA (SJ Z.capA (Z.TA.extract (n+1) Z.TA.size) false s (f+1) Z.tmA)/\Tree (alt Z.Q Z.βA) KA e b/\M e b:=by
 have h:∀s f,cG wA Z.rA Z.capA (Z.TA.extract n Z.TA.size) s f Z.tmA->∀g d,c.chan=SM (some Z.rA)/\n<Z.TA.size/\∃e b,e= {gA with frame:=gA.frame.finish (recvd ok (Z.TA.getD n undef) true),status:=Su,offers:=none}/\b=ay (ah wA g d) Z.rA (SJ Z.capA (Z.TA.extract (n+1) Z.TA.size) false s (f+1) Z.tmA)/\Tree (alt Z.Q Z.βA) KA e b/\M e b:=λs f j g d=>by
  have⟨e,b,m,p,k⟩:=wu w u.gh g d;have l:cG (ah wA g d) Z.rA Z.capA (Z.TA.extract n Z.TA.size) s f Z.tmA:=j;have⟨v,y,r,z⟩:=Fp l hs m (nP H.kA p);have i:n<Z.TA.size:=by grind
  refine⟨v,i,e,b,?_,?_,p,k⟩;rw[r];have:(Z.TA.extract n Z.TA.size).getD 0 undef=Z.TA.getD n undef:=by
   simp_all
  rw[this];exact kQ I.SA.plain.1 _;grind
 have⟨s,f,j⟩:=I.cA;have⟨x,A,_⟩:=h s f j w'.tape w'.drawn<;>simp_all
def DN(k:Z.cls=false)(H:eG Z KA KB)(I:Inv2 Z n pA gA wA gA' pB gB wB gB' w' t){Q}(hc:w'.heap[Z.c]?=some (SJ 0 #[] false n n Q)){ok N P L v z zB}
 (hA:iB (alt Z.Q Z.βA) KA (λg w=>∀gB wB,Tree (alt Z.Q Z.βB) KB gB wB->Claim Z KA KB g w gB wB) gA wA) (hB:iB (alt Z.Q Z.βB) KB MB gB wB)
 (S:Off Z.Q Z.βA Z.dtA pA gA N (rcase Z.c z) (Tx ok)) (sA:N.send=none) (l:Off Z.Q Z.βB Z.dtB pB gB P (scase Z.c v zB) U2) (sB:P.send=some L) (x F A m)
 (C:di Z.Q Z.k (SQ (bo gA') (recvd ok v true)) (SQ (bo gB') undef) gs q t):
 Runs Z.Q (crowd gs (w'.setChan Z.c 0 #[] false (n+1) (n+1) Q) sl) (t++met Z.k 0 x F A m Z.c n 0) (Closing Z KA KB):=by
 have⟨hlt,_,e,j⟩:=token H I l sB hB;have⟨_,a,T,r⟩:=taken H I S sA hA;have⟨s,rc,d⟩:=I.cA;have⟨b,sb,c,hb⟩:=I.cB;have⟨gA1,wA1,B,u,_,K⟩:=r s rc d w'.tape w'.drawn;have⟨D,p,h,y,G,_⟩:=j b sb c w'.tape w'.drawn;have X:∀f,Ag pB f->v=ab f L:=λf E=>by
  have:=congrArg CommCase.send (l.re f E);simp_all[jS,scase]
 have⟨pA2,R⟩:=(I.Ld w'.tape w'.drawn).meet k (ok:=ok) (v:=L) (v':=v) (a:=a) hc d c hb T (e a T) X S.fin l.fin x F A m;rw[<- B,<- u,<- h,<- y]at R;have f1:SQ (bo gA') (recvd ok v true)= {gA' with frame:=gA'.frame.finish (recvd ok v true),status:=Su,offers:=none}:=kQ (I.SA.relG _ (bL I.SA.part 0)).dying.2 _;have W:SQ (bo gB') undef= {gB' with frame:=gB'.frame.finish undef,status:=Su,offers:=none}:=kQ (I.SB.relG _ (bL I.SB.part 0)).dying.2 _;rw[f1,W]at C;exact K D p G _ _ _ _ _ _ _ .rr gs sl q R trivial (C.trace λi _ _=>Deaf_quiet (met_quiet Z.k 0 x F A m Z.c n 0 i))
end
section
variable{Z:Duo}{KA KB M MB:Sv->Sx->Prop}{n:Nat}{pA pB:Part}{gA gA' gB gB':Sv}{wA wB w':Sx}{t:Trace}{st:Wt}{gs:Array Sv}{q:Nat->Nat}{sl:Option (Nat×Nat)}
def zx(I:Inv2 Z n pA gA wA gA' pB gB wB gB' w' t):gA'.status=Su/\gA'.dying=none:=⟨(I.SA.relG _ (bL I.SA.part 0)).status.2,(I.SA.relG _ (bL I.SA.part 0)).dying.2⟩
def Lc(I:Inv2 Z n pA gA wA gA' pB gB wB gB' w' t):gB'.status=Su/\gB'.dying=none:=⟨(I.SB.relG _ (bL I.SB.part 0)).status.2,(I.SB.relG _ (bL I.SB.part 0)).dying.2⟩
def zP(st:Wt)(d:gA'.status=Su){w f}(e:w.heap[Z.c]?=some (SJ 0 #[] false n n f))(a b):woken Z.Q a b w (st.xA Z gA')=st.xA Z gA':=by
 cases st with
 |rr=>exact woken_run d
 |ar c z g=>exact woken_recv_open a b e
 |rb c h v z=>exact woken_run d
def zO(st:Wt)(d:gB'.status=Su){w f}(e:w.heap[Z.c]?=some (SJ 0 #[] false n n f))(a b):woken Z.Q a b w (st.xB Z gB')=st.xB Z gB':=by
 cases st with
 |rr=>exact woken_run d
 |ar c z g=>exact woken_run d
 |rb c h v z=>exact woken_send_open a b e
def IB(st:Wt)(a:gA'.status=Su):awake (st.xA Z gA'):=by
 cases st with
 |rr=>exact awake_of (.inl a)
 |ar c z b=>exact awake_of (.inr (.inl rfl))
 |rb c d v z=>exact awake_of (.inl a)
def IA(st:Wt)(a:gB'.status=Su):awake (st.xB Z gB'):=by
 cases st with
 |rr=>exact awake_of (.inl a)
 |ar c z b=>exact awake_of (.inl a)
 |rb c d v z=>exact awake_of (.inr (.inl rfl))
def GX{e b}(C:di Z.Q Z.k e b gs q t)(i:Z.k≠0)(r s)(h:offersAt b r s=[]):partners (gs.setIfInBounds 0 ph) r s=[]:=
 partners_nil λj g f=>by
  rcases getElem?_stand gs 0 j g f with⟨_,rfl⟩|⟨a,d⟩
  rfl;by_cases c:j=Z.k<;>first |(subst c;rw[C.b]at d;grind)|exact C.quiet a c d r s
def Np{d e}(C:di Z.Q Z.k d e gs q t)(i:Z.k≠0)(r s)(h:offersAt d r s=[]):partners (gs.setIfInBounds Z.k ph) r s=[]:=
 partners_nil λj g f=>by
  rcases getElem?_stand gs Z.k j g f with⟨_,rfl⟩|⟨a,c⟩
  rfl;by_cases b:j=0<;>first |(subst b;rw[C.a]at c;grind)|exact C.quiet b a c r s
def Pp{d c}(C:di Z.Q Z.k d c gs q t)(e:Z.k≠0)(r s)(h:offersAt c r s=[0]):partners (gs.setIfInBounds 0 ph) r s=[(Z.k,0)]:=by
 rw[partners_one (stand_get e C.b) λj g a b=> ?_,h];rfl;rcases getElem?_stand gs 0 j g b with⟨_,rfl⟩|⟨f,b⟩
 rfl;exact C.quiet f a b r s
def Pq{c i}(C:di Z.Q Z.k c i gs q t)(f:Z.k≠0)(r s)(h:offersAt c r s=[0]):partners (gs.setIfInBounds Z.k ph) r s=[(0,0)]:=by
 rw[partners_one (stand_get (λe=>f e.symm) C.a) λj g a b=> ?_,h];rfl;rcases getElem?_stand gs Z.k j g b with⟨_,rfl⟩|⟨d,b⟩
 rfl;exact C.quiet a d b r s
def mD{x}(h:x.status=Su)(r s):offersAt x r s=[]:=offersAt_of_not_blocked (λe=>by rw[h]at e;cases e) r s
def caseA{a j Q d h i f rest p g k w w' r b}(S:Side Q d h a j i f rest p g w k w')(e:p.K r/\p.κ r=b){c c' sh}(o:Off Q d a p g c c' sh)(m:c.chan=SM (some r)):
 c'.chan=SM (some b)/\c'.send.isSome=c.send.isSome:=by
 have:=o.re _ (bL S.part 0);have l:=(bL S.part 0).2 r e.1;simp_all[jS]
end
section
variable{Z:Duo}{KA KB:Sv->Sx->Prop}{gA gB:Sv}{wA wB:Sx}
def oY(hcl:Z.cls=false)(H:eG Z KA KB)(TA:Tree (alt Z.Q Z.βA) KA gA wA)(TB:Tree (alt Z.Q Z.βB) KB gB wB)
 (hA:KA gA wA\/iB (alt Z.Q Z.βA) KA (λg w=>∀gB wB,Tree (alt Z.Q Z.βB) KB gB wB->Claim Z KA KB g w gB wB) gA wA)
 (hB:KB gB wB\/iB (alt Z.Q Z.βB) KB (λg w=>Claim Z KA KB gA wA g w) gB wB):Claim Z KA KB gA wA gB wB:=by
 intro n pA f pB j w' t u gs sl q I K C;generalize hM:sumTo gs.size q+u.bit=M;induction M using Tb generalizing w' t u gs sl q with
 |ind M ih=>
 have⟨tm,hch⟩:=I.ch;rw[hcl]at hch;have⟨Q,hdA⟩:=zx I;have⟨hrB,hdB⟩:=Lc I;by_cases hKB:KB gB wB
 .refine .here ⟨u,gs,sl,q,n,pA,gA,wA,f,pB,gB,wB,j,w',rfl,I,K,C,λc v0 v z e=> ?_,TA,hKB⟩;subst e;have⟨⟨hno,_⟩,_⟩:=H.sB gB wB hKB;exact hno K.2.2.at_.mode
 have hBn:=hB.resolve_left hKB;have hsome:(u.xA Z f).status=Su\/(u.xB Z j).status=Su:=by
  cases u with
  |rr=>exact .inl Q
  |ar c z B=>exact .inr hrB
  |rb c v0 v z=>exact .inl Q
 have⟨d,l,hpick⟩:=C.pick (w:=w') (sl:=sl) H.k0 (IB u Q) (IA u hrB) hsome λa a' d=>⟨zP u Q hch a a',zO u hrB hch a a'⟩
 have F:=I.Nm w'.tape d;have m:(ah w' w'.tape d).heap[Z.c]?=some (SJ 0 #[] false n n tm):=hch;generalize hw2:ah w' w'.tape d=w2 at F m hpick;rcases hpick with⟨r,k⟩|⟨r,k⟩|⟨gs2,q2,ops,k,C2,hlt,hmute,h0,hk⟩
 .
  have hxA:u.xA Z f=f:=by
   cases u with
   |rr=>rfl
   |ar c z B=>cases r
   |rb c v0 v z=>rfl
  have hga:gs[0]?=some f:=C.a.trans (congrArg some hxA);have hgt:∀es:Array Tc,∀op∈Sz 0 f.frame.fn f.frame.place es,op.g=0:=λes=>ofEvents_g
  have hoffer:∀c c' sh,stepG Z.Q (0==0) f w2=Tm (bo f) #[c'] true sh w2 #[]->qB false #[c] true sh->Off Z.Q Z.βA Z.dtA pA gA c c' sh->c.chan=SM (some Z.rA)->Runs Z.Q (crowd gs w' sl) t (Closing Z KA KB):=by
   intro c c' sh hcm hC ho p;have⟨_,c0,hc0,hc1⟩:=hC;have E:c0=c:=by grind
   subst E;rcases hc1 with⟨h,_⟩|⟨_,B,rfl,hs⟩
   cases h;have⟨k1,k2⟩:=caseA I.SA I.kA ho p;have⟨ch',sd',R⟩:=c';dsimp only at k1 k2;rw[hs]at k2;cases sd' with
   |some x=>cases k2
   |none=>
    subst k1;have hcm':stepG Z.Q (0==0) f w2=Tm (bo f) #[rcase Z.c R] true (Tx B) w2 #[]:=hcm;have T:Off Z.Q Z.βA Z.dtA pA gA c0 (rcase Z.c R) (Tx B):=ho;cases u with
    |ar c z B=>cases r
    |rr=>
     have hnw:∀cc∈(#[rcase Z.c R]:Array CommCase),NoWays w2 (gs.setIfInBounds 0 ph) cc:=λcc E=>by
      have:cc=rcase Z.c R:=by grind
      subst this;refine⟨made_recv R m,?_⟩;have:=GX C H.k0 Z.c true (mD hrB Z.c true);simp_all[ways,rcase]
     refine Runs.step (k.trans (crowd_waits (sl:=l) hga hcm' hnw)) ?_;have hes:Sz 0 f.frame.fn f.frame.place #[]=#[]:=rfl;rw[hes,Ti];subst hw2;refine ih _ ?_ _ _ (.ar c0 R B) _ l q F ⟨p,hs,T⟩ (C.As H.k0 _) rfl;rw[<- hM];simp[Wt.bit]
    |rb cB v0 v zB=>
     have⟨hcB,hsB,hoB⟩:=K;have S:iB (alt Z.Q Z.βA) KA (λg w=>∀gB wB,Tree (alt Z.Q Z.βB) KB gB wB->Claim Z KA KB g w gB wB) gA wA:=by
      rcases hA with X|h
      exfalso;have⟨_,s,rc,hO⟩:=H.sA gA wA X;have⟨s2,rc2,hO2⟩:=I.cA;have:=hO.symm.trans hO2.1;simp only[Option.some.injEq,Obj.chan.injEq]at this;have h1:=congrArg Array.size this.2.1;have h2:=(token H I hoB hsB hBn).1;grind
      omega
     have hr:=crowd_recv_meets (sl:=l) hga hcm' m H.k0 C.b (Pp C H.k0 Z.c true (by rw[show Wt.xB Z (.rb cB v0 v zB) j=parked (bo j) #[scase Z.c v zB] U2 from rfl,offersAt_parked_send];simp));rw[finishComm_send,finishComm_recv]at hr;exact Runs.step (k.trans hr) (DN hcl H F m S hBn T hs hoB hsB (bo j).frame.fn (bo j).frame.place (bo f).frame.fn (bo f).frame.place ((C.setB H.k0 (SQ (bo j) undef)).As H.k0 (SQ (bo f) (recvd B v true))))
  rcases hA with X|S
  have⟨⟨z,B,hx⟩,_⟩:=H.sA gA wA X;have⟨c',k1,k2,k3⟩:=lq H.dA H.EA F.SA (om F) hx (0==0)<;>grind;have hAn2:=S;have⟨G,W,E0,hone,N⟩:=S;rcases oQ (M:=λg w=>∀gB wB,Tree (alt Z.Q Z.βB) KB gB wB->Claim Z KA KB g w gB wB) H.dA H.EA H.rA H.kA F.SA hone N (om F) (0==0)with⟨g1,w1,A,L,es',p',hx,S1,hE,hT,hCl⟩|⟨c,c',sh,hx,hC,ho⟩|⟨_,hbig⟩
  refine Runs.step (k.trans (runT_crowd_go (P:=Z.Q) (sl:=l) (i:=0) hga hx)) ?_;have I3:=F.Br S1 hE f.frame.fn f.frame.place;have⟨tm3,D⟩:=I3.ch;rw[hcl]at D;have C3:=C.Br (x:=f) (y:=A) (w1:=L) H.k0 (zO u hrB D f A) (hgt es');cases u with
  |ar c z B=>cases r
  |rr=>exact hCl gB wB TB n p' A pB j L _ .rr _ l q I3 trivial C3
  |rb cB v0 v zB=>exact hCl gB wB TB n p' A pB j L _ (.rb cB v0 v zB) _ l q I3 K C3
  have hC2:=hC;have⟨_,c0,hc0,hc1⟩:=hC2;have E:c0=c:=by grind
  subst E;rcases hc1 with⟨h,_⟩|⟨_,B,rfl,hs⟩
  cases h;exact hoffer _ _ _ hx hC ho (taken H F ho hs hAn2).1;exact hbig.elim
 .
  have hxB:u.xB Z j=j:=by
   cases u with
   |rr=>rfl
   |ar c z B=>rfl
   |rb c v0 v z=>cases r
  have hgb:gs[Z.k]?=some j:=C.b.trans (congrArg some hxB);have hgt:∀es:Array Tc,∀op∈Sz Z.k j.frame.fn j.frame.place es,op.g=Z.k:=λes=>ofEvents_g
  have hBn2:=hBn;have⟨G,W,E0,hone,N⟩:=hBn;rcases oQ (M:=λg w=>Claim Z KA KB gA wA g w) H.dB H.EB H.rB H.kB F.SB hone N (λh=>let⟨b,s,hO,_⟩:=F.cB;hKB (uz H.EB H.rB H.kB H.dB H.Le TB h F.SB hO)) (Z.k==0)with⟨g1,w1,A,L,es',p',hx,S1,hE,hT,hCl⟩|⟨c,c',sh,hx,hC,ho⟩|⟨h,_⟩
  refine Runs.step (k.trans (runT_crowd_go (P:=Z.Q) (sl:=l) (i:=Z.k) hgb hx)) ?_;have I3:=F.HR S1 hE j.frame.fn j.frame.place;have⟨tm3,D⟩:=I3.ch;rw[hcl]at D;have C3:=C.HR (x:=j) (y:=A) (w1:=L) H.k0 (zP u Q D j A) (hgt es');cases u with
  |rb cB v0 v zB=>cases r
  |rr=>exact hCl n pA f p' A L _ .rr _ l q I3 trivial C3
  |ar c z B=>exact hCl n pA f p' A L _ (.ar c z B) _ l q I3 K C3
  have⟨_,c0,hc0,hc1⟩:=hC;have E:c0=c:=by simpa using hc0.symm
  subst E;rcases hc1 with⟨_,rfl,hsd⟩|⟨h,_⟩
  have⟨v0,hv0⟩:=Tf.1 hsd;have p:=(token H F ho hv0 hBn2).2.1;have⟨k1,k2⟩:=caseA I.SB I.kB ho p;have⟨ch',sd',R⟩:=c';dsimp only at k1 k2;rw[hv0]at k2;cases sd' with
  |none=>cases k2
  |some v=>
   subst k1;have hx':stepG Z.Q (Z.k==0) j w2=Tm (bo j) #[scase Z.c v R] true U2 w2 #[]:=hx;have T:Off Z.Q Z.βB Z.dtB pB gB c0 (scase Z.c v R) U2:=ho;cases u with
   |rb c v0 v z=>cases r
   |rr=>
    have hnw:∀cc∈(#[scase Z.c v R]:Array CommCase),NoWays w2 (gs.setIfInBounds Z.k ph) cc:=λcc E=>by
     have:cc=scase Z.c v R:=by simpa using E
     subst this;refine⟨made_send v R m,?_⟩;have:=Np C H.k0 Z.c false (mD Q Z.c false);simp[ways,scase,m,this]
    refine Runs.step (k.trans (crowd_waits (sl:=l) hgb hx' hnw)) ?_;have hes:Sz Z.k j.frame.fn j.frame.place #[]=#[]:=rfl;rw[hes,Ti];subst hw2;refine ih _ ?_ _ _ (.rb c0 v0 v R) _ l q F ⟨p,hv0,T⟩ (C.setB H.k0 _) rfl;rw[<- hM];simp[Wt.bit]
   |ar cA z B=>
    have⟨hcA,hsA,hoA⟩:=K;have S:iB (alt Z.Q Z.βA) KA (λg w=>∀gB wB,Tree (alt Z.Q Z.βB) KB gB wB->Claim Z KA KB g w gB wB) gA wA:=by
     rcases hA with X|h
     exfalso;have⟨_,s,rc,hO⟩:=H.sA gA wA X;have⟨s2,rc2,hO2⟩:=I.cA;have:=hO.symm.trans hO2.1;simp only[Option.some.injEq,Obj.chan.injEq]at this;have h1:=congrArg Array.size this.2.1;have h2:=(token H I T hv0 hBn2).1;simp at h1;omega;exact h
    have hr:=crowd_send_meets (sl:=l) hgb hx' m (λe=>H.k0 e.symm) C.a (Pq C H.k0 Z.c false (by rw[show Wt.xA Z (.ar cA z B) f=parked (bo f) #[rcase Z.c z] (Tx B)from rfl,offersAt_parked_recv];simp));rw[finishComm_send,finishComm_recv]at hr;exact Runs.step (k.trans hr) (DN hcl H F m S hBn2 hoA hsA T hv0 (bo j).frame.fn (bo j).frame.place (bo f).frame.fn (bo f).frame.place ((C.As H.k0 (SQ (bo f) (recvd B v true))).setB H.k0 (SQ (bo j) undef)))
  cases h;cases h
 .
  refine Runs.step k (ih (sumTo gs2.size q2+u.bit) (by omega) _ _ u gs2 l q2 ?_ K C2 rfl);subst hw2;exact I.mute w'.tape d hmute h0 hk
def AQ(i:Z.cls=false)(H:eG Z KA KB)(v:Tree (alt Z.Q Z.βA) KA gA wA):∀gB wB,Tree (alt Z.Q Z.βB) KB gB wB->Claim Z KA KB gA wA gB wB:=by
 induction v with
 |stop h=>
  intro gB wB s;induction s with
  |stop f=>exact oY i H (.stop h) (.stop f) (.inl h) (.inl f)
  |step G W E n c a t=>exact oY i H (.stop h) (.step G W E n c a) (.inl h) (.inr ⟨G,W,E,c,λk d j=>⟨a k d j,t k d j⟩⟩)
 | @step gA wA p q r l e b m=>
  intro gB wB s;have u:KA gA wA\/iB (alt Z.Q Z.βA) KA (λg w=>∀gB wB,Tree (alt Z.Q Z.βB) KB gB wB->Claim Z KA KB g w gB wB) gA wA:=.inr ⟨p,q,r,e,λk d j=>⟨b k d j,m k d j⟩⟩;induction s with
  |stop f=>exact oY i H (.step p q r l e b) (.stop f) u (.inl f)
  |step G W E n c a t=>exact oY i H (.step p q r l e b) (.step G W E n c a) u (.inr ⟨G,W,E,c,λk d j=>⟨a k d j,t k d j⟩⟩)
end
structure IX(Q:SE)(b:SZ):Prop where
 mode:b.mode=Ts [goexitEntry]
 defers:b.defers=[]
 fn:Q.funcs[b.fn]?=none
 todo:b.todo=[]
structure G0(Z:Duo)(KB:Sv->Sx->Prop):Prop where
 rest:Z.restB=[]
 stop:∀g w,KB g w->(∃b,g.callers.dropLast=[b]/\IX Z.Q b)/\g.frame.mode=TZ/\g.frame.kind=TN/\(∃ats t cs,g.frame.defers=[{target:=SV T8 ats t cs,args:=#[SM (some Z.rB)]}])/\∃fn,Z.Q.funcs[g.frame.fn]?=some fn/\fn.results=#[]
def FI(P f c):seen P f (closeEvents c)=closeEvents c:=by
 simp[seen,closeEvents]
def FH{Q g w c n d a t cs}(i:g.dying=none)(f:g.frame.mode=TZ)
 (e:g.frame.defers=[{target:=SV T8 a t cs,args:=#[SM (some c)]}]) (b:w.heap[c]?=some (SJ 0 #[] false n n d)) (m):
 stepG Q m g w=SU {frame:= {g.frame with defers:=[]},callers:=g.callers,status:=Su,dying:=none} (w.setChan c 0 #[] true n n d) (closeEvents c):=by
 have h:(invoke (SV T8 a t cs) #[SM (some c)]).runT Q w #[]=(Tk (.value (.tuple #[])) (w.setChan c 0 #[] true n n d),closeEvents c):=by
  show(SP a t #[SM (some c)]>>=λv=>pure (Ub v)).runT Q w #[]=_;rw[aM,Tw,run_close_open _ _ b,events_close_open _ _ b];rfl
 simp_all[FI,Sy,stepG,unwind,SI]
def Shut(k c:Nat)(t:Trace):Prop:=∃m a,t[m]?=some a/\a.g=k/\a.act= .close c/\(∀i x,m<i->t[i]?=some x->x.g=k->x.act.touch?=none)/\t.deaf k m=0
def Shut.app{k c t}(h:Shut k c t){u}(p:∀op∈u,op.g=k->op.act.touch?=none):Shut k c (t++u):=by
 have⟨m,op,b,d,e,f,j⟩:=h;have a:=lt_size_of_getElem? b;refine⟨m,op,by rw[getElem?_append_old a];omega,d,e,λi x n l g=> ?_,by rw[deaf_old (Nat.le_of_lt a)];omega⟩;grind
def Duo.shut(Z:Duo):Duo:= {Z with cls:=true}
section
variable{Z:Duo}{n:Nat}{pA pB p':Part}{gA gA' gB gB' g1 g1':Sv}{wA wB w' w1 w1':Sx}{t:Trace}{es':Array Tc}
def Inv2.shut(I:Inv2 Z n pA gA wA gA' pB gB wB gB' w' t){e}(F:w'.heap[Z.c]?=some (SJ 0 #[] false n n e))(fn h):
 Inv2 Z.shut n pA gA wA gA' pB gB wB gB' (w'.setChan Z.c 0 #[] true n n e) (t++Sz Z.k fn h (closeEvents Z.c))/\Shut Z.k Z.c (t++Sz Z.k fn h (closeEvents Z.c)):=by
 have f:∀i,i≠Z.c->(w'.setChan Z.c 0 #[] true n n e).heap[i]?=w'.heap[i]?:=λi y=>by
  grind [T0,AI]
 have u:(w'.setChan Z.c 0 #[] true n n e).heap[Z.c]?=some (SJ 0 #[] true n n e):=by simp[T0,(AS.1 F).1]
 have m:(w'.setChan Z.c 0 #[] true n n e).heap.size=w'.heap.size:=by simp[T0]
 have⟨N,G,B⟩:=I.cA;have⟨b,L,D,z⟩:=I.cB;have s:∀i,pA.K i->qD pA wA w' (w'.setChan Z.c 0 #[] true n n e) i:=λi y=>by
  by_cases c:pA.κ i=Z.c;have:i=Z.rA:=I.SA.part.inj i Z.rA y I.kA.1 (c.trans I.kA.2.symm);subst this;refine .inr ⟨λo l q=> ?_,SJ 0 #[] true n n e,by rw[c];omega,trivial,.inr λo l=> ?_⟩;rw[B.1]at l;cases l;exact q;rw[B.1]at l;cases l;rfl;exact .inl (f _ c)
 have p:∀i,pB.K i->qD pB wB w' (w'.setChan Z.c 0 #[] true n n e) i:=λi y=>by
  by_cases c:pB.κ i=Z.c;have:i=Z.rB:=I.SB.part.inj i Z.rB y I.kB.1 (c.trans I.kB.2.symm);subst this;refine .inr ⟨λo l q=> ?_,SJ 0 #[] true n n e,by rw[c];omega,trivial,.inr λo l=> ?_⟩;rw[D.1]at l;cases l;exact q;rw[D.1]at l;cases l;rfl;exact .inl (f _ c)
 have j:=closeOps Z.k fn h Z.c;have A:PT Z.k (TT pA.κ Z.RoA wA) (TT pB.κ Z.RoB wB) (t++Sz Z.k fn h (closeEvents Z.c)):=by
  refine I.tr.NY (vr I.disj) ofEvents_g (λC a b z M=> ?_) λg C a d=> ?_
  rw[j]at a;simp only[SY,TE,Tn,or_false]at a;rcases a with rfl|rfl<;>first |(simp only[TD,Tj,Option.some.injEq]at z;subst z;exact⟨(λx w=>by cases w),λr K=>rfl⟩)|cases z
  rw[j]at a;simp only[SY,TE,Tn,or_false]at a;rcases a with rfl|rfl<;>rfl
 refine⟨⟨I.SA.keep (w2':=w'.setChan Z.c 0 #[] true n n e) (g2':=gA') (by rw[m];simp) rfl s ⟨rfl,rfl,rfl,(I.SA.relG _ (bL I.SA.part 0)).status.2⟩,I.SB.keep (w2':=w'.setChan Z.c 0 #[] true n n e) (g2':=gB') (by rw[m];simp) rfl p ⟨rfl,rfl,rfl,(I.SB.relG _ (bL I.SB.part 0)).status.2⟩,I.cA,I.cB,I.kA,I.kB,⟨e,u⟩,I.eA,I.nT,I.oth,I.disj,A,I.mA,I.mB,λx w v E H=>(f x v).trans (I.fr x w v E H),by rw[m];exact I.nz,I.out,I.val⟩,?_⟩;rw[j];refine⟨t.size+1,{g:=Z.k,fn:=fn,pos:=h,act:= .close Z.c},by rw[at_new];rfl,rfl,rfl,λi x y w P=> ?_,?_⟩<;>first |(have:=lt_size_of_getElem? w;simp at this;omega)|(refine(deaf_quiet (k:=1) (λC a d=> ?_) (by simp)).trans I.tr.hB;simp only[SY,TE,Tn,or_false]at a;rcases a with rfl|rfl<;>rfl)
end
def lP(Q:SE):Nat->Sv->Prop
 |0,x=>x.status=U0
 |n+1,x=>x.status=Su/\∃y,(∀w,stepG Q false x w=SU y w #[])/\lP Q n y
def Bst(Q:SE)(x:Sv):Prop:=∃n,lP Q n x
def MN{Q fr b fn}(j:fr.mode=TZ)(n:fr.kind=TN)(k:fr.defers=[])(m:Q.funcs[fr.fn]?=some fn)(i:fn.results=#[]){a}(c:b.mode=Ts a)(d:a.head?.any (·.goexit)=true)(h:∀e l,a=e::l->e.recovered=false)(f:b.defers=[])(g:b.catches Q=false):
 Bst Q {frame:=fr,callers:=[b],status:=Su,dying:=none}:=by
 refine⟨2,rfl,{frame:=b,callers:=[],status:=Su,dying:=none},λw=> ?_,rfl,{frame:=b,callers:=[],status:=U0,dying:=none},λw=> ?_,rfl⟩;unfold stepG;dsimp only;rw[j];dsimp only;unfold unwind;rw[k];dsimp only;rw[j];dsimp only;rw[m];dsimp only;rw[Tw,results_none i fr.tmps Q w,events_results_none i ..];dsimp only;rw[seen_none];unfold doReturn;dsimp only;rw[n];dsimp only;rw[c];cases a with
 |nil=>cases d
 |cons e l=>
  have:=h e l rfl;have⟨v,p,q⟩:=e;dsimp only at this;subst this;rfl
 unfold stepG;dsimp only;rw[c];dsimp only;unfold unwind;rw[f];dsimp only;rw[c];dsimp only;rw[g,d];rfl
def lP.quits{Q}:∀{n x},lP Q n x->QuitsD Q n 0 x
 |0,_,h=>⟨h,rfl⟩
 |n+1,_,⟨h,y,b,a⟩=>.inr ⟨h,y,#[],by simp,b,a.quits⟩
def lP.status{Q n x}(h:lP Q n x):x.status=U0\/x.status=Su:=by
 cases n with
 |zero=>exact .inl h
 |succ n=>exact .inr h.1
def lP.woken{Q n x a b}(h:lP Q n x)(w):woken Q a b w x=x:=by
 unfold Go.Conc.woken;split;exact again_running _ (h.status.elim .inr .inl);rfl
def lP.awake{Q n x}(h:lP Q n x):awake x:=awake_of (h.status.elim (λh=>.inr (.inr h)) .inl)
def lP.quiet{Q n x}(h:lP Q n x)(r s):offersAt x r s=[]:=offersAt_of_not_blocked (λe=>by rcases h.status with h|h<;>simp[e]at h) r s
structure Pg(x g:Sv):Prop where
 frame:x.frame=g.frame
 callers:x.callers=g.callers
 dying:x.dying=g.dying
 status:x.status=Su
def Done(Z:Duo)(v r:Sv->Sx->Prop)(m:Machine)(t:Trace):Prop:=
 ∃c u q j b f a s i n d k l z h p,m=crowd c k u/\Inv2 Z.shut Z.TA.size j b f a s i n d k p/\v b f/\r i n/\(∀m e,stepG (alt Z.Q Z.βA) m b e=Tm (bo b) #[l] true (Tx h) e #[])/\(∀g,Ag j g->rcase Z.c z=jS g l)/\
  c[0]?=some (SQ (bo a) (recvd h z false))/\Leavers Z.Q t c q/\Held t/\Deaf t 0=0
section
variable{Z:Duo}{KA KB M MB:Sv->Sx->Prop}
def eG.shut(H:eG Z KA KB):eG Z.shut KA KB:=⟨H.EA,H.EB,H.rA,H.rB,H.kA,H.kB,H.dA,H.dB,H.k0,H.sA,H.sB⟩
def xn(Z:Duo)(KA KB:Sv->Sx->Prop)(g:Sv)(j:Sx):Prop:=
 ∀k a i d c b e t f h q x y,Inv2 Z.shut Z.TA.size k g j a i d c b e t->KB d c->Shut Z.k Z.c t->Pg x a->Bst Z.Q y->di Z.Q Z.k x y f q t->Runs Z.Q (crowd f e h) t (Done Z KA KB)
def Jz{f c a q t}(C:di Z.Q Z.k f c a q t)(r s)(h:offersAt c r s=[]):partners (a.setIfInBounds 0 ph) r s=[]:=
 partners_nil λj g i=>by
  rcases getElem?_stand a 0 j g i with⟨_,rfl⟩|⟨b,d⟩
  rfl;by_cases e:j=Z.k<;>first |(subst e;rw[C.b]at d;grind)|exact C.quiet b e d r s
def di.leavers{Q k e c d q t}(C:di Q k e c d q t){n}(h:lP Q n c)(f:Deaf t k=0):Leavers Q t d (upd q k n):=by
 refine⟨λi g j a=> ?_,C.above⟩;by_cases b:i=k<;>first |(subst b;rw[C.b]at a;cases a;rw[upd_same,f];exact h.quits)|(rw[upd_ne q n b];exact C.old i g (by omega) b a)
def xd(H:eG Z KA KB){gA wA}(hA:KA gA wA\/iB (alt Z.Q Z.βA) KA (λg w=>xn Z KA KB g w) gA wA):xn Z KA KB gA wA:=by
 intro pA e pB gB wB gB' D t gs sl q x y I hKB hS B ⟨n,A⟩ C;generalize hM:sumTo gs.size q+n=M;induction M using Tb generalizing D t gs sl q x y n with
 |ind M ih=>
 have⟨tm,hch⟩:=I.ch;have⟨hrA,hdA⟩:=zx I;have X:=om I;have⟨d,f,r⟩:=C.pick (w:=D) (sl:=sl) H.k0 (awake_of (.inl B.status)) A.awake (.inl B.status) λa a' d=>⟨woken_run B.status,A.woken _⟩
 have k:=I.Nm D.tape d;have E:(ah D D.tape d).heap[Z.c]?=some (SJ 0 #[] true Z.TA.size Z.TA.size tm):=hch;generalize hw2:ah D D.tape d=Q at k E r;have p:∀m,stepG Z.Q m x Q=stepG Z.Q m e Q:=λm=>stepG_same B.frame B.callers B.dying Q
 have hga:gs[0]?=some x:=C.a;rcases r with⟨_,b⟩|⟨F,b⟩|⟨gs2,q2,ops,b,C2,hlt,l,h0,hk⟩
 .
  rcases hA with R|T
  have⟨⟨z,ok,s⟩,_⟩:=H.sA gA wA R;have⟨c',k1,k2,k3⟩:=lq H.dA H.EA k.SA X s (0==0);have⟨e1,e2⟩:=caseA k.SA k.kA k3 rfl;have⟨ch',sd',z'⟩:=c';dsimp only at e1 e2;cases sd' with
  |some v=>cases e2
  |none=>
   subst e1;have hr:=crowd_recv_closed (sl:=f) hga ((p _).trans k1) E (Jz C Z.c true (A.quiet Z.c true));rw[finishComm_recv]at hr;refine Runs.step (b.trans hr) (.here ?_);have K:Sz 0 x.frame.fn x.frame.place #[]=#[]:=rfl;rw[K,Array.empty_append];have⟨m,S,s1,s2,s3,s4,s5⟩:=hS;have hq:Quiet (#[{g:=0,fn:=(bo e).frame.fn,pos:=(bo e).frame.place,act:= .recvClosed Z.c}]:Trace):=λg S j d=>by
    simp only[SY,TE,Tn,or_false]at j;subst j;rfl
   have C2:=(C.As H.k0 (SQ (bo e) (recvd ok z' false))).trace (t2:=t++ #[{g:=0,fn:=(bo e).frame.fn,pos:=(bo e).frame.place,act:= .recvClosed Z.c}]) λi _ _=>Deaf_quiet (hq i)
   exact⟨_,_,_,pA,gA,wA,e,pB,gB,wB,gB',Q,_,z',ok,t,rfl,k,R,hKB,s,k3.re,C2.a,C2.leavers A ((Deaf_quiet (hq Z.k)).trans k.tr.hB),k.tr.found (y:= {g:=0,fn:=(bo e).frame.fn,pos:=(bo e).frame.place,act:= .recvClosed Z.c}) s1 s2 ⟨_,s3,trivial⟩ s3 s4 s5 rfl rfl,(Deaf_quiet (hq 0)).trans k.tr.hA⟩
  have hAn2:=T;have⟨G,W,E0,hone,N⟩:=T;rcases oQ (M:=λg w=>xn Z KA KB g w) H.dA H.EA H.rA H.kA k.SA hone N X (0==0)with⟨g1,w1,L,w1',es',p',s,S1,hE,hT,hCl⟩|⟨c,c',sh,s,hC,ho⟩|⟨_,hbig⟩
  refine Runs.step (b.trans (runT_crowd_go (P:=Z.Q) (sl:=f) (i:=0) hga ((p _).trans s))) ?_;have I3:=k.Br S1 hE x.frame.fn x.frame.place;have⟨hr1,hd1⟩:=zx I3;exact hCl p' L pB gB wB gB' w1' _ _ f q L y I3 hKB (hS.app λS j hg=>by have:=ofEvents_g S j;rw[hg]at this;exact absurd this H.k0) ⟨rfl,rfl,rfl,hr1⟩ ⟨n,A⟩ (C.Br (x:=x) (y:=L) (w1:=w1') H.k0 (A.woken _) (u:=Sz 0 x.frame.fn x.frame.place es') ofEvents_g);exfalso;have⟨_,c0,hc0,hc1⟩:=hC;have hcc:c0=c:=by simpa using hc0.symm
  subst hcc;rcases hc1 with⟨h,_⟩|⟨_,ok,rfl,hs⟩
  cases h;have⟨_,a,ha,_⟩:=taken H.shut k ho hs hAn2;have:=(AS.1 ha).1;exact absurd this (Nat.lt_irrefl _);exact hbig.elim
 .
  cases n with
  |zero=>have:y.status=U0:=A;rw[this]at F;cases F
  |succ n=>
  have⟨_,y2,hy2,hf⟩:=A;have hk0:(Z.k==0)=false:=by simpa using H.k0
  refine Runs.step (b.trans (runT_crowd_go (P:=Z.Q) (sl:=f) (i:=Z.k) C.b (by rw[hk0];exact hy2 Q))) ?_;have C3:=C.HR (x:=y) (y:=y2) (w1:=Q) H.k0 (woken_run B.status) (u:=Sz Z.k y.frame.fn y.frame.place #[]) ofEvents_g;have K:Sz Z.k y.frame.fn y.frame.place #[]=#[]:=rfl;rw[K,Ti]at C3 ⊢;subst hw2;refine ih _ ?_ _ _ _ f q x y2 k hS B n hf C3 rfl;rw[<- hM];simp
 .refine Runs.step b (ih (sumTo gs2.size q2+n) (by omega) _ _ gs2 f q2 x y ?_ (hS.app λS j _=>l S j) B n A C2 rfl);subst hw2;exact I.mute D.tape d l h0 hk
def IF(H:eG Z KA KB){g h}(i:Tree (alt Z.Q Z.βA) KA g h):xn Z KA KB g h:=by
 induction i with
 |stop c=>exact xd H (.inl c)
 |step G W E k b a j=>exact xd H (.inr ⟨G,W,E,b,λe d f=>⟨a e d f,j e d f⟩⟩)
def xm(Z:Duo)(KA KB:Sv->Sx->Prop)(k:Sv)(n:Sx):Prop:=
 ∀g a i e f b h t d j l q,Inv2 Z Z.TA.size g k n a i e f b h t->Wt.Ok Z g k i e d->di Z.Q Z.k (d.xA Z a) (d.xB Z b) j q t->(∀c m v z,d≠.rb c m v z)->KB e f->Runs Z.Q (crowd j h l) t (Done Z KA KB)
def shut_node(hcl:Z.cls=false)(H:eG Z KA KB)(HB:G0 Z KB){gA wA}(TA:Tree (alt Z.Q Z.βA) KA gA wA)(hA:KA gA wA\/iB (alt Z.Q Z.βA) KA (λg w=>xm Z KA KB g w) gA wA):xm Z KA KB gA wA:=by
 intro pA f pB gB wB b R t A gs sl q I hst C s hKB;generalize hM:sumTo gs.size q+A.bit=M;induction M using Tb generalizing R t A gs sl q with
 |ind M ih=>
 have⟨tm,L⟩:=I.ch;rw[hcl]at L;have⟨F,hdA⟩:=zx I;have⟨D,hdB⟩:=Lc I;have hxB:A.xB Z b=b:=by
  cases A with
  |rr=>rfl
  |ar c z X=>rfl
  |rb c v0 v z=>exact absurd rfl (s c v0 v z)
 have⟨d,r,B⟩:=C.pick (w:=R) (sl:=sl) H.k0 (IB A F) (IA A D) (.inr (by rw[hxB];omega)) λa a' d=>⟨zP A F L a a',zO A D L a a'⟩
 have p:=I.Nm R.tape d;have k:(ah R R.tape d).heap[Z.c]?=some (SJ 0 #[] false Z.TA.size Z.TA.size tm):=L;generalize hw2:ah R R.tape d=w2 at p k B;rcases B with⟨N,j⟩|⟨N,j⟩|⟨gs2,q2,ops,j,C2,hlt,T,h0,hk⟩
 .
  have hxA:A= .rr:=by
   cases A with
   |rr=>rfl
   |ar c z X=>cases N
   |rb c v0 v z=>exact absurd rfl (s c v0 v z)
  subst hxA;have hga:gs[0]?=some f:=C.a;rcases hA with hKA|hAn
  have⟨⟨z,X,K⟩,_⟩:=H.sA gA wA hKA;have⟨c',k1,k2,k3⟩:=lq H.dA H.EA p.SA (om p) K (0==0);have⟨e1,e2⟩:=caseA p.SA p.kA k3 rfl;have⟨ch',sd',z'⟩:=c';dsimp only at e1 e2;cases sd' with
  |some v=>cases e2
  |none=>
   subst e1;have hnw:∀cc∈(#[rcase Z.c z']:Array CommCase),NoWays w2 (gs.setIfInBounds 0 ph) cc:=λcc hcc=>by
    have:cc=rcase Z.c z':=by grind
    subst this;refine⟨made_recv z' k,?_⟩;have:=GX C H.k0 Z.c true (mD D Z.c true);simp[ways,rcase,k,this]
   refine Runs.step (j.trans (crowd_waits (sl:=r) hga k1 hnw)) ?_;have hes:Sz 0 f.frame.fn f.frame.place #[]=#[]:=rfl;rw[hes,Ti];subst hw2;refine ih _ ?_ _ _ (.ar {chan:=SM (some Z.rA),send:=none,zero:=z} z' X) _ r q p ⟨rfl,rfl,k3⟩ (C.As H.k0 _) (λ_ _ _ _ e=>by cases e) rfl;rw[<- hM];simp[Wt.bit]
  have hAn2:=hAn;have⟨G,W,E0,hone,htree⟩:=hAn;rcases oQ (M:=λg w=>xm Z KA KB g w) H.dA H.EA H.rA H.kA p.SA hone htree (om p) (0==0)with⟨g1,w1,g1',w1',es',p',K,S1,hE,hT,hCl⟩|⟨c,c',sh,K,hC,ho⟩|⟨_,hbig⟩
  exact Runs.step (j.trans (runT_crowd_go (P:=Z.Q) (sl:=r) (i:=0) hga K)) (hCl p' g1' pB gB wB b w1' _ .rr _ r q (p.Br S1 hE f.frame.fn f.frame.place) trivial (C.Br (x:=f) (y:=g1') (w1:=w1') H.k0 (woken_run D) (u:=Sz 0 f.frame.fn f.frame.place es') ofEvents_g) (λ_ _ _ _ e=>by cases e) hKB);exfalso;have⟨_,c0,hc0,hc1⟩:=hC;have hcc:c0=c:=by simpa using hc0.symm
  subst hcc;rcases hc1 with⟨h,_⟩|⟨_,X,rfl,hs⟩
  cases h;have⟨_,a,ha,_⟩:=taken H p ho hs hAn2;have:=(AS.1 ha).1;exact absurd this (Nat.lt_irrefl _);exact hbig.elim
 .
  have⟨⟨bf,hcs,E⟩,hmo,hki,⟨ats,tt,cs,hdf⟩,fn,hfn,hres⟩:=HB.stop gB wB hKB;have n:=p.SB.relG _ (bL p.SB.part 0);have f1:b.frame.mode=TZ:=by rw[n.frame,fL,hmo];rfl
  have⟨m,f3,hb1,hb2,hb3,hb4⟩:∃m,b.callers=[m]/\m.mode= .panicking [goexitEntry]/\m.defers=[]/\m.fn=bf.fn/\m.todo=bf.todo:=by
   refine⟨aC (pB.far w2.heap.size 0) bf,?_,?_,?_,rfl,rfl⟩<;>first |(rw[n.callers,hcs,HB.rest];rfl)|(rw[fL,E.mode];simp[oa,jn,goexitEntry])|(rw[jG,E.defers];rfl)
  have f4:b.frame.defers=[{target:=SV T8 ats tt cs,args:=#[SM (some Z.c)]}]:=by
   rw[n.frame,jG,hdf];simp[lu,AG,((bL p.SB.part 0).2 _ p.kB.1).trans p.kB.2]
  have f5:b.frame.fn=gB.frame.fn:=by rw[n.frame];rfl
  have S:=FH (Q:=Z.Q) hdB f1 f4 k (Z.k==0);rw[f3]at S;refine Runs.step (j.trans (runT_crowd_go (P:=Z.Q) (sl:=r) (i:=Z.k) (C.b.trans (congrArg some hxB)) S)) ?_;have⟨I3,hS⟩:=p.shut k b.frame.fn b.frame.place;have hsetc:(w2.setChan Z.c 0 #[] true Z.TA.size Z.TA.size tm).heap[Z.c]?=some (SJ 0 #[] true Z.TA.size Z.TA.size tm):=by simp[T0,(AS.1 k).1]
  have hmw:mayWake Z.Q b=true:=by unfold mayWake;rw[f1]
  have⟨x,hxe,hxas⟩:∃x,woken Z.Q b {frame:= {b.frame with defers:=[]},callers:=[m],status:=.running,dying:=none} (w2.setChan Z.c 0 #[] true Z.TA.size Z.TA.size tm) (A.xA Z f)=x/\Pg x f:=by
   cases A with
   |rr=>exact⟨f,woken_run F,rfl,rfl,rfl,F⟩
   |rb c v0 v z=>exact absurd rfl (s c v0 v z)
   |ar c z X=>
    refine⟨{parked (bo f) #[rcase Z.c z] (Tx X)with status:=Su},?_,rfl,rfl,hdA.symm,rfl⟩;show Go.Conc.woken _ _ _ _ (parked (bo f) #[rcase Z.c z] (Tx X))=_;unfold Go.Conc.woken;rw[hmw];exact(if_pos rfl).trans (again_recv_closed hsetc)
  exact IF H TA pA f pB gB wB b _ _ _ r q x _ I3 hKB hS hxas (MN (fr:= {b.frame with defers:=[]}) f1 (by rw[n.frame,oS];exact hki) rfl (by rw[show({b.frame with defers:=[]}:SZ).fn=b.frame.fn from rfl,f5];exact hfn) hres hb1 rfl λe l h=>by cases h;rfl hb2 (by unfold Frame.catches;rw[hb3,hb4,E.fn,E.todo])) (C.HR (x:=b) (y:= {frame:= {b.frame with defers:=[]},callers:=[m],status:=Su,dying:=none}) (w1:=w2.setChan Z.c 0 #[] true Z.TA.size Z.TA.size tm) H.k0 hxe (u:=Sz Z.k b.frame.fn b.frame.place (closeEvents Z.c)) ofEvents_g)
 .refine Runs.step j (ih (sumTo gs2.size q2+A.bit) (by omega) _ _ A gs2 r q2 ?_ hst C2 s rfl);subst hw2;exact I.mute R.tape d T h0 hk
def Jl(e:Z.cls=false)(H:eG Z KA KB)(i:G0 Z KB){j g}(k:Tree (alt Z.Q Z.βA) KA j g):xm Z KA KB j g:=by
 induction k with
 |stop c=>exact shut_node e H i (.stop c) (.inl c)
 |step G W E l b a m=>exact shut_node e H i (.step G W E l b a) (.inr ⟨G,W,E,b,λh d f=>⟨a h d f,m h d f⟩⟩)
def pair(j:Z.cls=false)(H:eG Z KA KB)(HB:G0 Z KB){D v a c K l r L G t z E q}
 (TA:Tree (alt Z.Q Z.βA) KA D K) (W:Tree (alt Z.Q Z.βB) KB v l) (I:Inv2 Z 0 L D K a G v l c r t) (C:di Z.Q Z.k a c z q t):Runs Z.Q (crowd z r E) t (Done Z KA KB):=by
 refine(AQ j H TA v l W 0 L a G c r t .rr z E q I trivial C).bind λm' P h=> ?_
 obtain⟨X,u,p,q2,n,A,gA2,wA2,i,w,g,f,e,x,rfl,B,m,R,k,y,d⟩:=h;have Q:n=Z.TA.size:=by
  have⟨b,s,N,hb⟩:=B.cB;have⟨_,F,s3,T,S,_⟩:=H.sB g f d;have:=T.symm.trans N.1;grind
 subst Q;exact Jl j H HB y A i w g f e x P X u p q2 B m R k d
end
end
section
open Go.Conc
variable[aD]
structure bg(h0:Array Obj)(w w':Sx):Prop where
 size:w'.heap.size=w.heap.size
 tape:w'.tape=w.tape
 drawn:w'.drawn=w.drawn
 os:w'.os=w.os
 output:w'.output=w.output
 blk:∀i:Nat,w.heap[i]?=w'.heap[i]?\/(w.heap[i]?=some (Ta none)/\((∃l,w'.heap[i]?=some (.loop l))\/∃d,w'.heap[i]?=some (TP d)))
 keep:∀i:Nat,w.heap[i]?=some (Ta none)->w'.heap[i]?=h0[i]?
section
variable{P:SE}{w w' w1:Sx}{h0:Array Obj}
def bg.ah(h:bg h0 w w')(a d):bg h0 (ah w a d) (ah w' a d):=⟨h.size,rfl,rfl,h.os,h.output,h.blk,h.keep⟩
def bg.cell(h:bg h0 w w')(a):w'.cell? a=w.cell? a:=by
 unfold World.cell?;rcases h.blk a.block with e|⟨e,⟨l,b⟩|⟨l,b⟩⟩<;>grind
def bg.shape(h:bg h0 w w')(r):w'.shape? r=w.shape? r:=by
 unfold World.shape?;rcases h.blk r with e|⟨e,⟨l,a⟩|⟨l,a⟩⟩<;>grind
def bg.frozen(h:bg h0 w w')(a):w'.frozen? a=w.frozen? a:=by
 unfold World.frozen?;rcases h.blk a.block with e|⟨e,⟨l,b⟩|⟨l,b⟩⟩<;>grind
def bg.noCell(h:bg h0 w w')(a s):w'.noCell a s=w.noCell a s:=by
 unfold World.noCell;rcases h.blk a.block with e|⟨e,⟨l,b⟩|⟨l,b⟩⟩<;>grind
def bg.seen(h:bg h0 w w')(x u a b):w'.seen P x u a b=w.seen P x u a b:=by
 unfold World.seen;rcases h.blk x.block with e|⟨e,⟨l,c⟩|⟨l,c⟩⟩
 rw[e];rw[e,c];rw[e,c]
def bg.load(h:bg h0 w w')(a b):w'.farLoad P a b=w.farLoad P a b:=by
 simp[World.farLoad,h.noCell];have d:∀x u,w'.viewLoad P x u a b=w.viewLoad P x u a b:=λx u=>by simp[World.viewLoad,h.seen]
 rcases h.blk a.block with e|⟨e,⟨l,c⟩|⟨l,c⟩⟩<;>grind
def bg.set(h:bg h0 w w')(r o)(c:pE o):bg h0 {w with heap:=w.heap.setIfInBounds r o} {w' with heap:=w'.heap.setIfInBounds r o}:=by
 refine⟨by simp[h.size],h.tape,h.drawn,h.os,h.output,λi=> ?_,λi a=> ?_⟩;by_cases b:r=i<;>first |(subst b;simp[Tv,h.size])|(rw[AI b,AI b];exact h.blk i)
 by_cases b:r=i;subst b;rw[Tv,if_pos rfl]at a;split at a;cases a;exact c.elim;grind
 rw[AI b]at a ⊢;exact h.keep i a
def bg.push(h:bg h0 w w')(o)(c:pE o):bg h0 {w with heap:=w.heap.push o} {w' with heap:=w'.heap.push o}:=by
 refine⟨by simp[h.size],h.tape,h.drawn,h.os,h.output,λi=> ?_,λi a=> ?_⟩;rw[T9,T9,h.size];split;exact .inl rfl;exact h.blk i;rw[T9]at a ⊢;rw[h.size];split at a<;>first |(cases a;exact c.elim)|(rename_i b;rw[if_neg b];exact h.keep i a)
def bg.modify(h:bg h0 w w')(r f)(m:f (Ta none)=Ta none)(q:∀l,f (.loop l)= .loop l)(p:∀d,f (TP d)=TP d)(k:∀o,f o=Ta none->o=Ta none):bg h0 {w with heap:=w.heap.modify r f} {w' with heap:=w'.heap.modify r f}:=by
 refine⟨by simp[h.size],h.tape,h.drawn,h.os,h.output,λi=> ?_,λi a=> ?_⟩;dsimp only;rw[Tq,Tq];split;rcases h.blk i with e|⟨e,⟨l,c⟩|⟨l,c⟩⟩<;>grind
 exact h.blk i;dsimp only at a ⊢;rw[Tq]at a ⊢;split at a;have⟨o,j,g⟩:=SD.1 a;have:=k o g;subst this;have n:=h.keep i j;rcases h.blk i with e|⟨e,⟨l,c⟩|⟨l,c⟩⟩<;>grind
 rename_i b;rw[if_neg b];exact h.keep i a
def bg.setCell(h:bg h0 w w')(a v):bg h0 (w.setCell a v) (w'.setCell a v):=h.modify _ _ rfl (λ_=>rfl) (λ_=>rfl) λo b=>by cases o<;>first |(exact b)|(cases b)
theorem bg.freeze(h:bg h0 w w')(a n):bg h0 (w.freeze a n) (w'.freeze a n):=by
 unfold World.freeze;split;exact h;exact h.modify _ _ rfl (λ_=>rfl) (λ_=>rfl) λo b=>by cases o<;>first |(exact b)|(cases b)
def bg.Nc(h:bg h0 w w')(a v b){x}(e:w.farStore P a v b=SW x):w'.farStore P a v b=SW x:=by
 unfold TS at e ⊢;rw[h.noCell];have p:∀x u y,w.viewStore P x u a v b=SW y->w'.viewStore P x u a v b=SW y:=λx u y e=>by
  unfold U9 at e ⊢;rw[h.seen];simp only[bind,Except.bind,pure,Except.pure]at e ⊢;by_cases m:tight P P.depth u=true;simp only[m,Bool.not_true,Tz,if_false]at e ⊢;cases n:w.seen P x u a b with
  |error z=>rw[n]at e;omega
  |ok z=>
   rw[n]at e;have⟨c,r,q,f,k,j⟩:=z;dsimp only at e ⊢;cases s:v.bytes? <;>grind
  simp only[m]at e ⊢;exact e
 rcases h.blk a.block with d|⟨d,⟨l,g⟩|⟨l,g⟩⟩
 rw[<- d];split at e;split at e;cases e;rename_i i;rw[p _ _ _ i];exact e;exact e;rw[d]at e;rw[g];exact e;rw[d]at e;rw[g];exact e
def bg.Nb(h:bg h0 w w')(a v b){l}(e:w.farStore P a v b= .ok (w1,l)):∃d,w'.farStore P a v b= .ok (d,l)/\bg h0 w1 d:=by
 unfold TS at e ⊢;have B:∀x u y,w.viewStore P x u a v b= .ok y->∃m,w'.viewStore P x u a v b= .ok (m,y.2)/\bg h0 y.1 m:=λx u y e=>by
  unfold U9 at e ⊢;rw[h.seen];simp only[bind,Except.bind,pure,Except.pure]at e ⊢;by_cases p:tight P P.depth u=true;simp only[p,Bool.not_true,Tz,if_false]at e ⊢;cases q:w.seen P x u a b with
  |error z=>rw[q]at e;cases e
  |ok z=>
   rw[q]at e;have⟨c,F,E,j,r,i⟩:=z;dsimp only at e ⊢;cases n:v.bytes? with
   |none=>rw[n]at e;cases e
   |some k=>
    rw[n]at e;dsimp only at e ⊢;split at e;cases e;rename_i t;rw[if_neg t];split at e;cases e;cases e;exact⟨_,rfl,h.set _ _ trivial⟩
  simp only[p]at e;cases e
 rcases h.blk a.block with f|⟨f,⟨s,A⟩|⟨s,A⟩⟩
 rw[<- f];split at e;split at e<;>first |(rename_i g;have⟨m,C,D⟩:=B _ _ _ g;rw[C];cases e;exact⟨_,rfl,D⟩)|cases e
 cases e;rw[f]at e;cases e;rw[f]at e;cases e
def MP{f}(x:Ask f):∀{w w'},bg h0 w w'->(w'.ask x).1=(w.ask x).1/\bg h0 (w.ask x).2 (w'.ask x).2:=by
 induction x with
 |done a=>exactλh=>⟨rfl,h⟩
 |ask c b k e=>
  intro w w' h;by_cases d:(Question.extern c b).forced=true<;>first |(rw[y6 _ _ _ _ d,y6 _ _ _ _ d];grind)|(rw[BX _ _ _ _ d,BX _ _ _ _ d,h.tape,h.drawn];exact e _ (h.ah ..))
def LG(c)(h:bg h0 w w'):(w'.sys c).1=(w.sys c).1/\bg h0 (w.sys c).2 (w'.sys c).2:=by
 simp[World.sys,h.os];have⟨b,a⟩:=MP (TW c w.os) h;generalize w.ask (TW c w.os)=x at b a ⊢;generalize w'.ask (TW c w.os)=d at b a ⊢;have⟨⟨r,g⟩,u⟩:=x;have⟨⟨f,e⟩,i⟩:=d;cases b;cases r<;>first |exact⟨rfl,h⟩|exact⟨rfl,a.size,a.tape,a.drawn,rfl,a.output,a.blk,a.keep⟩
def oo{b:Type}(r:Except Halt b)(u:Sx):Result b:=match r with| .ok a=>Tk a u|SW h=>SL h u
def uO{α K mk}{s:Sem α}(hs:cw P K mk s):∀w w' b,an w->bg h0 w w'->(K=true/\∃h u e,s.runT P w b=(SL h u,e)/\Dead h)\/∃r u B e,s.runT P w b=(oo r u,e)/\s.runT P w' b=(oo r B,e)/\bg h0 u B:=by
 induction s with
 |pure a=>exactλw w' b _ h=>.inr ⟨.ok a,w,w',b,rfl,rfl,h⟩
 |halt x=>exactλw w' b _ h=>.inr ⟨SW x,w,w',b,rfl,rfl,h⟩
 |load m a k j=>
  intro w w' b g h;simp only[SK,h.cell,h.load];cases w.cell? a with
  |some v=>exact j _ (hs _) _ _ _ g h
  |none=>
   dsimp only;cases w.farLoad P a (m== .atomic)with
   |ok r=>exact j _ (hs _) _ _ _ g h
   |error e=>exact .inr ⟨SW e,w,w',_,rfl,rfl,h⟩
 |store m a v k j=>
  intro w w' b g h;have G:v.oneCell'=true->∀u:Sx,(Sem.store m a v k).runT P u b=(match u.cell? a with
   |some _=>if u.frozen? a then(SL (Te (.unsafePointer "a write to bytes that a string shares")) u,b)else k.runT P (u.setCell a v) (b.push ⟨.cell a,true,m== .atomic⟩)
   |none=>match u.farStore P a v (m== .atomic)with| .ok (u,y)=>k.runT P u (b++y.toArray.map (⟨.cell ·,true,m== .atomic⟩))|SW h=>(SL h u,b)):=λD u=>by
   cases v<;>first |rfl|(exact absurd D (by decide))|(simp[Value.oneCell']at D)
  by_cases D:v.oneCell'=true;rw[G D,G D,h.cell,h.frozen];cases H:w.cell? a with
  |some o=>
   dsimp only;split <;>first |exact .inr ⟨SW _,w,w',_,rfl,rfl,h⟩|exact j hs _ _ _ (eO g _ _) (h.setCell a v)
  |none=>
   dsimp only;cases M:w.farStore P a v (m== .atomic)with
   |ok r=>
    have⟨w1,l⟩:=r;have⟨w1',T,S⟩:=h.Nb a v _ M;rw[T];exact j hs _ _ _ (gp g M) S
   |error e=>
    rw[h.Nc a v _ M];exact .inr ⟨SW e,w,w',_,rfl,rfl,h⟩
  have R:∀u:Sx,(Sem.store m a v k).runT P u b=(SL (.stuck "store: not the value of one cell") u,b):=λu=>by
   cases v<;>first |rfl|(exact absurd rfl D)
  rw[R,R];exact .inr ⟨SW _,w,w',b,rfl,rfl,h⟩
 |new o k j=>
  intro w w' b g h;simp only[SK,h.size];exact j _ (hs.2 _) _ _ _ (jK g hs.1) (h.push o hs.1)
 |shape r k j=>
  intro w w' b g h;simp only[SK,h.shape];exact j _ (hs _) _ _ _ g h
 |freeze a n k j=>exactλw w' b g h=>j hs _ _ _ (iz g _ _) (h.freeze a n)
 |frozen a k j=>
  intro w w' b g h;simp only[SK,h.frozen];exact j _ (hs _) _ _ _ g h
 |getObj r k j=>
  intro w w' b g h;rcases h.blk r with e|⟨e,z⟩
  cases A:w.heap[r]? with
  |none=>
   simp only[SK,<- e,A];exact .inr ⟨SW _,w,w',b,rfl,rfl,h⟩
  |some o=>
   have hk:=hs.1 o (g _ _ A).i;simp only[SK,<- e,A];cases o;case cells c t f=>exact .inr ⟨SW _,w,w',b,rfl,rfl,h⟩
   all_goals exact j _ hk _ _ _ g h
  have I:∀o:Obj,w'.heap[r]?=some o->o.isChan=false->k o=k (Ta none)->(∀c t f,o≠Tl c t f)->(K=true/\∃h u e,(Tr r k).runT P w b=(SL h u,e)/\Dead h)\/∃x u B e,(Tr r k).runT P w b=(oo x u,e)/\(Tr r k).runT P w' b=(oo x B,e)/\bg h0 u B:=λo A H Q hnc=>by
   have C:(Tr r k).runT P w b=(k (Ta none)).runT P w (b.push ⟨TC r,false,false⟩):=by simp only[SK,e];rfl
   have E:(Tr r k).runT P w' b=(k (Ta none)).runT P w' (b.push ⟨TC r,false,false⟩):=by
    rw[<- Q,<- H];grind [SK]
   rw[C,E];exact j _ (hs.1 _ (.inr (.inr ⟨_,rfl⟩))) _ _ _ g h
  rcases hs.2 with⟨hy,x,hx,N⟩|⟨hl,N⟩
  refine .inl ⟨hy,x,w,b.push ⟨TC r,false,false⟩,?_,N⟩;have C:(Tr r k).runT P w b=(k (Ta none)).runT P w (b.push ⟨TC r,false,false⟩):=by simp only[SK,e];rfl
  rw[C,hx];rfl;rcases z with⟨l,z⟩|⟨d,z⟩<;>first |exact I _ z rfl (hl l) λ_ _ _ h=>by cases h|exact I _ z rfl (N d) λ_ _ _ h=>by cases h
 |setObj r o k j=>
  intro w w' b g h;have F:(∃p,w.heap[r]?=some p/\∀c t f,p≠Tl c t f)->(∃p,w'.heap[r]?=some p/\∀c t f,p≠Tl c t f)->(K=true/\∃h u e,(TY r o k).runT P w b=(SL h u,e)/\Dead h)\/∃x u B e,(TY r o k).runT P w b=(oo x u,e)/\(TY r o k).runT P w' b=(oo x B,e)/\bg h0 u B:=λ⟨p,C,n1⟩ ⟨Z,E,X⟩=>by
   have G:∀(u:Sx)(p:Obj),u.heap[r]?=some p->(∀c t f,p≠Tl c t f)->(TY r o k).runT P u b=k.runT P {u with heap:=u.heap.setIfInBounds r o} (b.push ⟨TC r,true,o.isChan⟩):=λu p W L=>by
    simp only[SK,W];try(cases p<;>first |rfl|exact absurd rfl (L ..))
   rw[G w p C n1,G w' Z E X];exact j hs.2 _ _ _ (eE g hs.1) (h.set r o hs.1)
  rcases h.blk r with e|⟨e,z⟩
  cases A:w.heap[r]? with
  |none=>
   simp only[SK,<- e,A];exact .inr ⟨SW _,w,w',b,rfl,rfl,h⟩
  |some p=>
   by_cases H:∃c t f,p=Tl c t f<;>first |(obtain⟨c,t,f,rfl⟩:=H;simp only[SK,<- e,A];exact .inr ⟨SW _,w,w',b,rfl,rfl,h⟩)|(have L:∀c t f,p≠Tl c t f:=λc t f h=>H ⟨c,t,f,h⟩;exact F ⟨p,A,L⟩ ⟨p,e▸A,L⟩)
  rcases z with⟨l,z⟩|⟨d,z⟩<;>exact F ⟨_,e,λ_ _ _ h=>by cases h⟩ ⟨_,z,λ_ _ _ h=>by cases h⟩
 |choose q k j=>
  intro w w' b g h;simp only[SK,h.tape,h.drawn];split;exact j _ (hs _) _ _ _ g h;exact j _ (hs _) {w with drawn:=w.drawn+1} {w' with tape:=w.tape,drawn:=w.drawn+1} _ g ⟨h.size,rfl,rfl,h.os,h.output,h.blk,h.keep⟩
 |sys c k j=>
  intro w w' b g h;have⟨C,E⟩:=LG c h;simp only[SK,C];exact j _ (hs.2 _) _ _ _ (kU g c) E
 |program k j=>exactλw w' b g h=>j _ hs _ _ _ g h
 |mark m k j=>exactλw w' b g h=>j hs.2 _ _ _ g h
end
def fW(h0:Array Obj)(Q:SE)(U:Nat->Option Code)(x c:GStep):Prop:=
 (∀b d e,x=SU b d e->b.status=Su->qc Q U b\/∃a,c=SU b a e/\bg h0 d a)/\(Big x.es->Big c.es)
def iN(x:GStep):Prop:=(∀a b c,x=SU a b c->a.status=Su->False)/\¬ Big x.es
section
variable{Q:SE}{U:Nat->Option Code}{x x':GStep}{w w' u u':Sx}{h0:Array Obj}
def bc(h:bg h0 u u'){g a}:fW h0 Q U (SU g u a) (SU g u' a):=⟨λc d b e _=>by
 grind,id⟩
def nl(h:bg h0 u u')(f args k cs){a}(c:∀d,a=some d->d.calling=true)(b):fW h0 Q U (SU {frame:=U7 (alt Q U) f args k,callers:=cs,status:=Su,dying:=a} u b) (SU {frame:=U7 Q f args k,callers:=cs,status:=Su,dying:=a} u' b):=by
 refine⟨λn m j e _=> ?_,id⟩;rcases FA (Q:=Q) (U:=U) f args k cs a u b c with e|⟨g,w,i,e,l,_⟩<;>grind
def eQ(h:∀g u a,x≠SU g u a)(b:x.es=#[]):iN x:=⟨λd c a e _=>absurd e (h _ _ _),av⟩
def oF{g}(h:g.status≠Su):iN (SU g u):=⟨λd c a e b=>by
 grind,av⟩
def dj{E}(b:¬ Big E)(h:iN x):iN (Sy E x):=by
 refine⟨?_,bh b h.2⟩;intro f c d e a;cases x<;>simp[Sy]at e;have⟨rfl,rfl,rfl⟩:=e;exact h.1 _ _ _ rfl a
def iN.pat(h:iN x):fW h0 Q U x x':=⟨λd c f e b=>(h.1 _ _ _ e b).elim,λa=>absurd a h.2⟩
def aS(h:∀g u b,x≠SU g u b)(a:x.es=#[]):fW h0 Q U x x':=(eQ h a).pat
def ol{g}(h:g.status≠Su):fW h0 Q U (SU g u) x':=(oF h).pat
def bR{E}(h:fW h0 Q U x x'):fW h0 Q U (Sy E x) (Sy E x'):=by
 refine⟨?_,λf=>f⟩;intro j g i e c;cases x<;>simp[Sy]at e;have⟨rfl,rfl,rfl⟩:=e;rcases h.1 _ _ _ rfl c with b|⟨a,rfl,d⟩
 exact .inl b;exact .inr ⟨a,rfl,d⟩
def ij{c}[Decidable c]{A B a b}(e:fW h0 Q U A a)(d:fW h0 Q U B b):fW h0 Q U (if c then A else B) (if c then a else b):=by
 grind
def KN{c}[Decidable c]{A B}(b:iN A)(a:iN B):iN (if c then A else B):=by
 grind
def gN{P c}{s:Sem c}(hs:Sep P s)(a:an w)(h:bg h0 w w'):(∃x u e,s.runT P w #[]=(SL x u,e)/\Dead x/\¬ Big e)\/∃r u u' e,s.runT P w #[]=(oo r u,e)/\s.runT P w' #[]=(oo r u',e)/\bg h0 u u':=by
 rcases hs with hs|hs
 rcases uO hs w w' #[] a h with⟨_,x,u,e,b,d⟩|b
 have:=vT hs w #[] a av;grind
 grind
 rcases uO hs w w' #[] a h with⟨h0,_⟩|b<;>grind
def kM{P a}{s:Sem a}(h:bU P true false s):Sep P s:=.inl h.st
def uN{P a}{s:Sem a}(hs:Sep P s)(b:an w)(h:bg h0 w w'):(∃x u,s.run P w=SL x u/\Dead x)\/∃r u u',s.run P w=oo r u/\s.run P w'=oo r u'/\bg h0 u u':=by
 rw[<- Sem.runT_fst P s w #[],<- Sem.runT_fst P s w' #[]];rcases gN hs b h with⟨x,u,e,c,f,g⟩|⟨r,u,u',e,c,i,d⟩<;>grind
def wn{g cs k m}(n:an u)(h:bg h0 u u'):fW h0 Q U (endFatal (alt Q U) g cs k m u) (endFatal Q g cs k m u'):=by
 rw[<- BD (U:=U) (w:=u')];have H:∀(b:Sem (List (ByteArray×String)×List ByteArray)),bU (alt Q U) true false b->fW h0 Q U (match b.run (alt Q U) u with
  |Tk (c,d) w=>dieOf g (panicPieces c++d) m true w
  |SL (Te u) w=>T4 (Td u "") w
  |SL _ w=>T4 (Ty "the report of a panic" "") w) (match b.run (alt Q U) u' with
  |Tk (c,d) w=>dieOf g (panicPieces c++d) m true w
  |SL (Te u) w=>T4 (Td u "") w
  |SL _ w=>T4 (Ty "the report of a panic" "") w):=by
  intro s p;rcases uN (kM p) n h with⟨x,u,i,t⟩|⟨r,u,u',i,l,q⟩
  rw[i];cases x<;>exact aS (λ_ _ _ h=>by cases h) rfl;rw[i,l];cases r with
  |ok a=>exact bc q
  |error x=>cases x<;>exact aS (λ_ _ _ h=>by cases h) rfl
 have f:∀j:List (TG×String),bU (alt Q U) true false (j.mapM λ(v,e)=>match panicText (alt Q U) true v with
  | .text s=>pure (s,e)
  | .address s=>do pure (<- withAddress s,e)
  |_=>unsupported (TK "a fatal error during a panic whose value the report cannot show")):=by
  intro j;refine @pL _ _ _ _ _ _ _ (λx=> ?_) _;dsimp only;split <;>exact zq2
 refine H _ ?_;split <;>first |exact zq2|exact @aX _ _ _ _ _ _ _ _ zq2 λ_=> @aX _ _ _ _ _ _ _ _ (f _) λ_=>zq2|exact @aX _ _ _ _ _ _ _ _ (f _) λ_=>zq2
def xD{s}(hs:oH Q U s):∀w w' b,an w->bg h0 w w'->¬ Big b->
 s.runT (alt Q U) w' b=s.runT Q w' b\/(∃f args u e,s.runT (alt Q U) w b=(Tk (.enter f args) u,e)/\(U f).isSome=true/\¬ Big e)\/∃x u e,s.runT (alt Q U) w b=(SL x u,e)/\Dead x/\¬ Big e:=by
 induction hs with
 |sm h=>exactλw w' b _ _ _=>.inl (ic h w' b)
 |foul m h=>exactλw w' b _ _ k=>.inr (.inl ⟨_,_,w,b,h w b,m,k⟩)
 | @bind v s f hs c m n=>
  intro w w' b j p k;have g:=cf (KZ c:bU (alt Q U) true true s).st w b j;have l:=vT c.st w b j k;simp only[aM];rw[<- ic hs];rcases uO c.st w w' b j p with⟨_,x,u,e,d,t⟩|⟨r,u,u',e,d,q,i⟩
  rw[d]at g l ⊢;grind
  rw[d]at g l;rw[d,q];cases r with
  |ok a=>exact n a u u' e g i l
  |error x=>exact .inl rfl
 | @prog f e h n=>
  simp_all
def yX{s c cs j x u e}(i:s.runT (alt Q U) w #[]=(SL x u,e))(f:Dead x)(k:¬ Big e):iN (stepG.apply (alt Q U) true c cs j s w):=by
 simp only[stepG.apply,i];have a:∀E,(∀z∈E,z∈e)->¬ Big (seen (alt Q U) c.fn (if(c.kind==TH)=true then #[]else E)):=λE a=>av
 have d:∀z∈#[],z∈e:=λz b=>by simp at b
 cases x;case blocked=>exact dj (a _ d) (oF (by simp))
 case waiting=>exact dj (a _ d) (oF (by simp))
 case unsupported v=>
  cases v;case initOrder g=>exact f.elim
  all_goals exact dj (a _ λz b=>b) (eQ (λ_ _ _ h=>by cases h) rfl)
 case stuck m=>exact dj (a _ λz b=>b) (eQ (λ_ _ _ h=>by cases h) rfl)
 all_goals exact f.elim
def kv(T:dY (alt Q U)){s}(hs:Sep (alt Q U) s)(l:St (alt Q U) s)(A:oH Q U s){D cs dy}(p:∀d,dy=some d->d.calling=true)(q:an w)(h:bg h0 w w'):fW h0 Q U (stepG.apply (alt Q U) true D cs dy s w) (stepG.apply Q true D cs dy s w'):=by
 rcases gN hs q h with⟨x,u,e,t,z,y⟩|⟨r,u,u',e,t,H,i⟩
 exact(yX t z y).pat;have C:=pQ l.st w #[] q;have E:=cf l.st w #[] q;rw[t]at C E;rcases xD A w w' #[] q h av with k|⟨f,j,G,K,k,L,y⟩|⟨x,G,K,k,z,y⟩
 rotate_left
 unfold stepG.apply;simp only[if_true];rw[k];refine⟨λM N F I _=> ?_,λh=>h⟩;cases I;exact .inl ⟨f,j,_,rfl,L,rfl,p⟩;exact(yX k z y).pat;unfold stepG.apply;simp only[if_true];rw[<- k,t,H];simp only[iW];cases r with
 |ok n=>
  dsimp only[oo];refine bR ?_;cases n;case enter f j=>exact nl i _ _ _ _ p _
  case recover=>
   dsimp only;have B:(alt Q U).follows .rangeFuncRecover=Q.follows .rangeFuncRecover:=rfl;rw[B];split <;>exact bc i
  case spawn d=>
   dsimp only;have B:(alt Q U).follows .goNilFatal=Q.follows .goNilFatal:=rfl;rw[B,B6];exact ij (bc i) (aS (λ_ _ _ h=>by cases h) rfl)
  case callThen d a b c=>
   dsimp only;unfold Frame.ofExtern;rw[lJ];split <;>exact bc i
  case row a b=>
   dsimp only;unfold U6;rw[lJ];split <;>exact bc i
  case stack a b=>
   dsimp only;unfold U6;rw[lJ];split <;>exact bc i
  all_goals first
   |exact bc i
   |exact aS (λ_ _ _ h=>by cases h) rfl
 |error x=>
  dsimp only[oo];cases x;case unsupported v=>
   cases v;case initOrder g=>
    dsimp only;rw[oy T (C _ _ _ rfl)];exact bR (aS (λ_ _ _ h=>by cases h) rfl)
   all_goals exact bR (aS (λ_ _ _ h=>by cases h) rfl)
  case fatal m=>exact bR (wn E i)
  case throw m=>exact bR (bc i)
  all_goals
   refine bR ?_;first
    |exact bc i
    |exact aS (λ_ _ _ h=>by cases h) rfl
def oz(T:Twin Q U)(e:bg h0 u u'){a f cs v b}(g:∀d,b=some d->d.calling=true):fW h0 Q U (doReturn (alt Q U) a f cs b v u) (doReturn Q a f cs b v u'):=by
 simp[doReturn,Bi T];cases cs with
 |cons c cs=>
  dsimp only;split <;>exact bc e
 |nil=>
  dsimp only;split <;>first |exact bc e|exact aS (λ_ _ _ h=>by cases h) rfl|(refine ij (ol (by simp)) ?_;have i:(alt Q U).inits=Q.inits:=rfl;rw[i];split <;>first |exact nl e _ _ _ _ (λ_ h=>by cases h) _|exact aS (λ_ _ _ h=>by cases h) rfl)
def mW{d f cs c x u e}(g:(invoke d.target d.args).runT (alt Q U) w #[]=(SL x u,e))(b:Dead x)(a:¬ Big e):iN (SI (alt Q U) f cs c d w):=by
 refine KN (eQ (λ_ _ _ h=>by cases h) rfl) ?_;rw[g];cases x;case blocked=>exact dj (aN av) (oF (by simp))
 case waiting=>exact dj (aN av) (oF (by simp))
 case unsupported v=>
  all_goals exact dj (aN a) (eQ (λ_ _ _ h=>by cases h) rfl)
 case stuck m=>exact dj (aN a) (eQ (λ_ _ _ h=>by cases h) rfl)
 all_goals exact b.elim
def vm(T:Twin Q U)(y:dY (alt Q U)){d z cs t}(j:∀d,t=some d->d.calling=true)(s:an w)(h:bg h0 w w'):fW h0 Q U (SI (alt Q U) z cs t d w) (SI Q z cs t d w'):=by
 rcases gN (nh y d.target d.args) s h with⟨x,u,e,p,q,l⟩|⟨r,u,u',e,p,C,i⟩
 exact(mW p q l).pat;have A:=cf (eH y d.target d.args).st w #[] s;rw[p]at A;rcases xD (n9 (U:=U) T d.target d.args) w w' #[] s h av with k|⟨f,g,D,F,k,G,l⟩|⟨x,D,F,k,q,l⟩
 rotate_left
 unfold SI;refine ij (aS (λ_ _ _ h=>by cases h) rfl) ?_;rw[k];refine⟨λH I E B _=> ?_,λh=>h⟩;cases B;exact .inl ⟨f,g,_,rfl,G,rfl,j⟩;exact(mW k q l).pat;unfold SI;refine ij (aS (λ_ _ _ h=>by cases h) rfl) ?_;rw[<- k,p,C];simp only[iW];cases r with
 |ok n=>
  dsimp only[oo];refine bR ?_;cases n;case enter f g=>exact nl i _ _ _ _ j _
  case recover=>
   dsimp only;split <;>exact bc i
  case callThen d a b c=>dsimp only;unfold Frame.ofExtern;rw[lJ];exact bc i
  case row r a=>dsimp only;unfold U6;rw[lJ];exact bc i
  case coroswitch c e=>cases e<;>exact aS (λ_ _ _ h=>by cases h) rfl
  case alone b v=>cases b<;>exact aS (λ_ _ _ h=>by cases h) rfl
  all_goals first
   |exact bc i
   |exact aS (λ_ _ _ h=>by cases h) rfl
 |error x=>
  dsimp only[oo];cases x;case fatal m=>exact bR (wn A i)
  case throw m=>exact bR (bc i)
  all_goals
   refine bR ?_;first
    |exact bc i
    |exact aS (λ_ _ _ h=>by cases h) rfl
theorem EW(P){c b}(fn tmps):bU P c b (results fn tmps):=by
 refine @aX _ _ _ _ _ _ _ _ (@Dt _ _ _ _ _ _ _ (λa=> ?_) _) λ_=>zq2
 split <;>exact zq2
def En(T:Twin Q U)(C:dY (alt Q U)){j i cs q}(k:∀d,q=some d->d.calling=true)(s:an w)(h:bg h0 w w'):fW h0 Q U (unwind (alt Q U) j i cs q w) (unwind Q j i cs q w'):=by
 unfold unwind;cases y:i.defers with
 |cons x D=>
  have⟨B,E⟩:=x;cases B with
  |collected b=>
   dsimp only;rw[<- ic (zq2:Sm Q (ax U) (Th b))];rcases gN (kM (zq2:bU (alt Q U) true false (Th b))) s h with⟨x,u,e,f,y,v⟩|⟨r,u,u',e,f,l,m⟩
   refine iN.pat ?_;rw[f];exact dj (aN v) (eQ (λ_ _ _ h=>by cases h) rfl);rw[f,l];simp only[iW];cases r with
   |ok n=>exact bR (bc m)
   |error x=>exact bR (aS (λ_ _ _ h=>by cases h) rfl)
  |_=>exact vm T C k s h
 |nil=>
  dsimp only;cases i.mode with
  |run=>exact aS (λ_ _ _ h=>by cases h) rfl
  |panicking g=>
   dsimp only;rw[Dl];refine ij (aS (λ_ _ _ h=>by cases h) rfl) ?_;cases cs with
   |cons c cs=>exact bc h
   |nil=>
    dsimp only;cases q with
    |none=>
     dsimp only;refine ij (ol (by simp)) ?_;have z:isRuntimeError (alt Q U)=isRuntimeError Q:=rfl;rw[<- km (zq2:Sm Q (ax U) (reportChain g false)) w'];rcases uN (kM (zq2:bU (alt Q U) true false (reportChain g false))) s h with⟨x,u,f,y⟩|⟨r,u,u',f,l,m⟩
     rw[f];cases x<;>exact aS (λ_ _ _ h=>by cases h) rfl;rw[f,l];cases r with
     |ok a=>exact bc m
     |error x=>cases x<;>exact aS (λ_ _ _ h=>by cases h) rfl
    |some d=>
     dsimp only;split <;>first |(unfold endPrinting;dsimp only;have z:(alt Q U).info?=Q.info?:=rfl;have f:(alt Q U).rt=Q.rt:=rfl;rw[z,f];split <;>first |exact bc h|exact aS (λ_ _ _ h=>by cases h) rfl)|exact aS (λ_ _ _ h=>by cases h) rfl
  |returning=>
   dsimp only;rw[iG];cases Q.funcs[i.fn]? with
   |none=>exact oz T h k
   |some p=>
    dsimp only[T5];have A:results (ax U i.fn p) i.tmps=results p i.tmps:=by
     unfold results;rw[qs]
    rw[A];have t:Sm Q (ax U) (results p i.tmps):=by
     unfold results;refine @ji _ _ _ _ _ _ (@Dy _ _ _ _ _ (λ_=> ?_) _) λ_=>zq2
     split <;>first |exact zq2|exact @ji _ _ _ _ _ _ zq2 λ_=>zq2
    rw[<- ic (U:=U) t w' #[]];rcases gN (kM (EW (alt Q U) p i.tmps)) s h with⟨x,u,e,f,y,v⟩|⟨r,u,u',e,f,l,m⟩
    refine iN.pat ?_;rw[f];cases x<;>exact dj (aN v) (eQ (λ_ _ _ h=>by cases h) rfl);rw[f,l];simp only[iW];cases r with
    |ok n=>exact bR (oz T m k)
    |error x=>cases x<;>exact bR (aS (λ_ _ _ h=>by cases h) rfl)
end
end
section
open Go.Conc
open Go.ConcN (sumTo upd sumTo_upd upd_ne upd_same)
variable[aD]
section
variable{Q:SE}{U:Nat->Option Code}{x x':GStep}{w w' u u':Sx}{h0:Array Obj}
def JM(T:Twin Q U)(i:dY (alt Q U)){j cs k}(g:∀d,k=some d->d.calling=true)(m:an w)(h:bg h0 w w'):fW h0 Q U (stepG.oper (alt Q U) true j cs k w) (stepG.oper Q true j cs k w'):=by
 unfold stepG.oper;split;exact aS (λ_ _ _ h=>by cases h) rfl;split;rename_i l c s t;have e:∀d,oK d->bU (alt Q U) true false (Instr.deferInRound l d):=λd p=>kl _ l d p
 refine kv i (.inl ?_) (ga ..) (eM zq2) g m h;unfold resolve;cases c.callee with
 |builtin b=>exact(@aX _ _ _ _ _ _ _ _ (e _ (by exact trivial)) λ_=>zq2).st
 |invoke r n=>exact(@aX _ _ _ _ _ _ _ _ (e _ (by exact trivial)) λ_=>zq2).st
 |value f=>
  dsimp only;cases j.eval f;case func q a b=>exact(@aX _ _ _ _ _ _ _ _ (e _ (by exact trivial)) λ_=>zq2).st
  case nilFunc=>exact(@aX _ _ _ _ _ _ _ _ (e _ (by exact trivial)) λ_=>zq2).st
  all_goals trivial
 exact kv i (ER i ..) (gY i ..) (Ez T ..) g m h
def pf(T:Twin Q U){a b cs f}(g:∀d,f=some d->d.calling=true)(k:an w)(h:bg h0 w w')(l j)(s:∀c,j=some c->cT c=true):fW h0 Q U (Sy (seen (alt Q U) b.fn ((SN l j).runT (alt Q U) w #[]).2) (match((SN l j).runT (alt Q U) w #[]).1 with
 |Tk v w=>doReturn (alt Q U) a b cs f v w
 |SL _ w=>T4 (Ty "range over a function: no such loop" (b.pos (alt Q U))) w))
 (Sy (seen Q b.fn ((SN l j).runT Q w' #[]).2) (match((SN l j).runT Q w' #[]).1 with
  |Tk v w=>doReturn Q a b cs f v w
  |SL _ w=>T4 (Ty "range over a function: no such loop" (b.pos Q)) w)):=by
 rw[<- ic (zq2:Sm Q (ax U) (SN l j)) w' #[]];rcases gN (.inl (jx (alt Q U) l j s).st) k h with⟨x,u,e,i,t,q⟩|⟨r,u,u',e,i,m,p⟩
 refine iN.pat ?_;rw[i];exact dj (aN q) (eQ (λ_ _ _ h=>by cases h) rfl);simp only[i,m,iW];cases r with
 |ok n=>exact bR (oz T p g)
 |error x=>exact bR (aS (λ_ _ _ h=>by cases h) rfl)
def Ki(T:Twin Q U)(A:dY (alt Q U)){z j cs L}(n:∀d,L=some d->d.calling=true)(s:an w)(h:bg h0 w w')(N:dg j):fW h0 Q U (stepG.exec (alt Q U) z true j cs L w) (stepG.exec Q z true j cs L w'):=by
 unfold stepG.exec;dsimp only;cases M:j.todo with
 |nil=>
  dsimp only;cases j.roundOf with
  |none=>exact bc h
  |some l=>exact pf T n s h _ _ nofun
 |cons it y=>
  cases it with
  |code c=>
   cases c with
   |ret=>
    dsimp only;cases j.roundOf with
    |none=>exact bc h
    |some l=>exact pf T n s h _ _ λc G=>by cases G;rfl
   |exit q=>
    dsimp only;cases exitTo q y with
    |some k=>exact bc h
    |none=>
     dsimp only[Option.elim];cases j.roundOf with
     |none=>exact aS (λ_ _ _ h=>by cases h) rfl
     |some l=>exact pf T n s h _ _ λc G=>by cases G;rfl
   |goto q=>
    dsimp only;cases gotoIn q y with
    |some k=>exact bc h
    |none=>
     dsimp only[Option.elim];cases j.roundOf with
     |none=>exact aS (λ_ _ _ h=>by cases h) rfl
     |some l=>exact pf T n s h _ _ λc G=>by cases G;rfl
   |rangeFunc f m g p=>
    dsimp only;have v:cT g=true/\cT p=true:=by
     simpa[jM,cT]using N.1 (.code (.rangeFunc f m g p)) (by rw[M];simp)
    have R:=cf (cP (mk:=true) (alt Q U) j.fn j.tmps m g p j.roundOf v.1 v.2).st w #[] s;rw[<- ic (zq2:Sm Q (ax U) (TQ j.fn j.tmps m g p j.roundOf)) w' #[]];rcases gN (kM (cP (mk:=false) (alt Q U) j.fn j.tmps m g p j.roundOf v.1 v.2)) s h with⟨x,u,e,t,P,I⟩|⟨r,u,u',e,t,E,B⟩
    refine iN.pat ?_;rw[t];exact dj (aN I) (eQ (λ_ _ _ h=>by cases h) rfl);rw[t]at R;rw[t,E];simp only[iW];cases r with
    |ok a=>
     have⟨l,S⟩:=a;exact bR (kv A (um A ..) (@aX _ _ _ _ _ _ _ _ zq2 λd=>eH A ..) (nY zq2 zq2 λd=>n9 T ..) n R B)
    |error x=>exact bR (aS (λ_ _ _ h=>by cases h) rfl)
   |region q K W=>
    dsimp only;refine ij (bc h) ?_;have h1:(choose (TU j.fn q)).run (alt Q U) w=((choose (TU j.fn q)).runT (alt Q U) w #[]).1:=by rw[Tw]
    have X:(choose (TU j.fn q)).run Q w'=((choose (TU j.fn q)).runT (alt Q U) w' #[]).1:=by rw[ic (zq2:Sm Q (ax U) (choose (TU j.fn q))),Tw]
    have Z:(alt Q U).follows .mixedOrders=Q.follows .mixedOrders:=rfl;rw[h1,X,Z];rcases gN (kM (zq2:bU (alt Q U) true false (choose (TU j.fn q)))) s h with⟨x,u,e,t,P,I⟩|⟨r,u,u',e,t,E,B⟩
    rw[t];exact aS (λ_ _ _ h=>by cases h) rfl;rw[t,E];cases r with
    |ok a=>exact bc B
    |error x=>exact aS (λ_ _ _ h=>by cases h) rfl
   |cond c a b=>
    dsimp only;split <;>first |exact bc h|exact aS (λ_ _ _ h=>by cases h) rfl
   |refuse why=>exact aS (λ_ _ _ h=>by cases h) rfl
   |_=>exact bc h
  |inRangeFunc q=>exact aS (λ_ _ _ h=>by cases h) rfl
  |beginRound=>
   cases hro:j.roundOf with
   |none=>
    refine kv A (.inl ?_) ?_ (eM ?_) n s h<;>first |trivial|exact⟨trivial⟩|exact @ji _ _ _ _ _ _ (Jf ..) λ_=>zq2
   |some l=>
    exact kv A (.inl (@aX _ _ _ _ _ _ _ _ (dR (mk:=false) (alt Q U) l) λ_=>zq2).st) (@aX _ _ _ _ _ _ _ _ (dR _ l) λ_=>zq2) (eM (@ji _ _ _ _ _ _ (rZ _ _ l) λ_=>zq2)) n s h
  |call d a b c=>exact(N.1 (.call d a b c) (by rw[M];simp)).elim
  |extern D F=>
   have C:D=printRow:=N.1 (.extern D F) (by rw[M];simp);subst C;dsimp only;rw[nk];exact kv A (.inl (lj (dy:=true) (mk:=false) (alt Q U) ..).st) (lj (alt Q U) ..) (eM (Jg ..)) n s h
  |endRangeFunc l=>
   dsimp only;rw[<- ic (zq2:Sm Q (ax U) (TF l)) w' #[]];rcases gN (kM (zq2:bU (alt Q U) true false (TF l))) s h with⟨x,u,e,t,P,I⟩|⟨r,u,u',e,t,E,B⟩
   refine iN.pat ?_;rw[t];cases x<;>first |exact P.elim|exact dj (aN I) (eQ (λ_ _ _ h=>by cases h) rfl)
   rw[t,E];simp only[iW];cases r with
   |ok a=>exact bR (bc B)
   |error x=>cases x<;>first |exact bR (bc B)|exact bR (aS (λ_ _ _ h=>by cases h) rfl)
  |inRegion K H=>
   cases H with
   |nil=>exact bc h
   |cons i is=>
    dsimp only;exact ij (JM T A n s h) (bc h)
  |inBlock q=>exact bc h
  |inScope q=>exact bc h
  |inLoop q=>exact bc h
def Ce{g d f}(m:an w)(h:bg h0 w w'):fW h0 Q U (writeOn (alt Q U) g d f w) (writeOn Q g d f w'):=by
 rw[<- Cg (U:=U) g d f w'];unfold writeOn;split;exact aS (λ_ _ _ h=>by cases h) rfl;rename_i j c _;dsimp only;have H:∀s:Sem Unit,bU (alt Q U) true false s->fW h0 Q U (match s.runT (alt Q U) w #[]with
  |(Tk _ w,k)=>SU {frame:=g,callers:=[],status:=Su,dying:=some {d with fatal:=some {f with pieces:=c,begun:=true}}} w k
  |(SL .blocked w,_)=>SU {frame:=g,callers:=[],status:= .blocked,dying:=some {d with fatal:=some f}} w #[]
  |(SL (Te u) w,_)=>T4 (Td u "") w
  |(SL _ w,_)=>T4 (Ty "the report of a fatal error" "") w) (match s.runT (alt Q U) w' #[]with
  |(Tk _ w,k)=>SU {frame:=g,callers:=[],status:=Su,dying:=some {d with fatal:=some {f with pieces:=c,begun:=true}}} w k
  |(SL .blocked w,_)=>SU {frame:=g,callers:=[],status:= .blocked,dying:=some {d with fatal:=some f}} w #[]
  |(SL (Te u) w,_)=>T4 (Td u "") w
  |(SL _ w,_)=>T4 (Ty "the report of a fatal error" "") w):=by
  intro s t;rcases gN (kM t) m h with⟨x,u,e,l,z,y⟩|⟨r,u,u',e,l,p,q⟩
  .rw[l];cases x;case blocked=>exact ol (by simp)
   all_goals exact aS (λ_ _ _ h=>by cases h) rfl
  .rw[l,p];cases r with
   |ok a=>exact bc q
   |error x=>
    cases x;case blocked=>exact ol (by simp)
    all_goals exact aS (λ_ _ _ h=>by cases h) rfl
 refine H _ ?_;have i:∀b:ByteArray,bU (alt Q U) true false (do
  match<- sys (.write 2 b)with
  | .int n=>if n !=b.size then unsupported (TK "a report that its descriptor cannot take whole")
  | .err _=>pure ()
  |_=>unsupported (TK "a report that its descriptor cannot take whole"):Sem Unit):=by
  intro b;refine⟨⟨⟨_,rfl,trivial⟩,λv=> ?_⟩⟩;cases v<;>first
   |trivial
   |(
    show cw (alt Q U) true false (if _ then _ else _);split <;>trivial)
 repeat' (first
  |exact zq2
  |exact i _
  |(refine @aX _ _ _ _ _ _ _ _ ?_ λ_=> ?_)
  |(refine @vI _ _ _ _ _ _ _ _ _ ?_ ?_)
  |split
  |(intro _)
  |dsimp only)
def FC(w b t o):∀g u a,endWith w b t o≠SU g u a:=by
 intro g u a h;unfold endWith at h;grind
def MC(T:Twin Q U)(E:dY (alt Q U)){A d}(p:an w)(h:bg h0 w w'):fW h0 Q U (die (alt Q U) A d w) (die Q A d w'):=by
 unfold die;split;exact Ce p h;split;have z:printLockHeld Q w'=printLockHeld (alt Q U) w:=by
  unfold printLockHeld;rw[h.cell];rfl
 rw[z];exact ij (ol (by simp)) (aS (FC _ _ _ _) (FD ..));rw[rP];split
 .exact bc h
 .rename_i s _;rw[<- km (zq2:Sm Q (ax U) (withAddress s)) w'];rcases uN (kM (zq2:bU (alt Q U) true false (withAddress s))) p h with⟨x,u,b,l⟩|⟨r,u,u',b,y,j⟩
  rw[b];exact aS (λ_ _ _ h=>by cases h) rfl;rw[b,y];cases r with
  |ok a=>exact bc j
  |error x=>exact aS (λ_ _ _ h=>by cases h) rfl
 .rename_i t i g _;rcases xD (n9 (U:=U) T (.fn (.method g) #[]) #[TJ t i]) w w' #[] p h av with k|⟨f,c,D,H,k,G,m⟩|⟨x,D,H,k,l,m⟩
  rotate_left
  .rw[k];refine⟨λI K C B _=> ?_,λh=>h⟩;cases B;exact .inl ⟨f,c,_,rfl,G,rfl,λF q=>by grind⟩
  .refine iN.pat ?_;rw[k];cases x;case panic v=>exact l.elim
   all_goals exact dj (aN m) (eQ (λ_ _ _ h=>by cases h) rfl)
  rw[<- k];rcases gN (nh E (.fn (.method g) #[]) #[TJ t i]) p h with⟨x,u,e,b,l,m⟩|⟨r,u,u',e,b,y,j⟩
  .refine iN.pat ?_;rw[b];cases x;case panic v=>exact l.elim
   all_goals exact dj (aN m) (eQ (λ_ _ _ h=>by cases h) rfl)
  .rw[b,y];simp only[iW];cases r with
   |ok n=>
    refine bR ?_;cases n;case enter f c=>exact nl j _ _ _ _ λF q=>by grind _
    case value u=>cases u<;>first |exact bc j|exact aS (λ_ _ _ h=>by cases h) rfl
    all_goals exact aS (λ_ _ _ h=>by cases h) rfl
   |error x=>
    refine bR ?_;cases x;case panic v=>
     simp[oo,endPrinting];have z:(alt Q U).info?=Q.info?:=rfl;have b:(alt Q U).rt=Q.rt:=rfl;rw[z,b];split <;>first |exact bc j|exact aS (λ_ _ _ h=>by cases h) rfl
    all_goals exact aS (λ_ _ _ h=>by cases h) rfl
 .exact aS (λ_ _ _ h=>by cases h) rfl
def Gl(T:Twin Q U)(p:dY (alt Q U))(k){g}(q:an w)(h:bg h0 w w')(r:(∀d,g.dying=some d->d.calling=true)->dg g.frame):fW h0 Q U (stepG (alt Q U) k g w) (stepG Q k g w'):=by
 have⟨B,z,A,s,v⟩:=g;unfold stepG;dsimp only at r ⊢;have l:(∀a b c e f i,s=some ⟨a,b,false,c,e,f,i⟩->False)->∀d,s=some d->d.calling=true:=λn d m=>by
  cases y:d.calling with
  |true=>rfl
  |false=>
   have⟨a,b,c,e,f,i,j⟩:=d;subst y;grind
 split <;>first |exact MC T p q h|(rename_i n t;exact Ki T p (l λa b c e f i m=>n _ _ _ _ _ _ m) q h (r (l λa b c e f i m=>n _ _ _ _ _ _ m)))|(rename_i n t;exact En T p (l λa b c e f i m=>n _ _ _ _ _ _ m) q h)
structure Lx(h0:Array Obj)(Q:SE)(g:Sv)(w:Sx)(m:Machine)(t:Trace):Prop where
 is:∃gs sl q w',m=crowd gs w' sl/\bg h0 (ah w w'.tape w'.drawn) w'/\gs[0]?=some g/\Leavers Q t gs q
 held:Held t
 hears:Deaf t 0=0
def Calm(a:Array Tc):Prop:=∀e∈a,e.loc≠Tt TI/\e.loc≠Tt TV
def Calm.deaf{b}(h:Calm b){t fn a}:Deaf (t++Sz 0 fn a b) 0=Deaf t 0:=by
 rw[Deaf_own,deafBehind_still h]
def Oi(P:SE):Prop:=∀g w a c b,Iv g w->stepG P true g w=SU a c b->a.status=Su->SG 0 b=0
variable{K:Sv->Sx->Prop}
def zV(T:Twin Q U)(TM:bz (alt Q U))(hβ:∀f c,U f=some c->∃why,c= .refuse why)(hnc:¬ aD.cm)(hush:Oi (alt Q U))
 (hKr:∀g w,K g w->g.status=Su) (hKf:∀g w,K g w->¬ qc Q U g) {g w} (h:Tree (alt Q U) K g w):Iv g w->∀m t,Lx h0 Q g w m t->Runs Q m t λm' t'=>∃s w',K s w'/\Iv s w'/\Lx h0 Q s w' m' t':=by
 induction h with
 |stop hK=>exactλhI m t hF=>.here ⟨_,_,hK,hI,hF⟩
 | @step g w G W E hr hone S ih=>
  intro hI m t hF;obtain⟨⟨d,sl,q,w',rfl,hp,k0,F⟩,hH,hD⟩:=hF;have key:∀M d sl q w' t,sumTo d.size q=M->bg h0 (ah w w'.tape w'.drawn) w'->d[0]?=some g->Leavers Q t d q->Held t->Deaf t 0=0->Runs Q (crowd d w' sl) t λm' t'=>∃s w',K s w'/\Iv s w'/\Lx h0 Q s w' m' t':=by
   intro M;induction M using Tb with
   |ind M ihM=>
   intro d sl q w' t hM hp h0 F hH hD;have haw:∀x∈d,awake x:=by
    intro x X;obtain⟨i,Z,rfl⟩:=Tp.1 X;rcases Tg i with rfl|p
    have:d[0]=g:=by grind
    rw[this];exact awake_of (.inl hr);exact awake_of ((F.old i _ p (SH Z)).status.elim .inl λx=>.inr (.inr x))
   have⟨i,x,b,v,Z,X,H⟩:=crowd_pick (P:=Q) (w:=w') (sl:=sl) haw ⟨0,g,h0,hr⟩;have hat:w'.at b=ah w' w'.tape b:=rfl;rw[hat]at H;have hp':bg _ (ah w w'.tape b) (ah w' w'.tape b):=hp.ah w'.tape b;rcases Tg i with rfl|p
   .obtain rfl:x=g:=by rw[h0]at Z;grind
    have B:Iv x (ah w w'.tape b):=fE hI ..;by_cases l:Big (stepG (alt Q U) true x (ah w w'.tape b)).es;exact l.elim;have htr:=S w'.tape b l;cases hone w'.tape b l with
    |comm hc _=>
     exfalso;rcases ou TM B with⟨_,_,_,e,_⟩|⟨_,_,_,_,_,_,_,_,hcm⟩|⟨_,_,_,e⟩<;>grind
    |go hg=>
     have hru:(G w'.tape b).status=Su:=by
      cases htr<;>grind
     rcases(Gl T TM.todY true B.1 hp' (wI hI)).1 _ _ _ hg hru with n|⟨w1',hgQ,r⟩
     exfalso;cases htr with
     |stop hK=>exact hKf _ _ hK n
     |step G2 W2 E2 hr2 I htree2=>
      have⟨o,he⟩:=wR hβ n (ah (W w'.tape b) w'.tape 0);cases I w'.tape 0 av with
      |go A=>rw[he]at A;cases A
      |comm A _=>rw[he]at A;cases A
     refine Runs.step (H.trans (runT_crowd_go (P:=Q) (sl:=v) (i:=0) h0 (show stepG Q (0==0) x (ah w' w'.tape b)=_ from hgQ))) (ih w'.tape b l (nI TM B (.go hg)) _ _ ⟨⟨_,v,q,w1',rfl,⟨r.size,rfl,rfl,r.os,r.output,r.blk,r.keep⟩,by simp[(AS.1 h0).1],?_⟩,hH.own λL a=>by obtain⟨e,_,rfl⟩:=Sw a;rfl,by rw[Deaf_own,hD];exact hush _ _ _ _ _ B hg hru⟩);refine⟨λj y D N=> ?_,λj D=> ?_⟩;have hne:0≠j:=by omega
     rw[AI hne,SC]at N;obtain⟨z,A,rfl⟩:=SD.1 N;have hq:=F.old j z D A;rw[woken_quitsD hq,Deaf_other t (by omega) _ λL a=>by obtain⟨e,_,rfl⟩:=Sw a;rfl];omega;rw[Deaf_other t (g':=0) (by grind) _ λL a=>by obtain⟨e,_,rfl⟩:=Sw a;rfl];exact F.above j (by simpa using D)
   .
    have hq:=F.old i x p Z;have hi0:(i==0)=false:=by simp;omega
    have hlt:i<d.size:=(AS.1 Z).1;cases R:q i with
    |zero=>rw[R]at hq;rw[hq.1]at X;cases X
    |succ k=>
     rw[R]at hq;rcases hq with⟨hf,_⟩|⟨_,s,es,hm,hstp,hq'⟩
     rw[hf]at X;cases X;have hsz:((d.map (woken Q x s (ah w' w'.tape b))).setIfInBounds i s).size=d.size:=by simp
     have hsum:sumTo d.size (upd q i k)+(k+1)=sumTo d.size q+k:=by
      have:=sumTo_upd q k id hlt;simpa[R]using this
     refine Runs.step (H.trans (runT_crowd_go (P:=Q) (sl:=v) (i:=i) Z (by rw[hi0];exact hstp (ah w' w'.tape b)))) (ihM (sumTo d.size (upd q i k)) (by rw[<- hM];omega) _ v (upd q i k) (ah w' w'.tape b) _ (by rw[hsz]) hp' ?_ ?_ (hH.mute (g:=i) (by omega) λL a=>by obtain⟨e,_,rfl⟩:=Sw a;rfl λL a=>by obtain⟨e,he,rfl⟩:=Sw a;exact touch_mute (hm e he)) ((Deaf_other t (show i≠0 by omega) _ λL a=>by obtain⟨e,_,rfl⟩:=Sw a;rfl).trans hD))<;>first |(rw[AI (by omega),SC,h0];simp[woken_run hr])|refine⟨λj y D N=> ?_,λj D=> ?_⟩<;>first |by_cases C:i=j<;>first |(subst C;rw[SO (by simpa using hlt)]at N;obtain rfl:=Option.some.inj N;rw[upd_same,Deaf_own];exact hq')|(rw[AI C,SC]at N;obtain⟨z,A,rfl⟩:=SD.1 N;have hqj:=F.old j z D A;rw[woken_quitsD hqj,upd_ne q k (Uf C),Deaf_other t C _ λL a=>by obtain⟨e,_,rfl⟩:=Sw a;rfl];exact hqj)|(rw[Deaf_other t (g':=i) (by simp at D;omega) _ λL a=>by obtain⟨e,_,rfl⟩:=Sw a;rfl];exact F.above j (by simpa using D))
  exact key _ d sl q w' t rfl hp k0 F hH hD
end
open Classical in
noncomputable def dQ(o:Obj):Obj:=if pE o\/(∃c t,o= .pending c t)\/(∃c,o=Ta c)then o else Ta none
noncomputable def strike(w:Sx):Sx:= {w with heap:=w.heap.map dQ}
def kF(w)(i:Nat):(strike w).heap[i]?=w.heap[i]?.map dQ:=by
 show(w.heap.map dQ)[i]?=_;rw[SC]
def Eu(w):bg w.heap (strike w) w:=by
 have b:∀o,dQ o=o\/dQ o=Ta none/\((∃l,o= .loop l)\/∃d,o=TP d):=λo=>by
  unfold dQ;split;exact .inl rfl;rename_i a;refine .inr ⟨rfl,?_⟩;cases o;case loop l=>exact .inl ⟨l,rfl⟩
  case deferred d=>exact .inr ⟨d,rfl⟩
  case pending c t=>exact absurd (.inr (.inl ⟨c,t,rfl⟩)) a
  case coro c=>exact absurd (.inr (.inr ⟨c,rfl⟩)) a
  all_goals exact absurd (.inl trivial) a
 refine⟨by simp[strike],rfl,rfl,rfl,rfl,λi=> ?_,λi _=>rfl⟩;rw[kF];grind
def NoWait(h:Array Obj):Prop:=∀(i:Nat)(c:Array TG)(t:TypeId),h[i]?=some (.pending c t)->aD.lim<=i
def Gj{w}(b:NoWait w.heap):an (strike w):=by
 intro r o a;rw[kF]at a;obtain⟨x,d,rfl⟩:=SD.1 a;unfold dQ;split;rename_i h;rcases h with h|⟨c,t,rfl⟩|h<;>first |exact .inl h|exact .inr (.inl ⟨⟨c,t,rfl⟩,b r c t d⟩)|exact .inr (.inr h)
 exact .inr (.inr ⟨_,rfl⟩)
def bg.same{b c a}(d:bg b.heap c a){i:Nat}(g:c.heap[i]?=(strike b).heap[i]?):a.heap[i]?=b.heap[i]?:=by
 have h:=(Eu b).blk i;by_cases f:c.heap[i]?=some (Ta none);exact d.keep i f;rcases d.blk i with e|⟨e,_⟩<;>grind
def bg.cells{h0 b a}(h:bg h0 b a){i:Nat}{c t f}:a.heap[i]?=some (Tl c t f)↔b.heap[i]?=some (Tl c t f):=by
 rcases h.blk i with e|⟨e,⟨l,d⟩|⟨l,d⟩⟩<;>grind
end
section
open Go.Conc
def Ev(a:Array Tc):Prop:=∀e∈a,e.loc=Tt TI\/e.loc=Tt TV->e.sync=true
def Ih:Ev #[]:=λe a=>by simp at a
def rp(d a b):SG d (a++b)=SG (SG d a) b:=by
 simp[SG]
theorem deaf_push(d a e):SG d (a.push e)=SG (SG d a) #[e]:=by
 simp[<- rp]
theorem rn{e}(a:e.loc≠Tt TI)(b:e.loc≠Tt TV)(d):SG d #[e]=d:=deafBehind_still (λx c=>by
 grind) d
structure tj(n:Nat)(es:Array Tc):Prop where
 ev:Ev es
 deaf:SG 0 es=n
def tj.push{n b}(h:tj n b){e}(c:e.loc≠Tt TI)(d:e.loc≠Tt TV):tj n (b.push e):=by
 refine⟨λx a f=> ?_,by rw[deaf_push,h.deaf,rn c d]⟩;rcases TX.1 a with a|rfl
 exact h.ev x a f;grind
def tj.cells{n c}(h:tj n c){l:List Addr}{w a}:tj n (c++l.toArray.map (⟨.cell ·,w,a⟩)):=by
 refine⟨λx b d=> ?_,?_⟩;rcases Array.mem_append.1 b with b|b
 exact h.ev x b d;grind
 rw[rp,h.deaf];refine deafBehind_still (λx b=> ?_) n;grind
def ur(w:Sx)(a s):C5 (w.noCell a s):=by
 unfold World.noCell;split <;>exact trivial
def Hj{P}{w:Sx}{a b h}(e:w.farLoad P a b=SW h):C5 h:=by
 unfold World.farLoad at e;split at e;split at e;cases e;cases e;exact trivial;cases e;exact ur ..
def Fc{P}{w:Sx}{a v b h}(e:w.farStore P a v b=SW h):C5 h:=by
 unfold TS at e;split at e;split at e;cases e;cases e;exact trivial;cases e;exact ur ..
def j7{l P}{s:Sem l}:∀n,ia P n s->∀w f,tj n f->
 (∃a i,(s.runT P w f).1=Tk a i/\tj 0 (s.runT P w f).2)\/∃h i,(s.runT P w f).1=SL h i/\Ev (s.runT P w f).2/\(C5 h\/tj 0 (s.runT P w f).2):=by
 induction s with
 |pure a=>exactλn h w f b=>.inl ⟨a,w,rfl,by cases h;exact b⟩
 |halt x=>exactλn h w f b=>.inr ⟨x,w,rfl,b.ev,h.elim (λe=>.inr (by simp_all)) .inl⟩
 |load m a k d=>
  intro n h w f b;simp only[SK];split;exact d _ _ (h _) _ _ (b.push nofun nofun);split <;>first |exact d _ _ (h _) _ _ b.cells|(rename_i e;exact .inr ⟨_,_,rfl,b.ev,.inl (Hj e)⟩)
 |store m a v k d=>
  intro n h w f b;cases v;all_goals simp only[SK]
  case agg=>exact .inr ⟨_,_,rfl,b.ev,.inl trivial⟩
  case tuple=>exact .inr ⟨_,_,rfl,b.ev,.inl trivial⟩
  all_goals
   split;split <;>first |exact .inr ⟨_,_,rfl,b.ev,.inl trivial⟩|exact d _ h _ _ (b.push nofun nofun)
   split <;>first |exact d _ h _ _ b.cells|(rename_i e;exact .inr ⟨_,_,rfl,b.ev,.inl (Fc e)⟩)
 |new o k d=>exactλn h w f b=>d _ _ (h _) _ _ b
 |shape r k d=>exactλn h w f b=>d _ _ (h _) _ _ b
 |freeze a c k d=>exactλn h w f b=>d _ h _ _ b
 |frozen a k d=>exactλn h w f b=>d _ _ (h _) _ _ b
 |getObj r k d=>
  intro n h w f b;simp only[SK];split <;>first |exact .inr ⟨_,_,rfl,b.ev,.inl trivial⟩|exact d _ _ (h _) _ _ (b.push (by simp) (by simp))
 |setObj r o k d=>
  intro n h w f b;simp only[SK];split <;>first |exact .inr ⟨_,_,rfl,b.ev,.inl trivial⟩|exact d _ h _ _ (b.push (by cases o.isChan<;>simp) (by cases o.isChan<;>simp))
 |choose q k d=>
  intro n h w f b;simp only[SK];split;exact d _ _ (h _) _ _ b;exact d _ _ (h _) {w with drawn:=w.drawn+1} _ b
 |sys c k d=>exactλn h w f b=>d _ _ (h _) _ _ (b.push nofun nofun)
 |program k d=>exactλn h w f b=>d P _ h _ _ b
 |mark m k d=>
  intro n h w f b;cases m;case disable=>exact d _ h _ _ ⟨λx g j=>by
   rcases TX.1 g with g|rfl
   exact b.ev x g j;rfl,by rw[deaf_push,b.deaf];rfl⟩
  case enable=>exact d _ h.2 _ _ ⟨λx g j=>by
   rcases TX.1 g with g|rfl
   exact b.ev x g j;rfl,by rw[deaf_push,b.deaf];rfl⟩
  all_goals exact d _ h _ _ (b.push nofun nofun)
def gP:tj 0 #[]:=⟨Ih,rfl⟩
def dO(P f){g}(h:Ev g):SG 0 (seen P f g)=SG 0 g:=by
 have j:∀(b:FuncId->Bool)(l:List Tc),(∀e∈l,e.loc=Tt TI\/e.loc=Tt TV->e.sync=true)->∀(q:Bool)(a:Array Tc)(d:Nat),SG 0 (l.foldl (seenStep b) (q,a)).2=SG (SG 0 a) l.toArray:=by
  intro b l;induction l with
  |nil=>exactλ_ q a d=>rfl
  |cons e l i=>
   intro k q a d;have m:(e::l).toArray=#[e]++l.toArray:=by simp
   rw[m,rp];have i:=i λx n=>k x (List.mem_cons_of_mem _ n)
   simp[seenStep];split;rename_i s c;refine(i _ _ d).trans ?_;rw[rn (by rw[c];nofun) (by rw[c];nofun)];refine(i _ _ d).trans ?_;by_cases p:e.loc=Tt TI\/e.loc=Tt TV;simp[k e (List.mem_cons_self ..) p,deaf_push];grind [rn,deaf_push]
 rw[seen_def];have:=j (λf=>P.funcs[f]?.any (·.norace)) g.toList (λe r=>h e (Array.mem_toList_iff.1 r)) (P.funcs[f]?.any (·.norace)) #[] 0;refine this.trans ?_;rfl
def eX(x:GStep):Prop:=∀a c b,x=SU a c b->a.status=Su->SG 0 b=0
def bw(g w):eX (SU g w):=λa b c e _=>by cases e;rfl
def bJ{x}(h:∀g u a,x≠SU g u a):eX x:=λb c a e _=>absurd e (h _ _ _)
def j9{g w a}(h:g.status≠Su):eX (SU g w a):=λf d b e c=>by
 grind
def dX{E x}(b:SG 0 E=0)(h:eX x):eX (Sy E x):=by
 intro f c d e a;cases x<;>simp[Sy]at e;have⟨rfl,rfl,rfl⟩:=e;rw[rp,b];exact h _ _ _ rfl a
def cW{E x}(h:∀g u a,x=SU g u a->g.status≠Su):eX (Sy E x):=by
 intro d c a e b;cases x<;>simp[Sy]at e;grind
def j8{c}[Decidable c]{A B}(b:eX A)(a:eX B):eX (if c then A else B):=by
 grind
structure rY(P:SE):Prop where
 ext:∀(f:Nat)(fn:Func),P.funcs[f]?=some fn->fn.body.isNone=true->Uc fn=none/\∀e,U8 fn=some e->∀args,Hu P (e args)
section
variable{P:SE}
theorem huA{a}{s:Sem a}(h:Hu P s:=by
 repeat' (first
  |exact zq2
  |(refine d9 ?_ λ_=> ?_)
  |(refine js ?_ ?_)
  |split
  |(intro _)
  |dsimp only)):Hu P s:=h
theorem pZ(X:rY P)(f args):Hu P (callFunc f args):=by
 cases b:P.funcs[f]? with
 |none=>exact⟨by show ia P 0 (match P.funcs[f]? with |none=>_|some a=>_);rw[b];exact .inl rfl⟩
 |some a=>
  suffices h:Hu P (if(a.name== "runtime.NumGoroutine")=true then pure Next.numGoroutine else
   if a.body.isNone=true then(do
    mark (.extern f)
    if let some e:=Uc a then return<- e args
    match U8 a with
    |some e=>pure (.value (<- e args))
    |none=>
     if a.name.endsWith ".init" && !a.name.startsWith "(" && !a.name.startsWith "gosem." then pure (.value (.tuple #[]))
     else unsupported (.extern a.name))
   else pure (.enter f args)) by
   exact⟨by show ia P 0 (match P.funcs[f]? with |none=>_|some a=>_);rw[b];exact h.hu⟩
  refine js zq2 ?_;cases c:a.body.isNone with
  |false=>simp[Tz];exact zq2
  |true=>
   refine d9 zq2 λ_=> ?_
   rw[(X.ext f a b c).1];cases d:U8 a with
   |some e=>exact d9 ((X.ext f a b c).2 e d args) λ_=>zq2
   |none=>
    dsimp only;split <;>exact zq2
theorem rS(X:rY P)(recv name args):Hu P (callMethod recv name args):=by
 unfold callMethod;cases recv<;>first |exact zq2|(exact d9 zq2 λ_=>d9 zq2 λ_=>pZ X ..)
theorem pi(X:rY P)(t args):Hu P (invoke t args):=by
 unfold invoke;cases t with
 |nil=>exact zq2
 |builtin b a t d=>exact zq2
 |collected r=>exact zq2
 |coroexit c=>exact zq2
 |fn f c=>
  cases f with
  |func f=>exact pZ X ..
  |method n=>
   dsimp only;split <;>first |exact rS X .. |exact zq2
  |methodOf t n=>
   dsimp only;split <;>first |(refine d9 zq2 λ_=> ?_;repeat' (first |exact rS X ..))|exact zq2
  |via t p f q=>
   dsimp only;split <;>first |exact d9 zq2 λ_=>pZ X .. |exact zq2
  |yield l=>exact zq2
theorem ri(a o)(b:∀c,o.op≠.call c):Hu P (T6 a o):=by
 unfold T6;cases h:o.op;case call c=>exact absurd h (b c)
 case nilCheck x=>
  dsimp only;repeat' (first
   |exact zq2
   |split)
 all_goals exact huA
theorem HG(X:rY P)(b o):Hu P (T6 b o):=by
 by_cases a:∃c,o.op= .call c;have⟨c,a⟩:=a;simp[T6,a];exact d9 zq2 λd=>pi X ..
 exact ri b o λc h=>a ⟨c,h⟩
def wK{b cs c m w}:eX (endFatal P b cs c m w):=by
 simp[endFatal];generalize Sem.run P _ w=x;cases x with
 |ok a w=>exact bw _ _
 |halt x w=>cases x<;>exact bJ λ_ _ _ h=>by cases h
variable[aD]
def yR{a:SZ}{e}(h:tj 0 e):SG 0 (seen P a.fn (if(a.kind==TH)=true then #[]else e))=0:=by
 split;exact(dO P _ Ih).trans rfl;exact(dO P _ h.ev).trans h.deaf
def ju(T:dY P){s}(hs:Hu P s)(j:St P s){z cs y w}(p:an w):eX (stepG.apply P true z cs y s w):=by
 simp only[stepG.apply,if_true];have k:=pQ j.st w #[] p;have l:=j7 0 hs.hu w #[] gP;generalize s.runT P w #[]=x at k l ⊢;have⟨r,e⟩:=x;rcases l with⟨n,q,rfl,i⟩|⟨x,q,rfl,t,f⟩
 .refine dX (yR i) ?_;cases n;case recover=>
   dsimp only;split <;>exact bw _ _
  case callThen d a b c=>dsimp only;split <;>exact bw _ _
  case row a b=>dsimp only;split <;>exact bw _ _
  case stack a b=>dsimp only;split <;>exact bw _ _
  case spawn d=>
   exact j8 (bw _ _) (bJ λ_ _ _ h=>by cases h)
  all_goals first
   |exact bw _ _
   |exact bJ λ_ _ _ h=>by cases h
 .cases x;case unsupported v=>
   cases v;case initOrder g=>
    simp[oy T (k _ _ _ rfl)];exact cW λ_ _ _ h=>by cases h
   all_goals exact cW λ_ _ _ h=>by cases h
  case stuck m=>exact cW λ_ _ _ h=>by cases h
  case blocked=>exact cW λg u A h=>by grind
  case waiting=>exact cW λg u A h=>by grind
  all_goals
   rcases f with f|i
   exact f.elim;refine dX (yR i) ?_;first
    |exact bw _ _
    |exact wK
    |exact bJ λ_ _ _ h=>by cases h
def mL{a b cs d v w}:eX (doReturn P a b cs d v w):=by
 unfold doReturn;cases cs with
 |cons c cs=>
  dsimp only;split <;>exact bw _ _
 |nil=>
  dsimp only;split <;>first |exact bw _ _|exact bJ λ_ _ _ h=>by cases h|(refine j8 (j9 (by simp)) ?_;split <;>first |exact bw _ _|exact bJ λ_ _ _ h=>by cases h)
def tV(T:dY P)(X:rY P){k cs p d w}(s:an w):eX (SI P k cs p d w):=by
 refine j8 (bJ λ_ _ _ h=>by cases h) ?_;have i:=j7 0 (pi X d.target d.args).hu w #[] gP;generalize (invoke d.target d.args).runT P w #[]=x at i ⊢;have⟨r,e⟩:=x;rcases i with⟨n,q,rfl,a⟩|⟨x,q,rfl,l,f⟩
 .refine dX ((dO P _ a.ev).trans a.deaf) ?_;cases n;case recover=>
   dsimp only;split <;>exact bw _ _
  case coroswitch c e=>cases e<;>exact bJ λ_ _ _ h=>by cases h
  case alone b v=>cases b<;>exact bJ λ_ _ _ h=>by cases h
  all_goals first
   |exact bw _ _
   |exact bJ λ_ _ _ h=>by cases h
 .cases x;case unsupported v=>cases v<;>exact cW λ_ _ _ h=>by cases h
  case stuck m=>exact cW λ_ _ _ h=>by cases h
  case blocked=>exact cW λg u j h=>by grind
  case waiting=>exact cW λg u j h=>by grind
  all_goals
   rcases f with f|a
   exact f.elim;refine dX ((dO P _ a.ev).trans a.deaf) ?_;first
    |exact bw _ _
    |exact wK
    |exact bJ λ_ _ _ h=>by cases h
theorem wJ(fn tmps):Hu P (results fn tmps):=by
 refine d9 (@Mt _ _ _ _ (λa=> ?_) _) λ_=>zq2
 split <;>exact huA
def D7(T:dY P)(X:rY P){i f cs q w}(u:an w):eX (unwind P i f cs q w):=by
 unfold unwind;cases z:f.defers with
 |cons x v=>
  have⟨s,y⟩:=x;cases s with
  |collected b=>
   dsimp only;have g:=j7 0 (zq2:Hu P (Th b)).hu w #[] gP;generalize (Th b).runT P w #[]=x at g ⊢;have⟨r,e⟩:=x;rcases g with⟨n,k,rfl,j⟩|⟨x,k,rfl,l,t⟩<;>first |exact dX ((dO P _ j.ev).trans j.deaf) (bw _ _)|exact cW λ_ _ _ h=>by cases h
  |_=>exact tV T X u
 |nil=>
  cases f.mode with
  |run=>exact bJ λ_ _ _ h=>by cases h
  |panicking m=>
   refine j8 (bJ λ_ _ _ h=>by cases h) ?_;cases cs with
   |cons c cs=>exact bw _ _
   |nil=>
    cases q with
    |none=>
     refine j8 (j9 (by simp)) ?_;generalize Sem.run P _ w=x;cases x with
     |ok a w=>exact bw _ _
     |halt x w=>cases x<;>exact bJ λ_ _ _ h=>by cases h
    |some d=>
     dsimp only;split <;>first |(simp[endPrinting];split <;>first |exact bw _ _|exact bJ λ_ _ _ h=>by cases h)|exact bJ λ_ _ _ h=>by cases h
  |returning=>
   cases P.funcs[f.fn]? with
   |none=>exact mL
   |some p=>
    dsimp only;have g:=j7 0 (wJ (P:=P) p f.tmps).hu w #[] gP;generalize (results p f.tmps).runT P w #[]=x at g ⊢;have⟨r,e⟩:=x;rcases g with⟨n,k,rfl,j⟩|⟨x,k,rfl,l,t⟩<;>first |exact dX ((dO P _ j.ev).trans j.deaf) mL|cases x<;>exact cW λ_ _ _ h=>by cases h
def HJ(T:dY P)(X:rY P){b cs c w}(a:an w):eX (stepG.oper P true b cs c w):=by
 unfold stepG.oper;split;exact bJ λ_ _ _ h=>by cases h
 split;exact ju T (d9 zq2 λd=>d9 zq2 λ_=>zq2) (ga ..) a;exact ju T (HG X ..) (gY T ..) a
def np{a b cs f w}(l j):eX (Sy (seen P b.fn ((SN l j).runT P w #[]).2) (match((SN l j).runT P w #[]).1 with
 |Tk v w=>doReturn P a b cs f v w
 |SL _ w=>T4 (Ty "range over a function: no such loop" (b.pos P)) w)):=by
 have d:=j7 0 (zq2:Hu P (SN l j)).hu w #[] gP;generalize (SN l j).runT P w #[]=x at d ⊢;have⟨r,e⟩:=x;rcases d with⟨n,g,rfl,c⟩|⟨x,g,rfl,i,k⟩
 exact dX ((dO P _ c.ev).trans c.deaf) mL;exact cW λ_ _ _ h=>by cases h
def HK(T:dY P)(X:rY P){main fr cs dy w}(hw:an w)(hf:dg fr):eX (stepG.exec P main true fr cs dy w):=by
 unfold stepG.exec;cases ht:fr.todo with
 |nil=>
  cases fr.roundOf with
  |none=>exact bw _ _
  |some l=>exact np _ _
 |cons it rest=>
  cases it with
  |code c=>
   cases c with
   |ret=>
    cases fr.roundOf with
    |none=>exact bw _ _
    |some l=>exact np _ _
   |exit id=>
    dsimp only;cases exitTo id rest with
    |some k=>exact bw _ _
    |none=>
     cases fr.roundOf with
     |none=>exact bJ λ_ _ _ h=>by cases h
     |some l=>exact np _ _
   |goto id=>
    dsimp only;cases gotoIn id rest with
    |some k=>exact bw _ _
    |none=>
     cases fr.roundOf with
     |none=>exact bJ λ_ _ _ h=>by cases h
     |some l=>exact np _ _
   |rangeFunc f params assign body=>
    dsimp only;have hab:=by
     simpa[jM,cT]using hf.1 (.code (.rangeFunc f params assign body)) (by simp[ht])
    have hH:=cf (cP (mk:=true) P fr.fn fr.tmps params assign body fr.roundOf hab.1 hab.2).st w #[] hw;have hu:=j7 0 (zq2:Hu P (TQ fr.fn fr.tmps params assign body fr.roundOf)).hu w #[] gP;generalize (TQ fr.fn fr.tmps params assign body fr.roundOf).runT P w #[]=x at hu hH ⊢;have⟨r,e⟩:=x;rcases hu with⟨⟨l,mark⟩,w1,rfl,hl⟩|⟨x,w1,rfl,hev,hm⟩<;>first |exact dX ((dO P _ hl.ev).trans hl.deaf) (ju T (d9 zq2 λd=>pi X ..) (@aX _ _ _ _ _ _ _ _ zq2 λd=>eH T ..) hH)|exact cW λ_ _ _ h=>by cases h
   |region id ops draw=>
    refine j8 (bw _ _) ?_;generalize (choose (TU fr.fn id)).run P w=x;cases x with
    |ok a w=>exact bw _ _
    |halt x w=>exact bJ λ_ _ _ h=>by cases h
   |cond c a b=>
    dsimp only;split <;>first |exact bw _ _|exact bJ λ_ _ _ h=>by cases h
   |refuse why=>exact bJ λ_ _ _ h=>by cases h
   |_=>exact bw _ _
  |inRangeFunc id=>exact bJ λ_ _ _ h=>by cases h
  |beginRound=>
   cases hro:fr.roundOf with
   |none=>exact ju T (d9 (K8 P _) λ_=>zq2) (@aX _ _ _ _ _ _ _ _ (qN ..) λ_=>zq2) hw
   |some l=>exact ju T (d9 zq2 λ_=>zq2) (@aX _ _ _ _ _ _ _ _ (dR _ l) λ_=>zq2) hw
  |call d a b c=>exact(hf.1 (.call d a b c) (by simp[ht])).elim
  |extern row args=>
   have hrow:=hf.1 (.extern row args) (by simp[ht]);subst hrow;exact ju T (K9 P ..) (lj P ..) hw
  |endRangeFunc l=>
   dsimp only;have hu:=j7 0 (zq2:Hu P (TF l)).hu w #[] gP;generalize (TF l).runT P w #[]=x at hu ⊢;have⟨r,e⟩:=x;rcases hu with⟨n,w1,rfl,hl⟩|⟨x,w1,rfl,hev,hm⟩
   exact dX ((dO P _ hl.ev).trans hl.deaf) (bw _ _);cases x;case panic v=>
    rcases hm with hm|hl<;>first |exact hm.elim|exact dX ((dO P _ hl.ev).trans hl.deaf) (bw _ _)
   all_goals exact cW λ_ _ _ h=>by cases h
  |inRegion ops todo=>
   cases todo with
   |nil=>exact bw _ _
   |cons i is=>
    exact j8 (HJ T X hw) (bw _ _)
  |inBlock id=>exact bw _ _
  |inScope id=>exact bw _ _
  |inLoop id=>exact bw _ _
def Bo{i d f w}:eX (writeOn P i d f w):=by
 unfold writeOn;split;exact bJ λ_ _ _ h=>by cases h
 rename_i a g _;have H:∀s:Sem Unit,Hu P s->eX (match s.runT P w #[]with
  |(Tk _ w,k)=>SU {frame:=i,callers:=[],status:=Su,dying:=some {d with fatal:=some {f with pieces:=g,begun:=true}}} w k
  |(SL .blocked w,_)=>SU {frame:=i,callers:=[],status:= .blocked,dying:=some {d with fatal:=some f}} w #[]
  |(SL (Te u) w,_)=>T4 (Td u "") w
  |(SL _ w,_)=>T4 (Ty "the report of a fatal error" "") w):=by
  intro s l;have j:=j7 0 l.hu w #[] gP;generalize s.runT P w #[]=x at j ⊢;have⟨r,e⟩:=x;rcases j with⟨n,q,rfl,m⟩|⟨x,q,rfl,t,y⟩
  intro v z k p _;cases p;exact m.deaf;cases x;case blocked=>exact j9 (by simp)
  all_goals exact bJ λ_ _ _ h=>by cases h
 refine H _ ?_;have c:∀b,Hu P (do
  if b.size>65536 then unsupported (TK "a report of more than 65536 bytes")
  match<- sys (.write 2 b)with
  | .int n=>if n !=b.size then unsupported (TK "a report that its descriptor cannot take whole")
  | .err _=>pure ()
  |_=>unsupported (TK "a report that its descriptor cannot take whole")):=λb=>huA
 refine js ⟨?_⟩ (c a);refine Bn (n:=1) λb=> ?_
 cases b with
 |true=>exact .inr trivial
 |false=>
  show ia P 1 (if f.whole=true then _ else _);split <;>exact⟨Nat.one_pos,(c a).hu⟩
def Dh(w b t o):∀g u a,endWith w b t o≠SU g u a:=by
 intro g u a h;unfold endWith at h;grind
def Ka(X:rY P){m d w}:eX (die P m d w):=by
 unfold die;split;exact Bo;split;exact j8 (j9 (by simp)) (bJ (Dh _ _ _ _));split;exact bw _ _;rename_i s _;generalize (withAddress s).run P w=x;cases x with
 |ok a w=>exact bw _ _
 |halt x w=>exact bJ λ_ _ _ h=>by cases h
 rename_i t b c _;have j:=j7 0 (pi X (.fn (.method c) #[]) #[TJ t b]).hu w #[] gP;generalize (invoke (.fn (.method c) #[]) #[TJ t b]).runT P w #[]=x at j ⊢;have⟨r,e⟩:=x;rcases j with⟨n,p,rfl,g⟩|⟨x,p,rfl,l,i⟩
 .refine dX ((dO P _ g.ev).trans g.deaf) ?_;cases n;case enter f k=>exact bw _ _
  case value u=>cases u<;>first |exact bw _ _|exact bJ λ_ _ _ h=>by cases h
  all_goals exact bJ λ_ _ _ h=>by cases h
 .cases x;case panic v=>
   rcases i with i|g<;>first |exact i.elim|(refine dX ((dO P _ g.ev).trans g.deaf) ?_;simp[endPrinting];split <;>first |exact bw _ _|exact bJ λ_ _ _ h=>by cases h)
  all_goals exact cW λ_ _ _ h=>by cases h
 exact bJ λ_ _ _ h=>by cases h
def HI(T:dY P)(X:rY P)(h){g w}(p:an w)(n:(∀d,g.dying=some d->d.calling=true)->dg g.frame):eX (stepG P h g w):=by
 have⟨u,t,x,l,r⟩:=g;unfold stepG;dsimp only at n ⊢;have k:(∀a b c e f i,l=some ⟨a,b,false,c,e,f,i⟩->False)->∀d,l=some d->d.calling=true:=λm d q=>by
  cases s:d.calling with
  |true=>rfl
  |false=>
   have⟨a,b,c,e,f,i,j⟩:=d;subst s;grind
 split;exact Ka X;rename_i m v;exact HK T X p (n (k λa b c e f i q=>m _ _ _ _ _ _ q));exact D7 T X p
end
end
section
open Go.Conc
variable[aD]
def Str(h:Array Obj)(i:Nat):Prop:=∃o,h[i]?=some o/\dQ o≠o
def rE(h0 a:Array Obj):Prop:=∀i,i<h0.size->(((∃l,a[i]?=some (.loop l))\/∃d,a[i]?=some (TP d))\/Str h0 i)->a[i]?=h0[i]?
structure Under(h0:Array Obj)(w:Sx):Prop where
 le:h0.size<=w.heap.size
 st:∀i,i<h0.size->Str h0 i->w.heap[i]?=some (Ta none)
def Under.keep{h0 w w'}(h:Under h0 w)(d:∀b,b<w.heap.size->w'.heap[b]?=w.heap[b]?)(a:w.heap.size<=w'.heap.size):Under h0 w':=
 ⟨Tu h.le a,λi c e=>(d i (SS c h.le)).trans (h.st i c e)⟩
def pH(h0:Array Obj)(Q:SE)(g:Sv)(w:Sx)(m:Machine)(t:Trace):Prop:=∃a,Lx a Q g w m t/\rE h0 a
def pH.re{h0 Q g w m t}(h:pH h0 Q g w m t)(f d):pH h0 Q g (ah w f d) m t:=by
 have⟨a,⟨⟨l,j,q,i,e,n,h0,p⟩,c,k⟩,b⟩:=h;exact⟨a,⟨⟨l,j,q,i,e,n,h0,p⟩,c,k⟩,b⟩
def Mr{P}(T:dY P)(X:rY P):Oi P:=λg w b d e a h c=>HI T X true a.1 (wI a) b d e h c
structure On(Q:SE)(U:Nat->Option Code):Prop where
 twin:Twin Q U
 tame:bz (alt Q U)
 refuse:∀f c,U f=some c->∃why,c= .refuse why
 quiet:¬ aD.cm
 hush:rY (alt Q U)
def IW(h0:Array Obj)(Q:SE)(K:Sv->Sx->Prop)(m:Machine)(t:Trace):Prop:=Runs Q m t λd c=>∃b a,K b a/\Iv b a/\pH h0 Q b a d c
def br{Q:SE}{i:Nat->Option Code}(B:On Q i)(h0:Array Obj):dZ (alt Q i) where
 okF f:=i f=none
 H K g w:=Iv g w->∀m t,pH h0 Q g w m t->IW h0 Q K m t
 re K g w a d h c m t b:=h (fE c a d) m t (b.re a d)
 stop K g w h c m t b:=.here ⟨g,w,h,c,b⟩
 bind K L g w h x c m t b:=(h c m t b).bind λn q ⟨e,p,l,I,y⟩=>x e p l I n q y
 hit K g w E j h c m t b:=by
  obtain⟨l,b,F⟩:=b;have D:=bar B.tame (λg w a d=>zy (K:=K) g w a d) (λg w ⟨_,_,h⟩=>(j _ _ h).1) c E λa d=>HH (h a d)
  refine(zV B.twin B.tame B.refuse B.quiet (Mr B.tame.todY B.hush) (λg w ⟨_,_,h⟩=>(j _ _ h).1) (λg w ⟨a,d,h⟩ G=> ?_) D c m t b).mono λn q ⟨e,p,⟨a,d,v⟩,u,A⟩=>⟨e,_,v,fE u a d,pH.re ⟨l,A,F⟩ a d⟩
  obtain⟨f,r,k,z,s,_⟩:=G;have:=(j _ _ h).2;have C:g.frame.fn=f:=by rw[z];rfl
  rw[C]at this;rw[this]at s;cases s
end
section
open Go.Conc
open Go.ConcN (sumTo upd sumTo_upd upd_ne upd_same)
variable[aD]
structure fX(Q:SE)(g:Sv)(w:Sx)(m:Machine)(t:Trace):Prop where
 is:∃gs sl q Y d,m=crowd gs (ah w Y d) sl/\gs[0]?=some g/\Leavers Q t gs q
 held:Held t
 hears:Deaf t 0=0
section
variable{Q:SE}{R:Machine->Trace->Prop}{g g1 child:Sv}{w w1:Sx}
def fX.turn(K:g.status=Su)
 (H:∀a sl q c d t m,a[0]?=some g->Leavers Q t a q->Held t->Deaf t 0=0->stepT Q m=runT Q (crowd a (ah w c d) sl) 0->Runs Q m t R) {m t} (hF:fX Q g w m t):Runs Q m t R:=by
 obtain⟨⟨a,sl,q,c,d,rfl,v,p⟩,G,E⟩:=hF;have I:∀M a sl q c d t,sumTo a.size q=M->a[0]?=some g->Leavers Q t a q->Held t->Deaf t 0=0->Runs Q (crowd a (ah w c d) sl) t R:=by
  intro M;induction M using Tb with
  |ind M X=>
  intro a sl q c d t hM v p G E;have N:∀x∈a,awake x:=by
   intro x u;obtain⟨i,C,rfl⟩:=Tp.1 u;rcases Tg i with rfl|f
   have:a[0]=g:=by grind
   rw[this];exact awake_of (.inl K);exact awake_of ((p.old i _ f (SH C)).status.elim .inl λx=>.inr (.inr x))
  have⟨i,x,s,r,C,u,l⟩:=crowd_pick (P:=Q) (w:=ah w c d) (sl:=sl) N ⟨0,g,v,K⟩;have hat:(ah w c d).at s=ah w c s:=rfl;rw[hat]at l;rcases Tg i with rfl|f
  exact H a r q c s t _ v p G E l;have D:=p.old i x f C;have L:(i==0)=false:=by grind
  have W:i<a.size:=(AS.1 C).1;cases A:q i with
  |zero=>rw[A]at D;rw[D.1]at u;cases u
  |succ k=>
   rw[A]at D;rcases D with⟨hf,_⟩|⟨_,g',es,hm,B,hq'⟩
   rw[hf]at u;cases u;have T:((a.map (woken Q x g' (ah w c s))).setIfInBounds i g').size=a.size:=by simp
   have hsum:sumTo a.size (upd q i k)+(k+1)=sumTo a.size q+k:=by
    have:=sumTo_upd q k id W;simp_all
   have n:i≠0:=by omega
   refine Runs.step (l.trans (runT_crowd_go (P:=Q) (sl:=r) (i:=i) C (by rw[L];exact B (ah w c s)))) (X (sumTo a.size (upd q i k)) (by rw[<- hM];omega) _ r (upd q i k) c s _ (by rw[T]) ?_ ?_ (G.mute (g:=i) n λF b=>by obtain⟨e,_,rfl⟩:=Sw b;rfl λF b=>by obtain⟨e,he,rfl⟩:=Sw b;exact touch_mute (hm e he)) ((Deaf_other t n _ λF b=>by obtain⟨e,_,rfl⟩:=Sw b;rfl).trans E));rw[AI n,SC,v];simp[woken_run K];refine⟨λj y Z hy=> ?_,λj Z=> ?_⟩;by_cases h:i=j;simp_all[SO,upd_same,Deaf_own]
   rw[AI h,SC]at hy;obtain⟨z,hz,rfl⟩:=SD.1 hy;have S:=p.old j z Z hz;rw[woken_quitsD S,upd_ne q k (Uf h),Deaf_other t h _ λF b=>by obtain⟨e,_,rfl⟩:=Sw b;rfl];omega;rw[Deaf_other t (g':=i) (by omega) _ λF b=>by obtain⟨e,_,rfl⟩:=Sw b;rfl];exact p.above j (by simpa using Z)
 exact I _ a sl q c d t rfl v p G E
def fX.go(A:g.status=Su)(h:∀b d,∃l E,stepG Q true g (ah w b d)=SU g1 (ah w1 b l) E/\SG 0 E=0)
 (k:∀m t,fX Q g1 w1 m t->Runs Q m t R) {m t} (D:fX Q g w m t):Runs Q m t R:=by
 refine D.turn A λH x q b d t m p s B G c=> ?_
 have⟨l,E,F,u⟩:=h b d;refine Runs.step (c.trans (runT_crowd_go (P:=Q) (sl:=x) (i:=0) p (show stepG Q (0==0) g (ah w b d)=_ from F))) (k _ _ ⟨⟨_,x,q,b,l,rfl,by simp[(AS.1 p).1],?_⟩,B.own λv a=>by obtain⟨e,_,rfl⟩:=Sw a;rfl,by rw[Deaf_own,G];omega⟩);refine⟨λj y f r=> ?_,λj f=> ?_⟩;have n:0≠j:=by omega
 rw[AI n,SC]at r;obtain⟨z,C,rfl⟩:=SD.1 r;have u:=s.old j z f C;rw[woken_quitsD u,Deaf_other t (by omega) _ λv a=>by obtain⟨e,_,rfl⟩:=Sw a;rfl];omega;rw[Deaf_other t (g':=0) (by grind) _ λv a=>by obtain⟨e,_,rfl⟩:=Sw a;rfl];exact s.above j (by simpa using f)
def fX.hire(C:g.status=Su)(h:∀c d,∃l,stepG Q true g (ah w c d)= .spawn g1 child (ah w1 c l) #[])
 (H:∀a r q c d t k,k≠0->di Q k g1 child a q t->PT k (λ_=>False) (λ_=>False) t->Runs Q (crowd a (ah w1 c d) r) t R) {m t} (F:fX Q g w m t):Runs Q m t R:=by
 refine F.turn C λa r q c d t m y u I G n=> ?_
 have⟨l,A⟩:=h c d;have s:0<a.size:=(AS.1 y).1;refine Runs.step (n.trans (runT_crowd_spawn (P:=Q) (sl:=r) (i:=0) y (show stepG Q (0==0) g (ah w c d)=_ from A))) ?_;have e:((Sz 0 g.frame.fn g.frame.place #[]).push {g:=0,fn:=g.frame.fn,pos:=g.frame.place,act:= .go a.size}|>.push {g:=a.size,fn:=child.frame.fn,pos:=g.frame.place,act:= .start})=#[{g:=0,fn:=g.frame.fn,pos:=g.frame.place,act:= .go a.size},{g:=a.size,fn:=child.frame.fn,pos:=g.frame.place,act:= .start}]:=rfl;rw[e];refine H _ _ q c l _ a.size (by omega) ⟨?_,?_,λi x z K v=> ?_,λj B=> ?_⟩ (PT.hire I G (u.above _ (U5 _)) (by omega));rw[TR (by simpa using s)];simp;rw[show a.size=(a.setIfInBounds 0 g1).size from by simp,Array.getElem?_push_size];have f:i<a.size:=by
  grind
 rw[TR (by simpa using f)]at v;have E:a[i]?=some x:=by
  rw[<- v,<- SH,AI (Uf z)]
 have:=u.old i x (by omega) E;have p:Deaf (t++ #[{g:=0,fn:=g.frame.fn,pos:=g.frame.place,act:= .go a.size},{g:=a.size,fn:=child.frame.fn,pos:=g.frame.place,act:= .start}]) i=Deaf t i:=by
  refine Deaf_quiet λD b d=> ?_
  simp[SY]at b;rcases b with rfl|rfl<;>rfl
 rw[p];omega;have p:Deaf (t++ #[{g:=0,fn:=g.frame.fn,pos:=g.frame.place,act:= .go a.size},{g:=a.size,fn:=child.frame.fn,pos:=g.frame.place,act:= .start}]) j=Deaf t j:=by
  refine Deaf_quiet λD b d=> ?_
  simp[SY]at b;rcases b with rfl|rfl<;>rfl
 rw[p];simp[Array.size_push]at B;exact u.above j (by omega)
end
end
section
open Go.Conc
variable[aD]
section
variable{Q:SE}{R:Machine->Trace->Prop}{m:Machine}{t:Trace}{w w1:Sx}{b:SZ}{a:Act}{k:List Item}{cs:List SZ}{ops:Array Oper}{i:Nat}{rest:List Nat}{o:Oper}
def fX.ctl{g c}(f:g.status=Su)(h:∀w,stepG Q true g w=SU c w)(k:∀m t,fX Q c w m t->Runs Q m t R)(e:fX Q g w m t):Runs Q m t R:=
 e.go f (λj d=>⟨d,#[],h _,rfl⟩) k
def q9{fn}(d:Hu Q (T6 a.eval o)){n u}(f:(T6 a.eval o).run Q w=Tk n u):SG 0 (listed Q fn a o w)=0:=by
 rcases j7 0 d.hu w #[] gP with⟨_,_,_,c⟩|⟨x,g,e,_⟩
 exact(dO Q fn c.ev).trans c.deaf;simp_all
def fX.value{v}(l:ops[i]?=some o)(j:T7 o (yielded ops a.tmps)=true)(g:b.kind≠TH)(n:∀c,o.op≠.call c)
 (f:∀e d,(T6 a.eval o).run Q (ah w e d)=Tk (.value v) (ah w1 e d)) (k1:∀m t,fX Q (G (b.at (a.put o.dst v) (SR ops rest::k)) cs) w1 m t->Runs Q m t R)
 (h:fX Q (G (b.at a (SR ops (i::rest)::k)) cs) w m t):Runs Q m t R:=
 h.go rfl (λe d=>⟨d,_,stepG_value l j g (f e d),q9 (ri _ _ n) (f e d)⟩) k1
def fX.none(l:ops[i]?=some o)(j:T7 o (yielded ops a.tmps)=true)(g:b.kind≠TH)(n:∀c,o.op≠.call c)
 (f:∀e d,(T6 a.eval o).run Q (ah w e d)=Tk .skip (ah w1 e d)) (k1:∀m t,fX Q (G (b.at (a.put o.dst undef) (SR ops rest::k)) cs) w1 m t->Runs Q m t R)
 (h:fX Q (G (b.at a (SR ops (i::rest)::k)) cs) w m t):Runs Q m t R:=
 h.go rfl (λe d=>⟨d,_,stepG_none l j g (f e d),q9 (ri _ _ n) (f e d)⟩) k1
theorem fX.enter{f fn c args}(p:ops[i]?=some o)(l:T7 o (yielded ops a.tmps)=true)(r:b.kind≠TH)(h:Hu Q (T6 a.eval o))
 (q:Q.funcs[f]?=some fn) (n:fn.body=some c) (g:∀e d,(T6 a.eval o).run Q (ah w e d)=Tk (.enter f args) (ah w e d))
 (k1:∀m t,fX Q (G ((base f).at {tmps:=args++Array.replicate (fn.ntmps-args.size) undef,defers:=[]} [.code c]) (b.at a (SR ops (i::rest)::k)::cs)) w m t->Runs Q m t R)
 (j:fX Q (G (b.at a (SR ops (i::rest)::k)) cs) w m t):Runs Q m t R:=
 j.go rfl (λe d=>⟨d,_,by rw[<- enter_at args q n];exact stepG_enter p l r (g e d),q9 h (g e d)⟩) k1
def ca(Q:SE)(R:Machine->Trace->Prop)(g:Sv)(w:Sx):Prop:=∀m t,fX Q g w m t->Runs Q m t R
def ca.ctl{g c}(h:∀w,stepG Q true g w=SU c w)(e:g.status=Su)(k:ca Q R c w):ca Q R g w:=λm t d=>d.ctl e h k
def ca.value{v}(w1)(l:ops[i]?=some o)(j:T7 o (yielded ops a.tmps)=true)(g:b.kind≠TH)(n:∀c,o.op≠.call c)
 (f:∀e d,(T6 a.eval o).run Q (ah w e d)=Tk (.value v) (ah w1 e d)) (k1:ca Q R (G (b.at (a.put o.dst v) (SR ops rest::k)) cs) w1):ca Q R (G (b.at a (SR ops (i::rest)::k)) cs) w:=λm t h=>h.value l j g n f k1
def ca.none(w1)(l:ops[i]?=some o)(j:T7 o (yielded ops a.tmps)=true)(g:b.kind≠TH)(n:∀c,o.op≠.call c)
 (f:∀e d,(T6 a.eval o).run Q (ah w e d)=Tk .skip (ah w1 e d)) (k1:ca Q R (G (b.at (a.put o.dst undef) (SR ops rest::k)) cs) w1):ca Q R (G (b.at a (SR ops (i::rest)::k)) cs) w:=λm t h=>h.none l j g n f k1
def ca.hire{d0 f c}(s:ops[i]?=some o)(j:T7 o (yielded ops a.tmps)=true)(h:b.kind≠TH)
 (l:∀e d,(T6 a.eval o).run Q (ah w e d)=Tk (.spawn d0) (ah w e d)) (r:∀e d,(T6 a.eval o).events Q (ah w e d) #[]=#[]) (u:d0.target= .fn f c)
 (H:∀g v q e d t n,n≠0->di Q n (G (b.at (a.put o.dst undef) (SR ops rest::k)) cs) (born Q d0) g q t->PT n (λ_=>False) (λ_=>False) t->Runs Q (crowd g (ah w e d) v) t R):ca Q R (G (b.at a (SR ops (i::rest)::k)) cs) w:=
 λm t p=>p.hire rfl (λe d=>⟨d,by rw[stepG_spawn s j h (l e d) u,listed_nil (r e d)]⟩) H
end
end
def HW{d c:Type}{P:c->Prop}{f}(i:∀a b r,P b->f a b=some r->P (match r with | .done b=>b| .yield b=>b)):∀(l:List d) b r,P b->forIn l b f=some r->P r:=by
 intro l;induction l with
 |nil=>simp
 |cons a l j=>
  intro b r e h;cases g:f a b<;>grind
def py(a:Nat->Nat)(i:TypeInfo):Prop:=∀v,i.zero=some v->ab a v=v
def yV{a v}(h:ab a v=v):v.cells.map (ab a)=v.cells:=by
 rw[<- ig,h]
def MU{a cs}(h:cs.map (ab a)=cs):ab a (.agg cs)= .agg cs:=by rw[fy,h]
def Cl{m k}(hi:∀t i,k t=some i->py m i){fs i}(h:Made.reckonStruct k fs=some i):py m i:=by
 unfold Made.reckonStruct at h;simp only[Option.pure_def,Option.bind_eq_bind,SF]at h;have⟨r,w,h⟩:=h;rw[<- Array.forIn_toList]at w;have E:=HW (P:=λn:Array Field×Nat×Nat×Nat×Nat×Bool×Bool×Option (Array TG)×String=>∀e,n.2.2.2.2.2.2.2.1=some e->e.map (ab m)=e) ?_ _ _ _ λe d=>by grind w
 .have u:∀j:TypeInfo,j.zero=Option.map Value.agg r.2.2.2.2.2.2.2.1->py m j:=λj p v A=>by
   rw[p]at A;obtain⟨e,d,rfl⟩:=SD.1 A;simp[*]
  repeat' (first |split at h|(cases h;exact u _ rfl))
 .intro f n x s c;have⟨j,p,c⟩:=SF.1 c;have g:∀e,(if n.2.1+j.size>Made.mostCells then none else n.2.2.2.2.2.2.2.1.bind λa=>j.zero.bind λb=>some (a++b.cells))=some e->e.map (ab m)=e:=λe d=>by
   split at d<;>first |cases d|(have⟨a,D,d⟩:=SF.1 d;have⟨z,u,d⟩:=SF.1 d;cases d;rw[Array.map_append,s a D,yV (hi _ _ p z u)])
  by_cases C:j.str.isEmpty=true;rw[if_pos C]at c;cases c;rw[if_neg C]at c;by_cases B:f.embedded=true;rw[if_pos B]at c;cases c;rw[if_neg B]at c;by_cases y:f.tag.isEmpty=true;rw[if_pos y]at c;have⟨q,_,c⟩:=SF.1 c;by_cases l:j.bytes=0;rw[if_pos l]at c;cases c;exact g;rw[if_neg l]at c;cases c;exact g;rw[if_neg y]at c;have⟨q,_,c⟩:=SF.1 c;by_cases l:j.bytes=0;rw[if_pos l]at c;cases c;exact g;rw[if_neg l]at c;cases c;exact g
def CW{c b}(hi:∀t i,b t=some i->py c i){d i}(h:Made.reckon b d=some i):py c i:=by
 unfold Made.reckon at h;cases d;case struct k=>exact Cl hi h
 case array n e=>
  simp[SF]at h;have⟨j,f,s,_,h⟩:=h;cases h;intro v a;split at a;cases a;split at a<;>first |(cases a;simp)|(obtain⟨z,g,rfl⟩:=SD.1 a;refine MU ?_;rw[Array.map_flatten,Array.map_replicate,yV (hi e j f z g)])
 all_goals
  simp[SF]at h;repeat' (first |(obtain⟨_,_,h⟩:=h)|split at h)
  all_goals first
   |(intro v a;cases a;simp)
   |(cases h)
   |(cases h;intro v a)
   |(generalize Made.spell _=o at h;cases o<;>cases h;intro v a;cases a<;>simp)
def D3{a T}(h0:∀(t:Nat) i,T.types[t]?=some i->py a i):∀f t i,Made.infoAt T f t=some i->py a i:=by
 intro f;induction f with
 |zero=>intro t i h;cases h
 |succ f b=>
  intro t i h;unfold Made.infoAt at h;split at h<;>first |exact h0 t i h|(have⟨d,_,h⟩:=SF.1 h;exact CW b h)
def sM:Nat->TG->Bool
 |0,_=>false
 |d+1,.agg b=>b.all (sM d)
 |d+1,.tuple b=>b.all (sM d)
 |_,v=>qt v
def EY(c):∀d v,sM d v=true->ab c v=v:=by
 intro d;induction d with
 |zero=>intro v h;cases v<;>cases h
 |succ d f=>
  intro v h;have a:∀b:Array TG,b.all (sM d)=true->b.map (ab c)=b:=λb e=>by
   grind
  cases v;case agg b=>rw[fy,a b h]
  case tuple b=>rw[gl,a b h]
  all_goals exact wh h c
def N1{Q}(h:(Q.types.all λi=>match i.zero with |some v=>sM 4 v|none=>true)=true)(c):l4 Q c:=by
 have f:∀(t:Nat)(i:TypeInfo),Q.types[t]?=some i->py c i:=λt i d v b=>by
  rw[Array.all_eq_true]at h;obtain⟨e,rfl⟩:=AS.1 d;have:=h t e;rw[b]at this;exact EY c 4 v this
 intro t i v d b;have a:=d;unfold Tables.info? at a;split at a;exact f t i a v b;exact D3 f _ t i a v b
end Go.Proofs.YtkgohmcmmcpigabGreatDoor
