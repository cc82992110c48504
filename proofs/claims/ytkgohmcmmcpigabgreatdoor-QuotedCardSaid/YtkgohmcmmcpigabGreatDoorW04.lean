/- A part of the proof that Folded holds; no condition. -/
import Derived.Conc.Beside
import Derived.Conc.TokenTrace
import Derived.RegionTactic
import Derived.StillTail
import Derived.Test.YtkgohmcmmcpigabGreatDoorW03
set_option linter.all false
namespace Go.Proofs.YtkgohmcmmcpigabGreatDoor
open Go
open Go renaming communicate->AI,World->Sw,execOp->Sx,Goroutine->Sz,Program->SE,Yields->SL
open Go.Region renaming ready->AS,wanted->SD,binds->SR,noSelect->T4
open _root_.Array renaming getElem?_eq_some_iff->Sv,getElem?_eq_getElem->SM
open Go.Goroutine renaming finishComm->SF
open Go.Question renaming forced->SG
open Go.RowKit renaming Hid->SJ
open _root_.Nat renaming le_refl->SK
open _root_.Classical renaming choose_spec->SO,choose->SY
open Go.Sem renaming bind->SP,run->SS
open Go.Stepped renaming next->SN
open Go.Lib renaming hid->SU
open Go.Frame renaming oper?->SV,enter->SW,finish_at->T8
open _root_.List renaming mem_toArray->SX
open _root_.Bool renaming and_eq_true->SZ
open Go.Item renaming inRegion->Su
open Go.GoStatus renaming running->Sy
open Go.Exit renaming normal->SC,panic->SI
open Go.Obj renaming chan->SH
section
variable[aD]
def isComm(o:Op):Prop:=(∃c x,o= .send c x)\/∃t c a,o= .recv t c a
structure tv(fr:Frame):Prop where
 mode:fr.mode= .run
 at_:∃ops i is k o,fr.todo=Su ops (i::is)::k/\ops[i]?=some o/\isComm o.op
section
variable{P:SE}{fr:Frame}{cs:List Frame}{w w1:Sw}{g1:Sz}{c:Array CommCase}{b:Bool}{sh:CommShape}{es:Array Event}
def lG{s}(l:fr.kind= .normal\/fr.kind= .deferred)(h:stepG.apply P true fr cs none s w= .comm g1 c b sh w1 es):
 ∃f,s.runT P w #[]=(.ok (.comm c b sh) w1,f)/\g1= {frame:=fr,callers:=cs,status:=Sy,dying:=none}/\es=seen P fr.fn f:=by
 simp only[stepG.apply,if_true]at h;generalize p:s.runT P w #[]=x at h;have⟨r,k⟩:=x;cases r with
 |ok n v=>
  cases n;case comm a j i=>
   obtain⟨e,d,rfl⟩:=bC h<;>grind
  all_goals
   dsimp only at h;have⟨e,d,_⟩:=bC h;first
    |(
     repeat' split at d
     all_goals cases d)
 |halt x v=>
  exfalso;cases x;case fatal m=>
   have⟨e,d,_⟩:=bC h;exact mM d
  case unsupported u=>
   cases u;case initOrder g=>
    have⟨e,d,_⟩:=bC h;exact wW d
   all_goals
    have⟨e,d,_⟩:=bC h;cases d
  all_goals
   have⟨e,d,_⟩:=bC h;cases d
def Kx{m o}(g:isComm o.op){n a f}(h:(Sx m o).runT P w a=(.ok n w1,f)):w1=w/\f=a:=by
 rcases g with⟨p,x,g⟩|⟨t,p,s,g⟩
 simp_all[Sx]
 simp only[Sx,g,aM,mY]at h;cases j:P.underlying t with
 |none=>rw[j]at h;cases h
 |some d=>
  simp only[j]at h;cases d;case chan q e=>
   rw[aM]at h;have k:(zeroValue e).runT P w a=match P.info? e with
    |some i=>match i.zero with
     |some v=>(.ok v w,a)
     |none=>(.halt (.unsupported (.resourceLimit "a value of more than 2^22 cells")) w,a)
    |none=>(.halt (.stuck "no such type") w,a):=by
    simp only[zeroValue,aM,jN];cases P.info? e with
    |none=>rfl
    |some i=>
     dsimp only;cases i.zero<;>rfl
   rw[k]at h;cases r:P.info? e with
   |none=>rw[r]at h;cases h
   |some i=>
    cases l:i.zero<;>simp_all
  all_goals cases h
def uA{m g}(j:tv g.frame)(q:g.dying=none)(y:g.frame.roundOf=none)(e:g.frame.kind= .normal\/g.frame.kind= .deferred)(h:stepG P m g w= .comm g1 c b sh w1 es):
 w1=w/\es=#[]/\g1= {frame:=g.frame,callers:=g.callers,status:=Sy,dying:=none}:=by
 have⟨fr,cs,r,x,d⟩:=g;subst q;have⟨v,p,i,u,k,o,t,z,l⟩:=j;have f:stepG P m {frame:=fr,callers:=cs,status:=r,dying:=none,offers:=d} w=stepG.exec P m true fr cs none w:=by
  simp_all[stepG]
 simp[f,stepG.exec]at h;rw[t]at h;dsimp only at h;split at h;unfold stepG.oper at h;have a:fr.oper?=some o:=by simp_all[SV]
 simp[a]at h;split at h<;>first |grind|(obtain⟨n,s,rfl,rfl⟩:=lG e h;obtain⟨rfl,rfl⟩:=Kx l s;exact⟨rfl,rfl,rfl⟩)
 cases h
end
section
variable{Q:SE}{U:Nat->Option Code}{dt:bM}{cl:Bool}
def Bs(A:lf Q U){m g w P g1 c b sh S}(B:ck Q dt cl g.frame)(hd:g.dying=none)(h:stepG (alt Q U) m g w= .comm g1 c b sh P S):tv g.frame:=by
 have⟨e,M,st,dy,I⟩:=g;subst hd;cases hm:e.mode with
 |run=>
  have N:stepG (alt Q U) m {frame:=e,callers:=M,status:=st,dying:=none,offers:=I} w=stepG.exec (alt Q U) m true e M none w:=by
   simp_all[stepG]
  rw[N]at h;refine⟨hm,?_⟩;unfold stepG.exec at h;cases R:e.todo with
  |nil=>rw[R]at h;rw[B.round]at h;cases h
  |cons it k=>
   have z:=B.items it (by simp[R]);rw[R]at h;cases it with
   |inRegion C L=>
    cases L with
    |nil=>cases h
    |cons i is=>
     dsimp only at h;split at h;unfold stepG.oper at h;cases Z:e.oper? with
     |none=>rw[Z]at h;cases h
     |some o=>
      simp[Z]at h;have K:C[i]?=some o:=by
       simp_all[SV,Z]
      have hop:mH Q dt cl e.fn o=true:=z i (.head _) o K;have u:iu Q dt cl e.fn o=true:=by
       simp_all[SZ,mH]
      refine⟨C,i,is,k,o,rfl,K,?_⟩;split at h;rename_i l c2 h1 h2;rw[B.round]at h1;cases h1;have⟨es0,h2,_,_⟩:=lG B.kind h;refine Classical.byContradiction λG=> ?_
      have T:YP (alt Q U) (λn=>∀c b sh,n≠.comm c b sh) (Sx e.eval o):=by
       simp[iu,SZ]at u;have q:=u.1;cases j:o.op;case send ch x=>exact absurd (.inl ⟨ch,x,j⟩) G
       case recv t ch ok=>exact absurd (.inr ⟨t,ch,ok,j⟩) G
       case call y=>
        simp[j]at q;have⟨H,k2⟩:=q;simp only[Sx,j,resolve];unfold lp nG at H;cases hk:y.callee;case value x=>
         rw[hk]at H;cases x;case func gf=>
          intro w S a P X E;rcases s7 A gf (#[]++y.args.map e.eval++ #[]) w S a P X E with⟨v,rfl⟩|rfl<;>simp
         all_goals cases H
        case builtin bb=>
         rw[hk]at H;cases bb;case len=>exact cN (s:=Builtin.len_ y.argTypes o.type (y.args.map e.eval)) λv=>bY λ_ _ _=>nofun
         case recover=>exact bY λ_ _ _=>nofun
         case append=>exact cN (s:=Builtin.append_ y.argTypes o.type (y.args.map e.eval)) λv=>bY λ_ _ _=>nofun
         case min=>exact cN (s:=Builtin.min_ y.argTypes o.type (y.args.map e.eval)) λv=>bY λ_ _ _=>nofun
         all_goals cases H
        grind
       all_goals
        simp[ng,j]at q
       all_goals try(exact absurd q Bool.false_ne_true)
       all_goals
        simp only[Sx,j]
       case nilCheck x=>
        cases e.eval x;case pointer a=>cases a with|none=>exact cN (s:=program) λp=>fi|some a=>exact bY λ_ _ _=>nofun
        case nilIface=>exact cN (s:=program) λp=>fi
        case nilFunc=>exact cN (s:=program) λp=>fi
        case func fn W D=>
         cases fn;case method name=>
          dsimp only;split;exact cN (s:=program) λp=>fi
          exact cN λp=>cN λb=>by
           split <;>first |exact fi|exact bY λ_ _ _=>nofun
          exact bY λ_ _ _=>nofun
         all_goals exact bY λ_ _ _=>nofun
        all_goals exact bY λ_ _ _=>nofun
       all_goals first
        |exact cN λ_=>bY λ_ _ _=>nofun
        |exact bY λ_ _ _=>nofun
      exact T _ _ _ _ _ h2 _ _ _ rfl
     cases h
   |code cd=>
    cases cd with
    |region id C draw=>
     grind
    |ret=>rw[B.round]at h;cases h
    |exit id=>
     dsimp only at h;cases F:exitTo id k with
     |some t=>rw[F]at h;cases h
     |none=>rw[F]at h;rw[B.round]at h;cases h
    |goto l=>
     dsimp only at h;cases F:gotoIn l k with
     |some t=>rw[F]at h;cases h
     |none=>rw[F]at h;rw[B.round]at h;cases h
    |rangeFunc f p a b2=>cases z
    |cond c0 a b2=>
     grind
    |_=>cases h
   |inRangeFunc l=>exact z.elim
   |endRangeFunc l=>exact z.elim
   |beginRound=>exact z.elim
   |call d a b2 c2=>exact z.elim
   |extern r a=>exact z.elim
   |_=>cases h
 |_=>
  exfalso;have N:stepG (alt Q U) m {frame:=e,callers:=M,status:=st,dying:=none,offers:=I} w=unwind (alt Q U) m e M none w:=by
   simp_all[stepG]
  rw[N]at h;exact pJ h
end
section
variable{Q:SE}{U:Nat->Option Code}{D0:Frame}{dt:bM}{cl:Bool}{Ro:Nat->Prop}{os:Os}{rest:List Frame}{p:Part}{g g':Sz}{w w':Sw}
def qD(p:Part)(w w' a:Sw)(i:Nat):Prop:=a.heap[p.κ i]?=w'.heap[p.κ i]?\/
 ((∀o,w.heap[i]?=some o->¬ jv o)/\∃b,a.heap[p.κ i]?=some b/\Plain b/\((∃c e f,b= .cells c e f)\/∀o,w.heap[i]?=some o->b.isChan=o.isChan))
def GV(D:iA Q p w.heap.size w'.heap.size){b}(u:∀i,p.K i->qD p w w' b i)(t:b.os=w'.os)(j:∀i o,w.heap[i]?=some o->jv o->p.K i)
 {q} (k:Ag p q) (h:eo q Ro ⟨p.K,os⟩ (ah w w'.tape w'.drawn) w'):eo q Ro ⟨p.K,os⟩ (ah w b.tape b.drawn) b:=by
 refine⟨h.inj,rfl,rfl,h.ro,λi o v=> ?_,h.num,⟨h.os.1,t.trans h.os.2⟩⟩;have s:=h.blk i o v;have n:w.heap[i]?=some o:=v;have m:jv o->b.heap[q i]?=w'.heap[q i]?:=λC=>by
  have r:=j i o n C;rw[k.2 i r];rcases u i r with e|⟨A,_⟩<;>grind
 cases o;case cells c e f=>rw[m trivial];omega
 case number a l=>rw[m trivial];omega
 case pending=>exact s.elim
 case view=>exact s.elim
 all_goals
  intro r;have d:=r;rcases u i d with e|⟨_,y,x,B,z⟩<;>first |(rw[k.2 i d,e,<- k.2 i d];exact s d)|(rw[k.2 i d];exact⟨y,x,B,z.imp id λh=>h _ n⟩)
def Side.keep(S:Side Q U D0 dt cl Ro os rest p g w g' w'){w2' g2'}(e:w'.heap.size<=w2'.heap.size)(d:w2'.os=w'.os)(j:∀i,p.K i->qD p w w' w2' i)
 (b:g2'.frame=g'.frame/\g2'.callers=g'.callers/\g2'.dying=g'.dying/\g2'.status=Sy):Side Q U D0 dt cl Ro os rest p g w g2' w2':=by
 refine⟨⟨S.part.inj,S.part.dom,λi f=>Nat.lt_of_lt_of_le (S.part.ran i f) e,S.part.low⟩,S.gok,S.iv,S.ro,λc a=> ?_,λc a=>GV S.part j d (λi o k l=>sQ S.part S.relW k l) a (S.relW c a)⟩;have h:=S.relG c a;exact⟨b.1.trans h.frame,b.2.1.trans h.callers,⟨h.dying.1,b.2.2.1.trans h.dying.2⟩,⟨h.status.1,b.2.2.2⟩⟩
def ay(w:Sw)(r:Nat)(o:Obj):Sw:= {w with heap:=w.heap.setIfInBounds r o}
def Side.chan(S:Side Q U D0 dt cl Ro os rest p g w g' w'){r o d}(q:w.heap[r]?=some o)(u:o.isChan=true)(k:d.isChan=true):Side Q U D0 dt cl Ro os rest p g (ay w r d) g' w':=by
 have s:∀i,mR w i->r≠i:=λi ⟨c,t,h⟩ e=>by
  subst e;rw[q]at h;cases h;cases u
 have n:(ay w r d).heap.size=w.heap.size:=by simp[ay]
 have b:∀i,r≠i->(ay w r d).heap[i]?=w.heap[i]?:=λi f=>by simp_all[ay,Array.getElem?_setIfInBounds_ne]
 refine⟨by rw[n];exact S.part,S.gok,⟨eE S.iv.1 (by cases d<;>first |trivial|cases k),S.iv.2⟩,λi f=> ?_,S.relG,λy m=> ?_⟩;have⟨c,t,h⟩:=S.ro i f;exact⟨c,t,(b i (s i ⟨c,t,h⟩)).trans h⟩;have h:=S.relW y m;have v:=(Sv.1 q).1;refine⟨h.inj,h.tape,h.drawn,λi f=>by have:=h.ro i f;simp_all,λi x j=> ?_,λi a l j=> ?_,h.os⟩;have j:(ay w r d).heap[i]?=some x:=j;by_cases f:r=i;subst f;have:x=d:=by simp_all[ay]
 subst this;have z:=h.blk r o q;cases o<;>first |cases u|skip
 cases x<;>first |cases k|skip
 exact z;rw[b i f]at j;exact h.blk i x j;have j:(ay w r d).heap[i]?=some (.number a l):=j;by_cases f:r=i;have: .number a l=d:=by simp_all[ay]
 subst this;cases k;rw[b i f]at j;exact h.num i a l j
def Side.fin(S:Side Q U D0 dt cl Ro os rest p g w g' w')(j:lZ dt g.frame){v v'}(k:∀a,Ag p a->v'=ab a v){i c}:
 Side Q U D0 dt cl Ro os rest p {g with frame:=g.frame.finish v,status:=Sy,offers:=i} w {g' with frame:=g'.frame.finish v',status:=Sy,offers:=c} w':=by
 refine⟨S.part,⟨S.gok.frame.finish λo t n l m=>absurd m (j o t n l),S.gok.callers,cJ g.callers.dropLast (by grind [Frame.finish]) S.gok.stack,S.gok.last⟩,⟨S.iv.1,?_⟩,S.ro,λa b=> ?_,S.relW⟩;rcases S.iv.2 with⟨⟨d,e,_⟩,_⟩|⟨f,e⟩
 rw[(S.relG _ (bL S.part 0)).dying.1]at e;cases e;exact .inr ⟨⟨eV f.1 v,f.2.1,nofun,aq (ap ..) f.2.2.2⟩,e⟩;have h:=S.relG a b;refine⟨?_,h.callers,h.dying,⟨rfl,rfl⟩⟩;rw[h.frame,k a b,gq S.gok.frame.dC.1 S.gok.frame.dC.2]
def Part.also(p:Part)(e b:Nat):Part:=⟨λi=>p.K i\/i=e,λi=>if i=e then b else p.κ i⟩
def Side.also(S:Side Q U D0 dt cl Ro os rest p g w g' w'){e b}(A:¬ p.K e)(D:e<w.heap.size)(u:∃c t f,w'.heap[b]?=some (.cells c t f))(B:∀i,p.K i->p.κ i≠b):Side Q U D0 dt cl Ro os rest (p.also e b) g w g' w':=by
 have k:∀i,p.K i->(p.also e b).κ i=p.κ i:=λi d=>by
  show(if i=e then b else p.κ i)=_;rw[if_neg λh:i=e=>A (h▸d)]
 have r:(p.also e b).κ e=b:=by
  show(if e=e then b else p.κ e)=_;rw[if_pos rfl]
 have q:∀n,Ag (p.also e b) n->Ag p n:=λn h=>⟨h.1,λi d=>(h.2 i (.inl d)).trans (k i d)⟩
 have⟨c,t,f,u⟩:=u;have C:=(Sv.1 u).1;refine⟨⟨λi j d v h=> ?_,λi d=> ?_,λi d=> ?_,λg y=>⟨.inl (S.part.low g y).1,(k g (S.part.low g y).1).trans (S.part.low g y).2⟩⟩,S.gok,S.iv,S.ro,λn m=>S.relG n (q n m),λn m=> ?_⟩;rcases d with d|rfl<;>rcases v with v|rfl
 rw[k i d,k j v]at h;exact S.part.inj i j d v h;grind
 grind
 rfl;rcases d with d|rfl
 exact S.part.dom i d;omega;rcases d with d|rfl
 rw[k i d];exact S.part.ran i d;omega;have h:=S.relW n (q n m);refine⟨h.inj,h.tape,h.drawn,h.ro,λi o x=> ?_,λi a l x=>.inl (h.num i a l x),h.os⟩;have s:=h.blk i o x;cases o;case cells c e f=>exact s
 case number a l=>exact s
 case pending=>exact s.elim
 case view=>exact s.elim
 all_goals
  intro z;rcases z with z|rfl<;>first |exact s z|(refine⟨.cells c t f,?_,trivial,.inl ⟨_,_,_,rfl⟩⟩;rw[m.2 i (.inr rfl),r];exact u)
end
end
section
open Go.Conc
open Go.ConcN (sumTo upd sumTo_upd upd_ne upd_same)
variable[aD]
structure Held(t:Trace):Prop where
 clean:∀said,¬ Race said t
 known:∀i a,touchAt t i=some a->a.loc.isMemory=true->Knows t 0 i
 over:t.HandedOver
def Held.own{t}(h:Held t){u}(e:∀op∈u,op.g=0):Held (t++u):=by
 refine⟨λd=>noRace_append (h.clean d) e λi a j op c b p n=>h.known i a j n.2.1,λi a j l=> ?_,handedOver_app h.over λop c=>.inl (e op c)⟩;have⟨x,k,m⟩:=touch_of j;rcases getElem?_append_cases k with⟨_,f⟩|⟨_,g⟩
 exact(h.known i a (by rw[touchAt_of f];omega) l).app u;have:=knows_own k;rw[e x g]at this;omega
def Held.mute{t}(h:Held t){g}(r:g≠0){u}(k:∀op∈u,op.g=g)(f:∀op∈u,op.act.touch?=none):Held (t++u):=by
 refine⟨λd=>noRace_append (h.clean d) k λi a _ op c b j _=>(by rw[f op c]at j;cases j),λi a n l=> ?_,handedOver_app h.over λop c=>.inr (f op c)⟩;have⟨x,m,q⟩:=touch_of n;rcases getElem?_append_cases m with⟨_,e⟩|⟨_,p⟩
 exact(h.known i a (by rw[touchAt_of e];omega) l).app u;grind
def Runs(Q:SE)(m:Machine)(t:Trace)(R:Machine->Trace->Prop):Prop:=∃N b a,runNT Q N m t=(SN b,a)/\R b a
section
variable{Q:SE}{R R':Machine->Trace->Prop}{m m':Machine}{t t':Trace}
def Runs.here(h:R m t):Runs Q m t R:=⟨0,m,t,rfl,h⟩
def Runs.mono(h:Runs Q m t R)(b:∀m t,R m t->R' m t):Runs Q m t R':=let⟨N,m',t',a,c⟩:=h;⟨N,m',t',a,b _ _ c⟩
theorem Runs.after{N}(h:runNT Q N m t=(SN m',t'))(c:Runs Q m' t' R):Runs Q m t R:=by
 have⟨K,d,b,e,a⟩:=c;exact⟨N+K,d,b,by rw[runNT_add,h];omega,a⟩
theorem Runs.bind(h:Runs Q m t R)(b:∀m' t',R m' t'->Runs Q m' t' R'):Runs Q m t R':=by
 have⟨N,m',t',a,c⟩:=h;exact(b _ _ c).after a
theorem Runs.step{a}(h:stepT Q m=(SN m',a))(b:Runs Q m' (t++a) R):Runs Q m t R:=
 b.after (N:=1) (by simp[runNT,h])
end
section
variable{Q:SE}{U:Nat->Option Code}{K:Sz->Sw->Prop}
def gS(U:Nat->Option Code):Prop:=∀f c,U f=some c->∃a,c= .refuse a
def wR(j:gS U){g}(h:qc Q U g)(w):∃o,stepG (alt Q U) true g w= .ended o w:=by
 have⟨f,b,k,p,l,t,v⟩:=h;have⟨c,q⟩:=Option.isSome_iff_exists.1 l;obtain⟨r,rfl⟩:=j f c q;have m:∃a,(SW (alt Q U) f b k).todo=[.code (.refuse a)]:=by
  grind [iG,SW,ax]
 have⟨a,m⟩:=m;have z:(SW (alt Q U) f b k).mode= .run:=rfl;have⟨i,s,B,e,n⟩:=g;have u:∀e,stepG.exec (alt Q U) true true i s e w= .ended (.unsupported (Unsupported.elab a) (i.pos (alt Q U))) w:=λe=>by
  simp_all[stepG.exec]
 refine⟨.unsupported (Unsupported.elab a) (i.pos (alt Q U)),?_⟩;cases e with
 |none=>
  simp_all[stepG]
 |some d=>
  have⟨C,F,x,y,A,E,D⟩:=d;simp_all[stepG]
end
end
section
open Go.Conc
structure PT(k:Nat)(TA TB:Touch->Prop)(t:Trace):Prop where
 clean:∀said,¬ Race said t
 knA:∀i a,touchAt t i=some a->a.loc.isMemory=true->Knows t 0 i\/(t.g? i=some k/\TB a)
 knB:∀i a,touchAt t i=some a->a.loc.isMemory=true->Knows t k i\/(t.g? i=some 0/\TA a)
 hA:Deaf t 0=0
 hB:Deaf t k=0
def Apart(c d:Touch->Prop):Prop:=∀a b,c a->d b->a.loc=b.loc->a.loc.isMemory=true->a.write=false/\b.write=false
def Quiet(u:Trace):Prop:=∀g,∀a∈u,∀d,deafStep g d a=d
section
variable{k:Nat}{TA TB TA' TB':Touch->Prop}{t u:Trace}
def PT.mono(H:PT k TA TB t)(d:∀a,TA a->TA' a)(hB:∀a,TB a->TB' a):PT k TA' TB' t:=
 ⟨H.clean,λi a b c=>(H.knA i a b c).imp id λh=>⟨h.1,hB a h.2⟩,λi a b c=>(H.knB i a b c).imp id λh=>⟨h.1,d a h.2⟩,H.hA,H.hB⟩
def PT.PN(H:PT k TA TB t)(l:Apart TA TB)(A:∀op∈u,op.g=0)(y:∀op∈u,∀b,op.act.touch?=some b->b.loc.isMemory=true->TA b)(v:Quiet u):PT k TA TB (t++u):=by
 refine⟨λe=>noRace_append (H.clean e) A λi a g op m b w d=> ?_,λi a g p=> ?_,λi a g p=> ?_,(Deaf_quiet (v 0)).trans H.hA,(Deaf_quiet (v k)).trans H.hB⟩;rcases H.knA i a g d.2.1 with h|⟨_,h⟩<;>first |exact h|(have f:=d.1▸d.2.1;have⟨r,s⟩:=l b a (y op m b w f) h d.1.symm f;rcases d.2.2.1 with x|x<;>grind)
 have⟨x,j,q⟩:=touch_of g;rcases getElem?_append_cases j with⟨z,c⟩|⟨_,n⟩
 rcases H.knA i a (by rw[touchAt_of c];omega) p with h|⟨r,s⟩
 exact .inl (h.app u);simp_all[g?_old]
 have:=knows_own j;grind
 have⟨x,j,q⟩:=touch_of g;rcases getElem?_append_cases j with⟨z,c⟩|⟨_,n⟩
 rcases H.knB i a (by rw[touchAt_of c];omega) p with h|⟨r,s⟩
 exact .inl (h.app u);simp_all[g?_old]
 grind [g?_of]
def PT.NY(H:PT k TA TB t)(j:Apart TA TB)(z:∀op∈u,op.g=k)(w:∀op∈u,∀b,op.act.touch?=some b->b.loc.isMemory=true->TB b)(r:Quiet u):PT k TA TB (t++u):=by
 refine⟨λf=>noRace_append (H.clean f) z λi a e op m b v d=> ?_,λi a e n=> ?_,λi a e n=> ?_,(Deaf_quiet (r 0)).trans H.hA,(Deaf_quiet (r k)).trans H.hB⟩;rcases H.knB i a e d.2.1 with h|⟨_,h⟩<;>first |exact h|(have⟨s,q⟩:=j a b h (w op m b v (d.1▸d.2.1)) d.1 d.2.1;rcases d.2.2.1 with x|x<;>grind)
 have⟨x,g,p⟩:=touch_of e;rcases getElem?_append_cases g with⟨y,c⟩|⟨_,l⟩
 rcases H.knA i a (by rw[touchAt_of c];omega) n with h|⟨s,q⟩
 exact .inl (h.app u);simp_all[g?_old]
 grind [g?_of]
 have⟨x,g,p⟩:=touch_of e;rcases getElem?_append_cases g with⟨y,c⟩|⟨_,l⟩
 rcases H.knB i a (by rw[touchAt_of c];omega) n with h|⟨s,q⟩
 exact .inl (h.app u);simp_all[g?_old]
 have:=knows_own g;grind
def PT.appMute(H:PT k TA TB t)(q:∀op∈u,op.act.touch?=none)(h0:Deaf (t++u) 0=Deaf t 0)(m:Deaf (t++u) k=Deaf t k):PT k TA TB (t++u):=by
 refine⟨λc=>noRace_appendMute (H.clean c) q,λi a e g=> ?_,λi a e g=> ?_,h0.trans H.hA,m.trans H.hB⟩;have⟨x,d,j⟩:=touch_of e;rcases getElem?_append_cases d with⟨p,b⟩|⟨_,f⟩
 rcases H.knA i a (by rw[touchAt_of b];omega) g with h|⟨l,n⟩
 exact .inl (h.app u);simp_all[g?_old]
 grind
 have⟨x,d,j⟩:=touch_of e;rcases getElem?_append_cases d with⟨p,b⟩|⟨_,f⟩
 rcases H.knB i a (by rw[touchAt_of b];omega) g with h|⟨l,n⟩
 exact .inl (h.app u);simp_all[g?_old]
 grind
def PT.meet(H:PT k TA TB t)(d e l f c n):PT k (λ_=>False) (λ_=>False) (t++met k 0 d e l f c n 0):=by
 have F:=met_mute k 0 d e l f c n 0;have s:=met_quiet k 0 d e l f c n 0;have w:(t++met k 0 d e l f c n 0)[t.size]?=some {g:=k,fn:=d,pos:=e,act:= .send c n}:=by simp[met]
 have y:(t++met k 0 d e l f c n 0)[t.size+1]?=some {g:=0,fn:=l,pos:=f,act:= .recv c n 0}:=by simp[met]
 have A:(t++met k 0 d e l f c n 0)[t.size+2]?=some {g:=k,fn:=d,pos:=e,act:= .sendDone c n}:=by simp[met]
 have B:(t++met k 0 d e l f c n 0)[t.size+3]?=some {g:=0,fn:=l,pos:=f,act:= .recvDone c n}:=by simp[met]
 have C:∀g,Deaf t g=0->∀j,j<=4->(t++met k 0 d e l f c n 0).deaf g (t.size+j)=0:=λg E j G=>(deaf_quiet (s g) j (by simpa[met]using G)).trans E
 refine⟨λp=>noRace_appendMute (H.clean p) F,λi a r z=> ?_,λi a r z=> ?_,(Deaf_quiet (s 0)).trans H.hA,(Deaf_quiet (s k)).trans H.hB⟩;have⟨x,m,v⟩:=touch_of r;rcases getElem?_append_cases m with⟨D,b⟩|⟨_,q⟩
 rcases H.knB i a (by rw[touchAt_of b];omega) z with h|⟨K,I⟩<;>first |exact .inl ⟨t.size+3,_,B,rfl,.inr ((h.hb_new (SK _) w rfl).trans (Relation.TransGen.single (.inr ⟨.handOver (act?_of w) (act?_of B),⟨k,g?_of w,by rw[deaf_old (SK _)];exact H.hB⟩,⟨0,g?_of B,C 0 H.hA 3 (by omega)⟩⟩)))⟩|(have:=knows_own m;rw[show x.g=0 from by have:=g?_of b;grind]at this;grind)
 grind
 have⟨x,m,v⟩:=touch_of r;rcases getElem?_append_cases m with⟨D,b⟩|⟨_,q⟩
 rcases H.knA i a (by rw[touchAt_of b];omega) z with h|⟨K,I⟩<;>first |exact .inl ⟨t.size+2,_,A,rfl,.inr ((h.hb_new (by omega) y rfl).trans (Relation.TransGen.single (.inr ⟨.room (act?_of y) (by simp[act?_of A]),⟨0,g?_of y,C 0 H.hA 1 (by omega)⟩,⟨k,g?_of A,C k H.hB 2 (by omega)⟩⟩)))⟩|(have:=knows_own m;rw[show x.g=k from by have:=g?_of b;grind]at this;grind)
 grind
def PT.hire{fn b q}(H:Held t)(h0:Deaf t 0=0)(v:Deaf t k=0)(w:k≠0):PT k (λ_=>False) (λ_=>False) (t++ #[{g:=0,fn:=fn,pos:=b,act:= .go k},{g:=k,fn:=q,pos:=b,act:= .start}]):=by
 generalize s:(#[{g:=0,fn:=fn,pos:=b,act:= .go k},{g:=k,fn:=q,pos:=b,act:= .start}]:Trace)=u;have C:∀h∈u,h.act.touch?=none:=by
  intro h c;subst s;simp[SX]at c;rcases c with rfl|rfl<;>rfl
 have n:∀g,∀h∈u,∀d,deafStep g d h=d:=by
  intro g h c d;subst s;simp[SX]at c;rcases c with rfl|rfl<;>rfl
 have r:(t++u)[t.size]?=some {g:=0,fn:=fn,pos:=b,act:= .go k}:=by grind
 have m:(t++u)[t.size+1]?=some {g:=k,fn:=q,pos:=b,act:= .start}:=by grind
 have f:∀i a,touchAt (t++u) i=some a->a.loc.isMemory=true->i<t.size/\Knows t 0 i:=λi a e j=>by
  have⟨x,y,A⟩:=touch_of e;rcases getElem?_append_cases y with⟨B,p⟩|⟨_,z⟩
  exact⟨B,H.known i a (by rw[touchAt_of p];omega) j⟩;grind
 exact⟨λl=>noRace_appendMute (H.clean l) C,λi a e j=>.inl ((f i a e j).2.app u),λi a e j=>.inl ⟨t.size+1,_,m,rfl,.inr (((f i a e j).2.hb_new (SK _) r rfl).trans (Relation.TransGen.single (.inr ⟨.spawn (act?_of r) (act?_of m) (g?_of m),⟨0,g?_of r,by rw[deaf_old (SK _)];exact h0⟩,⟨k,g?_of m,by rw[deaf_quiet (n k) 1 (by grind)];omega⟩⟩)))⟩,(Deaf_quiet (n 0)).trans h0,(Deaf_quiet (n k)).trans v⟩
def PT.found(H:PT k TA TB t){m op}(F:t[m]?=some op)(L:op.g=k)(M:∃c,op.act= .close c/\True){c}(I:op.act= .close c)(n:∀i x,m<i->t[i]?=some x->x.g=k->x.act.touch?=none)(X:t.deaf k m=0){y}(P:y.g=0)(s:y.act= .recvClosed c):
 Held (t++ #[y]):=by
 have T:∀op∈#[y],op.act.touch?=none:=by
  intro op W;have:op=y:=by grind
  subst this;rw[s];rfl
 have E:(t++ #[y])[t.size]?=some y:=by simp
 have l:=lt_size_of_getElem? F;have w:(t++ #[y])[m]?=some op:=by rw[getElem?_append_old l];omega
 have b:∀i a,touchAt (t++ #[y]) i=some a->a.loc.isMemory=true->Knows (t++ #[y]) 0 i:=λi a B d=>by
  have⟨x,K,j⟩:=touch_of B;rcases getElem?_append_cases K with⟨hi,f⟩|⟨_,Q⟩
  rcases H.knA i a (by rw[touchAt_of f];omega) d with h|⟨Z,_⟩
  exact h.app _;have v:x.g=k:=by have:=g?_of f;grind
  have R:=Nat.le_of_not_lt λD=>by
   rw[n i x D f v]at j;cases j
  have A:i≠m:=λe=>by
   subst e;rw[F]at f;cases f;rw[I]at j;cases j
  refine⟨t.size,y,E,P,.inr (Relation.TransGen.trans (hb_po (t:=t++ #[y]) (by omega) K w (v.trans L.symm)) (Relation.TransGen.single (.inr ⟨.closed (by rw[act?_of w,I]) (by rw[act?_of E,s]),⟨k,by rw[g?_of w,L],by rw[deaf_old (Nat.le_of_lt l)];omega⟩,⟨0,by rw[g?_of E,P],by rw[deaf_old (SK _)];exact H.hA⟩⟩)))⟩;grind
 refine⟨λp=>noRace_appendMute (H.clean p) T,b,λi g C A r=> ?_⟩;have⟨a,B,d,_⟩:=r;have⟨q,z,G,S,N⟩:=b i a B d;refine⟨q,by rw[g?_of G,S],?_⟩;rcases N with rfl|N
 rw[g?_of G]at C;grind
 omega
end
end
section
open Go.Conc
variable[aD]
section
variable{P:SE}{w w1:Sw}{g1:Sz}{c:Array CommCase}{b:Bool}{sh:CommShape}{es:Array Event}
def BJ{l o}(g:isComm o.op){n a j}(h:(Sx l o).runT P w a=(.ok n w1,j)):∀k f,(Sx l o).runT P k f=(.ok n k,f):=by
 intro k f;rcases g with⟨p,x,g⟩|⟨t,p,y,g⟩
 simp_all[Sx]
 simp only[Sx,g,aM,mY]at h ⊢;cases m:P.underlying t with
 |none=>rw[m]at h;cases h
 |some d=>
  rw[m]at h;dsimp only at h ⊢;cases d;case chan r e=>
   have u:∀(w:Sw)(a:Array Event),(zeroValue e).runT P w a=match P.info? e with
    |some i=>match i.zero with
     |some v=>(.ok v w,a)
     |none=>(.halt (.unsupported (.resourceLimit "a value of more than 2^22 cells")) w,a)
    |none=>(.halt (.stuck "no such type") w,a):=λw a=>by
    simp only[zeroValue,aM,jN];cases P.info? e with
    |none=>rfl
    |some i=>
     dsimp only;cases i.zero<;>rfl
   rw[aM,u]at h ⊢;cases s:P.info? e with
   |none=>rw[s]at h;cases h
   |some i=>
    cases q:i.zero<;>simp_all
  all_goals cases h
def FP{m g}(p:tv g.frame)(x:g.dying=none)(s:g.frame.roundOf=none)(e:g.frame.kind= .normal\/g.frame.kind= .deferred)(h:stepG P m g w= .comm g1 c b sh w1 es):
 ∀r d,stepG P r g d= .comm {frame:=g.frame,callers:=g.callers,status:=Sy,dying:=none} c b sh d #[]:=by
 have⟨a,u,E,H,j⟩:=g;dsimp only at x s e p ⊢;subst x;have⟨G,z,i,I,k,o,q,D,C⟩:=p;have A:∀m w,stepG P m {frame:=a,callers:=u,status:=E,dying:=none,offers:=j} w=stepG.exec P m true a u none w:=λm w=>by
  simp_all[stepG]
 intro r d;rw[A]at h ⊢;unfold stepG.exec at h ⊢;dsimp only at h ⊢;rw[q]at h ⊢;dsimp only at h ⊢;split at h;rename_i B;rw[if_pos B];unfold stepG.oper at h ⊢;have f:a.oper?=some o:=by unfold SV;rw[q];exact D
 rw[f]at h ⊢;dsimp only at h ⊢;split at h;rename_i l F v t;rw[s]at v;cases v;have⟨y,t,_,_⟩:=lG e h;have n:(a.kind==CallKind.early)=false:=by rcases e with h|h<;>rw[h]<;>rfl
 unfold stepG.apply;simp only[if_true,n,Bool.false_eq_true,if_false,BJ C t d #[]];rfl;cases h
end
def cG(w:Sw)(r a:Nat)(b:Array Value)(s c:Nat)(d:Bool):Prop:=w.heap[r]?=some (SH a b false s c d)/\∀i o,w.heap[i]?=some o->o.isChan=true->i=r
def cG.to{w r a s k b b2 d}(h:cG w r a b s k d)(e c):cG (ay w r (SH a b2 false e c d)) r a b2 e c d:=by
 refine⟨by simp[ay,(Sv.1 h.1).1],λi o f g=> ?_⟩;by_cases j:r=i;exact j.symm;have:(ay w r (SH a b2 false e c d)).heap[i]?=w.heap[i]?:=by simp_all[ay]
 rw[this]at f;exact h.2 i o f g
def cG.kinds{w g r d s l b k}(h:cG w r d b s l k)(j:∀i o,g.heap[i]?=some o->gV w i o)(m:w.heap.size<=g.heap.size):cG g r d b s l k:=by
 have n:=(Sv.1 h.1).1;refine⟨?_,λi o p e=> ?_⟩;rcases j r _ (SM (by omega))with⟨a,_⟩|⟨⟨c,t,f,a⟩,_⟩|a<;>first |omega |(rw[h.1]at a;cases a)|(rw[h.1]at a;grind)
 rcases j i o p with⟨_,a⟩|⟨_,c,t,f,rfl⟩|a
 cases o<;>first |exact a.elim|cases e
 cases e;exact h.2 i o a e
def jZ(w:Sw)(r:Nat):Prop:=(∃a b s c d,w.heap[r]?=some (SH a b true s c d))/\∀i o,w.heap[i]?=some o->o.isChan=true->i=r
def jZ.kinds{w e r}(h:jZ w r)(j:∀i o,e.heap[i]?=some o->gV w i o)(q:w.heap.size<=e.heap.size):jZ e r:=by
 have⟨⟨d,b,s,p,n,l⟩,u⟩:=h;have k:=(Sv.1 l).1;refine⟨⟨d,b,s,p,n,?_⟩,λi o m g=> ?_⟩;rcases j r _ (SM (by omega))with⟨a,_⟩|⟨⟨c,t,f,a⟩,_⟩|a<;>grind
 rcases j i o m with⟨_,a⟩|⟨_,c,t,f,rfl⟩|a
 cases o<;>first |exact a.elim|cases g
 cases g;grind
section
variable{P:SE}{g g2:Sz}{w w2:Sw}{c:CommCase}{r cap s rc:Nat}{b:Array Value}{tm:Bool}
theorem jF(w:Sw)(a):timerAhead dV w.os.mono a=false:=by
 grind [timerAhead,dV]
def wO{v}(j:cG w r cap b s rc tm)(hs:c.send=some v)(h:(AI P dV #[ph] 0 g #[c] true .send w).1=SN (oneG g2 w2))(n:g2.status=Sy):
 c.chan= .chan (some r)/\g2= {g with frame:=g.frame.finish undef,status:=Sy,offers:=none}/\w2=ay w r (SH cap (b.push v) false (s+1) rc tm):=by
 have⟨f,p,z⟩:=c;subst hs;have i:=cV;have l:∀f,SN {world:=w,gs:=(#[ph]:Array Sz).setIfInBounds 0 {g with status:= .blocked,offers:=some (#[{chan:=f,send:=some v,zero:=z}],.send)},rest:=dV}=SN (oneG g2 w2)->False:=λf e=>by
  grind [oneG]
 cases f;case chan x=>
  cases x with
  |none=>
   grind [AI,ways,jF,waitingAt]
  |some m=>
   cases k:w.heap[m]? with
   |none=>simp[AI,k]at h
   |some o=>
    by_cases d:o.isChan=true<;>first |(have:=j.2 m o k d;subst this;by_cases a:b.size<cap<;>first |(simp[AI,ways,j.1,i,a,choose,SS,SG,bind,SP,pure,SF,commResult,oneG]at h;exact⟨rfl,h.2.1.symm,h.1.symm⟩)|(simp[AI,ways,j.1,jF,waitingAt]at h;grind))|cases o<;>first |exact absurd rfl d|simp[AI,k]at h
 all_goals simp[AI]at h
def Fo{v}(k:jZ w r)(hs:c.send=some v)(h:(AI P dV #[ph] 0 g #[c] true .send w).1=SN (oneG g2 w2))(m:g2.status=Sy):
 g2= {g with frame:=g.frame.raise [{v:= .iface P.rt.plainError (strVal "send on closed channel"),recovered:=false}]}/\w2=w:=by
 have⟨⟨cap,b,s,rc,tm,j⟩,p⟩:=k;have⟨a,n,z⟩:=c;have f:∀a,SN {world:=w,gs:=(#[ph]:Array Sz).setIfInBounds 0 {g with status:= .blocked,offers:=some (#[{chan:=a,send:=some v,zero:=z}],.send)},rest:=dV}=SN (oneG g2 w2)->False:=λa e=>by
  grind [oneG]
 cases a;case chan x=>
  cases x with
  |none=>
   grind [AI,ways,jF,waitingAt]
  |some l=>
   cases i:w.heap[l]? with
   |none=>simp[AI,i]at h
   |some o=>
    by_cases d:o.isChan=true;simp[AI,ways,j,cV,choose,SS,SG,bind,SP,pure,oneG,runtimePanic,program]at h;grind
    cases o<;>first |exact absurd rfl d|simp[AI,i]at h
 all_goals simp[AI]at h
def Fp{ok}(j:cG w r cap b s rc tm)(hs:c.send=none)(h:(AI P dV #[ph] 0 g #[c] true (.recv ok) w).1=SN (oneG g2 w2))(n:g2.status=Sy):
 c.chan= .chan (some r)/\0<b.size/\g2= {g with frame:=g.frame.finish (recvd ok (b.getD 0 undef) true),status:=Sy,offers:=none}/\w2=ay w r (SH cap (b.extract 1 b.size) false s (rc+1) tm):=by
 have⟨f,p,z⟩:=c;subst hs;have i:=cV;have l:∀f,SN {world:=w,gs:=(#[ph]:Array Sz).setIfInBounds 0 {g with status:= .blocked,offers:=some (#[{chan:=f,send:=none,zero:=z}],.recv ok)},rest:=dV}=SN (oneG g2 w2)->False:=λf e=>by
  grind [oneG]
 cases f;case chan x=>
  cases x with
  |none=>
   grind [AI,ways,jF,waitingAt]
  |some m=>
   cases k:w.heap[m]? with
   |none=>simp[AI,k]at h
   |some o=>
    by_cases d:o.isChan=true<;>first |(have:=j.2 m o k d;subst this;by_cases a:0<b.size<;>first |cases ok<;>simp[AI,ways,j.1,i,a,choose,SS,SG,bind,SP,SF,commResult,oneG]at h<;>exact⟨rfl,a,by simp_all[recvd],h.1.symm⟩|(simp[AI,ways,j.1,jF,waitingAt]at h;grind))|cases o<;>first |exact absurd rfl d|simp[AI,k]at h
 all_goals simp[AI]at h
end
section
variable{P:SE}{K K':Sz->Sw->Prop}
def Tree.FN{g w}(h:Tree P K g w)(b:∀g w,K g w->Tree P K' g w):Tree P K' g w:=by
 induction h with
 |stop h=>exact b _ _ h
 |step G W E c a _ d=>exact .step G W E c a d
def Tree.iv(T:bz P){g w}(h:Tree P K g w):Iv g w->Tree P (λg w=>K g w/\Iv g w) g w:=by
 induction h with
 |stop h=>exactλb=>.stop ⟨h,b⟩
 | @step g w G W E f c _ i=>exactλb=>.step G W E f c λa d e=>i a d e (nI T (fE b a d) (c a d e))
def Tree.ah{g w a d}(h:Tree P K g (ah w a d))(f:∀g w a d,K g (Go.Proofs.YtkgohmcmmcpigabGreatDoor.ah w a d)->K g w):Tree P K g w:=by
 cases h with
 |stop h=>exact .stop (f _ _ _ _ h)
 |step G W E c b e=>exact .step G W E c b e
def cl(K:Sz->Sw->Prop)(g:Sz)(w:Sw):Prop:=∃a d,K g (Go.Proofs.YtkgohmcmmcpigabGreatDoor.ah w a d)
def zy(g w b d)(h:cl K g (Go.Proofs.YtkgohmcmmcpigabGreatDoor.ah w b d)):cl K g w:=by
 have⟨a,c,h⟩:=h;exact⟨a,c,h⟩
def Lj{g w}(h:K g w):cl K g w:=⟨w.tape,w.drawn,h⟩
def HH{g w}(h:yZ P K g w):yZ P (cl K) g w:=by
 have⟨n,b,c,a,d⟩:=h;exact⟨n,b,c,a,Lj d⟩
end
def aH{P:SE}(T:bz P):dZ P where
 okF _:=True
 H K g w:=Iv g w->Tree P (cl K) g w
 re K g w a d h b:=Tree.ah (h (fE b a d)) (λg w a d=>zy g w a d)
 stop K g w h b:=.stop (Lj h)
 bind K m g w h k b:=((h b).iv T b).FN λe l ⟨⟨a,d,c⟩,j⟩=>Tree.ah (k e _ c (fE j a d)) (λg w a d=>zy g w a d)
 hit K g w f i h b:=bar T (λg w a d=>zy g w a d) (λg w ⟨_,_,h⟩=>(i _ _ h).1) b f λa d=>HH (h a d)
section
variable{P:SE}{T:bz P}{a:Act}{w:Sw}{ops:Array Oper}{i:Nat}{rest:List Nat}{o:Oper}{Q:Exit->Act->Sw->Prop}
def ud{b:Frame}{k cs u c sh}(d:ops[i]?=some o)(e:SD o (yielded ops a.tmps)=true)
 (f:(Sx a.eval o).run P u= .ok (.comm #[c] true sh) u):∃g,stepG P true (bO (b.at a (Su ops (i::rest)::k)) cs) u= .comm (bO (b.at a (Su ops (i::rest)::k)) cs) #[c] true sh u g:=by
 simp[bO,stepG_op d e,stepG.apply,f];exact⟨_,rfl⟩
def mh{r f s x q y v z}(B:ops[i]?=some o)(G:SD o (yielded ops a.tmps)=true)
 (H:∀u,(Sx a.eval o).run P u= .ok (.comm #[{chan:= .chan (some r),send:=some v,zero:=z}] true .send) u)
 (E:w.heap[r]?=some (SH f q false s x y)) (l:q.size<f)
 (h:aV (aH T) ops Q rest (a.put o.dst undef) (ay w r (SH f (q.push v) false (s+1) x y))):aV (aH T) ops Q (i::rest) a w:=λb k m K t C A=>by
 intro F;have n:(b.at a (Su ops (i::rest)::k)).finish undef=b.at (a.put o.dst undef) (Su ops rest::k):=by simp[T8,B]
 have p:=λc d=>ud (P:=P) (b:=b) (k:=k) (cs:=m) (rest:=rest) B G (H (ah w c d))
 have j:∀c d,gT P (bO (b.at a (Su ops (i::rest)::k)) m) (ah w c d) (bO (b.at (a.put o.dst undef) (Su ops rest::k)) m) (ah (ay w r (SH f (q.push v) false (s+1) x y)) c d) (SY (p c d)):=λc d=>by
  refine .comm (SO (p c d)) ?_;generalize D:bO (b.at a (Su ops (i::rest)::k)) m=g;have e:bO (b.at (a.put o.dst undef) (Su ops rest::k)) m= {g with frame:=g.frame.finish undef,status:=Sy,offers:=none}:=by
   rw[<- D,<- n];rfl
  simp[e,AI,ways,E,cV,l,SS,SG,SP,SF,commResult,oneG,ay,ah,dV]
 exact .step _ _ _ rfl (λc d _=>j c d) λc d _=>(aH T).er (h b k m K t C A) c d (nI T (fE F c d) (j c d))
def F3{r m s x c A ok z}(B:ops[i]?=some o)(C:SD o (yielded ops a.tmps)=true)
 (F:∀u,(Sx a.eval o).run P u= .ok (.comm #[{chan:= .chan (some r),send:=none,zero:=z}] true (.recv ok)) u)
 (D:w.heap[r]?=some (SH m c false s x A)) (j:0<c.size)
 (h:aV (aH T) ops Q rest (a.put o.dst (recvd ok (c.getD 0 undef) true)) (ay w r (SH m (c.extract 1 c.size) false s (x+1) A))):aV (aH T) ops Q (i::rest) a w:=λb k n K v E y=>by
 intro G;have p:(b.at a (Su ops (i::rest)::k)).finish (recvd ok (c.getD 0 undef) true)=b.at (a.put o.dst (recvd ok (c.getD 0 undef) true)) (Su ops rest::k):=by rw[T8,B];rfl
 have q:=λf d=>ud (P:=P) (b:=b) (k:=k) (cs:=n) (rest:=rest) B C (F (ah w f d))
 have l:∀f d,gT P (bO (b.at a (Su ops (i::rest)::k)) n) (ah w f d) (bO (b.at (a.put o.dst (recvd ok (c.getD 0 undef) true)) (Su ops rest::k)) n) (ah (ay w r (SH m (c.extract 1 c.size) false s (x+1) A)) f d) (SY (q f d)):=λf d=>by
  refine .comm (SO (q f d)) ?_;generalize t:bO (b.at a (Su ops (i::rest)::k)) n=g;have e:bO (b.at (a.put o.dst (recvd ok (c.getD 0 undef) true)) (Su ops rest::k)) n= {g with frame:=g.frame.finish (recvd ok (c.getD 0 undef) true),status:=Sy,offers:=none}:=by
   rw[<- t,<- p];rfl
  rw[e];have t:c.getD 0 undef=c[0]:=by simp[Array.getD,j]
  cases ok<;>simp[AI,ways,D,cV,j,choose,SS,SG,bind,SP,pure,SF,commResult,oneG,ay,ah,recvd,t,dV]
 exact .step _ _ _ rfl (λf d _=>l f d) λf d _=>(aH T).er (h b k n K v E y) f d (nI T (fE G f d) (l f d))
def yy{r c s e v b d ok z}(j:ops[i]?=some o)(f:SD o (yielded ops a.tmps)=true)
 (k:∀u,(Sx a.eval o).run P u= .ok (.comm #[{chan:= .chan (some r),send:=none,zero:=z}] true (.recv ok)) u)
 (l:w.heap[r]?=some (SH c (v::b).toArray false s e d))
 (h:aV (aH T) ops Q rest (a.put o.dst (if ok then .tuple #[v,.bool true]else v)) (ay w r (SH c b.toArray false s (e+1) d))):aV (aH T) ops Q (i::rest) a w:=by
 refine F3 j f k l (by simp) ?_;have m:((v::b).toArray).extract 1 ((v::b).toArray).size=b.toArray:=by simp
 have g:recvd ok (((v::b).toArray).getD 0 undef) true=if ok then .tuple #[v,.bool true]else v:=by
  cases ok<;>simp[recvd]
 rw[m,g];omega
end
end
section
open Go.Conc
section
variable{P:SE}{D:dZ P}{ops:Array Oper}{Q:Exit->Act->Sw->Prop}{md:Region.Mode}
inductive l8(D:dZ P)(ops:Array Oper)(Q:Exit->Act->Sw->Prop)(i:Nat)(N:Act->Sw->Prop)(a:Act)(w:Sw):Prop
 |lone (h:∀Y d,wpOp P ops Q i N a (ah w Y d))
 |call {o f args R} (ho:ops[i]?=some o) (hw:SD o (yielded ops a.tmps)=true) (hx:∀u:Sw,(Sx a.eval o).run P u= .ok (.enter f args) u) (hf:D.okF f) (h:cb D f args w R)
  (hr:∀v w',R (.returned v) w'->N (a.put o.dst v) w') (hp:∀ch w',R (.panicked ch) w'->Q (SI ch) a w')
def iL(D:dZ P)(md:Region.Mode)(ops:Array Oper)(Q:Exit->Act->Sw->Prop):Nat->Array Bool->Act->Sw->Prop
 |0,b,a,w=>AS md ops b=[]/\Q SC a w
 |c+1,b,a,w=>(∀f d,wpAny P md ops Q (c+1) b a (ah w f d))\/((AS md ops b=[]->Q SC a w)/\∀i∈AS md ops b,l8 D ops Q i (iL D md ops Q c (b.setIfInBounds i true)) a w)
def l8.mono{i N c a w}(h:l8 D ops Q i N a w)(b:∀a w,N a w->c a w):l8 D ops Q i c a w:=by
 cases h with
 |lone h=>exact .lone λp d=>wpOp_mono b (h p d)
 |call e g n f h k m=>exact .call e g n f h (λv l j=>b _ _ (k v l j)) m
def l8.thn{i N a w rest}(h:l8 D ops Q i N a w)(d:∀a w,N a w->aV D ops Q rest a w):aV D ops Q (i::rest) a w:=by
 cases h with
 |lone h=>exact Mb h (λc b h=>d _ _ h) (λn c b h=>h) λc b h=>h
 |call l g k m h e j=>exact f9 l g k m h (λv b f=>d _ _ (e v b f)) j
def FS:∀c t b a w,iL D md ops Q c b a w->aV D ops Q (Region.linearise.go md ops c t b []) a w:=by
 intro c;induction c with
 |zero=>intro t b a w h;exact az h.2
 |succ c j=>
  intro t b a w h;rcases h with h|h
  have:=r7 (D:=D) (rest:=[]) (Q:=Q) (Q1:=Q) (l:=Region.linearise.go md ops (c+1) t b []) (λk d=>wpAny_sound (c+1) t b a _ (h k d)) (λn g h=>az h) (λq n g h=>h) λ_ _ h=>h
  rw[List.append_nil]at this;omega;simp only[Region.linearise.go];change aV D ops Q (match(AS md ops b)[t% (AS md ops b).length]? with|some i=>Region.linearise.go md ops c (t/ (AS md ops b).length) (b.setIfInBounds i true) [i]|none=>[].reverse) a w
  cases f:(AS md ops b)[t% (AS md ops b).length]? with
  |none=>
   have e:AS md ops b=[]:=by
    cases m:AS md ops b with
    |nil=>rfl
    |cons x p=>
     rw[m]at f;rw[List.getElem?_eq_getElem (Nat.mod_lt _ (by simp))]at f;cases f
   exact az (h.1 e)
  |some i=>
   dsimp only;rw[linearise_go_acc,List.reverse_singleton,List.singleton_append];exact(h.2 i (List.mem_of_getElem? f)).thn λa w=>j _ _ a w
def qg{c a w}(b:P.follows .mixedOrders=true)(h:iL D .any ops Q ops.size (Array.replicate ops.size false) a w):cL D (.region c ops true) Q a w:=
 oM λt=>by
  simp[b];exact FS ops.size t _ a _ h
def l8.yD{i o v a}(hi:ops[i]?=some o)(c:SL P ops o v a){N w}(h:∀b d,N (a.put o.dst v) (ah w b d)):l8 D ops Q i N a w:=
 .lone λb d=>c.wpOp hi (h b d)
def Ec(g:∀a w e d,Q SC a w->Q SC a (ah w e d)):∀c b a w e d,iL D md ops Q c b a w->iL D md ops Q c b a (ah w e d):=by
 intro c;cases c with
 |zero=>exactλb a w e d h=>⟨h.1,g _ _ _ _ h.2⟩
 |succ c=>
  intro b a w e d h;rcases h with h|h
  exact .inl λe d=>h e d
  refine .inr ⟨λf=>g _ _ _ _ (h.1 f),λi n=> ?_⟩;cases h.2 i n with
  |lone h=>exact .lone λe d=>h e d
  |call j l m p h f k=>exact .call j l m p (h.er e d) f k
def l8.put{j g n v}(q:ops[j]?=some n)(l:g.apart ops n=true)
 (k:∀cs b,g.op≠.select cs b) (i:∀cs b,n.op≠.select cs b)
 (x:∀c a w,Q (SI c) (a.put g.dst v) w->Q (SI c) a w) {N a w}
 (y:SL P ops g v a) (h:l8 D ops Q j N (a.put g.dst v) w):l8 D ops Q j (λA m=>SL P ops g v A/\N (A.put g.dst v) m) a w:=by
 cases h with
 |lone h=>exact .lone λB d=>wpOp_put q l k i x y (h B d)
 | @call o f r R z K E F h I C=>
  have e:=Option.some.inj (z.symm.trans q);subst e;have⟨p,H,t⟩:=Oper.apart_spec l;refine .call z (by rw[<- wanted_put o a g.dst v p];omega) (λu=>by rw[<- execOp_put o i a g.dst v p];exact E u) F h (λu m s=> ?_) λG m s=>x _ _ _ (C G m s)
  refine⟨y.of_same (execOp_put g k a o.dst u t) (wanted_put g a o.dst u t),?_⟩;rw[<- Act.put_comm a v u H];grind
def FT{i u v}(hi:ops[i]?=some u)(n:∀(j:Nat) o cs b,ops[j]?=some o->o.op≠.select cs b)
 (N:∀c a w,Q (SI c) (a.put u.dst v) w->Q (SI c) a w) (R:∀a w x d,Q SC a w->Q SC a (ah w x d)):
 ∀g f a w,
  (∀j t,ops[j]?=some t->j≠i->f.getD j true=false->(∀e∈t.after,SR md e=true->e.on≠i)->u.apart ops t=true)->
  i∈AS md ops f->SL P ops u v a->
  iL D md ops Q g (f.setIfInBounds i true) (a.put u.dst v) w->iL D md ops Q (g+1) f a w:=by
 intro g;induction g with
 |zero=>
  intro f a w _ q B H;refine .inr ⟨λh=>(by rw[h]at q;cases q),λj G=> ?_⟩;by_cases l:j=i<;>first |(subst l;exact .yD hi B λx d=>Ec R _ _ _ _ x d H)|(have:=ready_mono G l;rw[H.1]at this;cases this)
 |succ g X=>
  intro f a w m q B H;rcases H with H|H
  exact .inl λx d=>wpAny_first hi n N (g+1) f a _ m q B (H x d)
  refine .inr ⟨λh=>(by rw[h]at q;cases q),λj G=> ?_⟩;by_cases l:j=i;subst l;exact .yD hi B λx d=>Ec R _ _ _ _ x d (.inr H)
  have s:=H.2 j (ready_mono G l);have⟨r,t,y,A⟩:=mem_ready.1 G;have z:∀e∈t.after,SR md e=true->e.on≠i:=λe he Z M=>by
   have s:=A e he Z;have T:=(mem_ready.1 q).1;rw[M]at s;rcases Nat.lt_or_ge i f.size with L|L<;>first |(simp[L]at T s;rw[T]at s;cases s)|simp[Array.getElem?_eq_none L]at s
  have p:∀k F,ops[k]?=some F->k≠i->(f.setIfInBounds j true).getD k true=false->
   (∀e∈F.after,SR md e=true->e.on≠i)->u.apart ops F=true:=λk F hk I E K=>by
   refine m k F hk I ?_ K;by_cases C:j=k<;>first |(subst C;exact r)|(rw[getD_set_ne true C]at E;exact E)
  refine l8.mono (l8.put y (m j t y l r z) (λcs b=>n i u cs b hi) (λcs b=>n j t cs b y) N B s) λW w' S=>X (f.setIfInBounds j true) W w' p (ready_mono q (Ne.symm l)) S.1 ?_
  rw[Array.setIfInBounds_comm _ _ l];exact S.2
def ID{i f v e b a w}(hi:ops[i]?=some f)
 (hs:T4 ops=true) (j:Region.free md ops b i=true) (l:(AS md ops b).contains i=true)
 (m:∀c a w,Q (SI c) (a.put f.dst v) w->Q (SI c) a w) (n:∀a w k d,Q SC a w->Q SC a (ah w k d)) (g:SL P ops f v a)
 (h:iL D md ops Q e (b.setIfInBounds i true) (a.put f.dst v) w):iL D md ops Q (e+1) b a w:=
 FT hi (Region.noSelect_spec hs) m n e b a w (Region.free_spec hi j) (by simpa using l) g h
def dr{rs c b a w}(e:AS md ops b=rs)(d:rs≠[])
 (h:∀i∈rs,l8 D ops Q i (iL D md ops Q c (b.setIfInBounds i true)) a w):iL D md ops Q (c+1) b a w:=
 .inr ⟨λf=>absurd (e▸f) d,e▸h⟩
def l8.walk{i o N a w}(j:ops[i]?=some o)(h:∀f,SJ (∀a w,N a w->f a w)->∀c,c.heap=w.heap->wpList P ops (Exit.then f Q) [o] a c):l8 D ops Q i N a w:=
 .lone λe d=>by
  have:=h N (SU λ_ _ h=>h) (ah w e d) rfl;simp[wpOp,j];unfold wpList at this;split;rename_i b;rw[if_pos b]at this;rcases this with this|⟨g,p,m,k⟩
  refine .inl ?_;generalize (Sx a.eval o).run P (ah w e d)=r at this;cases r with
  |ok n l=>
   cases n<;>first
    |exact this
  |halt x l=>cases x<;>exact this
  exact .inr ⟨g,p,m,k⟩;rename_i b;rw[if_neg b]at this;exact this
def KO{l k c b a w}(f:∀j,l[j]?=ops[k+j]?)(hs:Region.seqB md ops (c+1) k b=true)(g:l.length=c+1)
 (h:∀e,e.heap=w.heap->wpList P ops Q l a e):iL D md ops Q (c+1) b a w:=.inl λi d=>by
 rw[<- g]at hs ⊢;exact wpAny_of_seq l k b a _ f hs (h _ rfl)
def vy{x y a w}(h:∀K,SJ (∀a w,cL D y Q a w->K a w)->SJ (∀a w b d,K a w->K a (ah w b d))->cL D x (Exit.then K Q) a w):cL D (.seq x y) Q a w:=
 xo (h _ (SU λ_ _ h=>h) (SU λ_ _ b d h=>N6 h b d))
def IZ{c a w}(f:∀a w b d,Q SC a w->Q SC a (ah w b d))(h:∀K,SJ (∀a w,Q SC a w->K a w)->SJ (∀a w b d,K a w->K a (ah w b d))->cL D c (Exit.then K Q) a w):cL D c Q a w:=
 zK (h (Q SC) (SU λ_ _ h=>h) (SU f)) λe a w h=>by cases e<;>exact h
def m9{c a w}(I:Nat->Act->Sw->Prop)(t)(h0:I t a w)(round:∀n a w,I n a w->cL D c (Exit.then (λp h=>∃m,m<n/\I m p h) Q) a w):cL D (.loop c) Q a w:=λb k r K d s g=>by
 have j:∀n a w,I n a w->D.H K (bO (b.at a (.code c:: .inLoop c::k)) r) w:=by
  intro n;induction n using Nat.strongRecOn with
  |_ n x=>
   intro a w v;refine round n a w v b (.inLoop c::k) r K d s λe p h f=> ?_
   cases e with
   |normal=>
    have⟨m,q,i⟩:=f;exact D.one (λu=>step_inLoop) d (x m q p h i)
   |exit z=>exact pq rfl (by simp) (g _ _ _ f)
   |goto l=>exact pq rfl (by simp) (g _ _ _ f)
   |ret=>exact g _ _ _ f
   |panic y=>exact g _ _ _ f
   |outgrown=>exact g _ _ _ f
 exact D.one (λu=>step_loop) d (j _ a w h0)
def lY{l a:List Oper}{i o}(h:l.drop i=o::a):l.toArray[i]?=some o:=by
 have:(l.drop i)[0]?=some o:=by simp[h]
 grind
section
variable{l tl:List Oper}{i:Nat}{oi:Oper}
def eI{v e b a w}(hi:l.drop i=oi::tl)
 (hs:T4 l.toArray=true) (j:Region.free md l.toArray b i=true) (k:(AS md l.toArray b).contains i=true)
 (m:∀c a w,Q (SI c) (a.put oi.dst v) w->Q (SI c) a w) (n:∀a w f d,Q SC a w->Q SC a (ah w f d)) (g:SL P l.toArray oi v a)
 (h:iL D md l.toArray Q e (b.setIfInBounds i true) (a.put oi.dst v) w):iL D md l.toArray Q (e+1) b a w:=
 ID (lY hi) hs j k m n g h
def jg.walk{N a w}(hi:l.drop i=oi::tl)(h:∀b,SJ (∀a w,N a w->b a w)->∀c,c.heap=w.heap->wpList P l.toArray (Exit.then b Q) [oi] a c):l8 D l.toArray Q i N a w:=
 l8.walk (lY hi) h
theorem jg.call{N a w f args R}(hi:l.drop i=oi::tl)(d:SD oi (yielded l.toArray a.tmps)=true)(g:∀u,(Sx a.eval oi).run P u= .ok (.enter f args) u)(j:D.okF f)(h:cb D f args w R)
 (c:∀v b,R (.returned v) b->N (a.put oi.dst v) b) (e:∀ch b,R (.panicked ch) b->Q (SI ch) a b):l8 D l.toArray Q i N a w:=.call (lY hi) d g j h c e
def lI{k c b a w}(hs:Region.seqB md l.toArray (c+1) k b=true)(e:(l.drop k).length=c+1)
 (h:∀d,d.heap=w.heap->wpList P l.toArray Q (l.drop k) a d):iL D md l.toArray Q (c+1) b a w:=
 KO λj=>by simp hs e h
def bF{rest a w f args R}(hi:l.drop i=oi::tl)(d:SD oi (yielded l.toArray a.tmps)=true)
 (g:∀u,(Sx a.eval oi).run P u= .ok (.enter f args) u) (j:D.okF f) (h:cb D f args w R)
 (c:∀v b,R (.returned v) b->aV D l.toArray Q rest (a.put oi.dst v) b) (e:∀ch b,R (.panicked ch) b->Q (SI ch) a b):aV D l.toArray Q (i::rest) a w:=f9 (lY hi) d g j h c e
end
end
end
structure Tok where
 kind:Int
 at_:Int
 b0:Int
 b1:Int
 b2:Int
 b3:Int
 least:Int
 most:Int
 bad:Bool
inductive Nd where
 |set (id b0 b1 b2 b3:Int)
 |edge (id:Int) (fin:Bool)
 |seq (id:Int) (kids:List Nd)
 |alt (id:Int) (kids:List Nd)
 |grp (id:Int) (kid:Nd) (num:Int)
 |rep (id:Int) (kid:Nd) (least most:Int)
structure g7 where
 ts:List Tok
 t:Tok
 n:Int
 g:Int
inductive FX where
 |tok
 |own (k at_:Int)
inductive eJ(α:Type) where
 |ok (a:α) (s:g7)
 |err (x:FX) (s:g7)
def bN{c b:Type}(x:Option (eJ c))(f:c->g7->Option (eJ b)):Option (eJ b):=match x with|none=>none|some (.err e s)=>some (.err e s)|some (.ok a s)=>f a s
def cy(s:g7):Option (eJ Unit):=match s.ts with
 |[]=>none
 |t::a=>some (if t.kind=8 then .err .tok ⟨a,t,s.n,s.g⟩else .ok () ⟨a,t,s.n,s.g⟩)
def gn(s:g7):Option (eJ Int):=if 0<=s.n/\s.n<1000000 then some (.ok (s.n+1) ⟨s.ts,s.t,s.n+1,s.g⟩)else none
mutual
def im:Nat->Int->g7->Option (eJ Nd)
 |0,_,_=>none
 |f+1,d,s=>bN (gn s) λid s=>il f d id [] s
def il:Nat->Int->Int->List Nd->g7->Option (eJ Nd)
 |0,_,_,_,_=>none
 |f+1,d,id,ks,s=>if ks.length<1000000 then bN (kS f d s) λk s=>if s.t.kind=6 then bN (cy s) λ_ s=>il f d id (ks++[k]) s else some (.ok (.alt id (ks++[k])) s)else none
def kS:Nat->Int->g7->Option (eJ Nd)
 |0,_,_=>none
 |f+1,d,s=>bN (gn s) λid s=>jP f d id [] s
def jP:Nat->Int->Int->List Nd->g7->Option (eJ Nd)
 |0,_,_,_,_=>none
 |f+1,d,id,ks,s=>
  if s.t.kind=0\/s.t.kind=6\/s.t.kind=5 then
   if s.t.kind=5/\d=0 then some (.err (.own 11 s.t.at_) s)
   else if ks.length=0 then some (.err (.own 9 s.t.at_) s)
   else some (.ok (.seq id ks) s)
  else if s.t.kind=7 then some (.err (.own 8 s.t.at_) s)
  else if ks.length<1000000 then bN (gm f d s) λk s=>jP f d id (ks++[k]) s else none
def gm:Nat->Int->g7->Option (eJ Nd)
 |0,_,_=>none
 |f+1,d,s=>bN (ik f d s) λk s=>fP f k s
def fP:Nat->Nd->g7->Option (eJ Nd)
 |0,_,_=>none
 |f+1,k,s=>if s.t.kind=7 then(if s.t.bad then some (.err .tok s)else bN (gn s) λid s=>bN (cy s) λ_ s'=>fP f (.rep id k s.t.least s.t.most) s')else some (.ok k s)
def ik:Nat->Int->g7->Option (eJ Nd)
 |0,_,_=>none
 |f+1,d,s=>if s.t.kind=4 then iy f d s else
  bN (cy s) λ_ s'=>bN (gn s') λid s'=>if s.t.kind=2 then some (.ok (.edge id false) s')else if s.t.kind=3 then some (.ok (.edge id true) s')else some (.ok (.set id s.t.b0 s.t.b1 s.t.b2 s.t.b3) s')
def iy:Nat->Int->g7->Option (eJ Nd)
 |0,_,_=>none
 |f+1,d,s=>
  if s.g=9 then some (.err (.own 12 s.t.at_) s)
  else if 0<=d/\d<1000/\0<=s.g/\s.g<1000 then
   bN (gn ⟨s.ts,s.t,s.n,s.g+1⟩) λid s1=>bN (cy s1) λ_ s2=>bN (im f (d+1) s2) λk s3=>
    if s3.t.kind=5 then bN (cy s3) λ_ s4=>some (.ok (.grp id k (s.g+1)) s4)else some (.err (.own 10 s.t.at_) s3)
  else none
end
end Go.Proofs.YtkgohmcmmcpigabGreatDoor
