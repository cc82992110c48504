/- A part of the proof that Within holds; no condition. -/
import Derived.Conc.Beside
import Derived.Conc.TokenTrace
import Derived.RegionTactic
import Derived.StillTail
import Derived.Test.YtkgohmcmmcpigaaGreatDoorW03
set_option linter.unusedSectionVars false
set_option linter.unusedSimpArgs false
set_option linter.unusedVariables false
namespace Go.Proofs.YtkgohmcmmcpigaaGreatDoor
open Go
open Go renaming communicate->up,World->AS,execOp->AT,Goroutine->By,Program->If,Yields->OF
open Go.Region renaming ready->x5,wanted->BY,binds->Sz,noSelect->SK
open _root_.Array renaming getElem?_eq_some_iff->AI,getElem?_eq_getElem->Su
open Go.Goroutine renaming finishComm->IN
open Go.Question renaming forced->IS
open Go.RowKit renaming Hid->IT
open _root_.Nat renaming le_refl->No
open _root_.Bool renaming and_eq_true->Sv
open _root_.Classical renaming choose_spec->Sw,choose->SI
open Go.Sem renaming bind->Sx,run->SC
open Go.Stepped renaming next->Sy
open Go.Lib renaming hid->SD
open Go.Frame renaming oper?->SE,enter->SF,finish_at->SM
open _root_.List renaming not_mem_nil->SG,mem_toArray->SH
open Go.CallKind renaming early->SN
section
variable[aD]
def isComm(o:Op):Prop:=(∃c x,o= .send c x)\/∃t c ok,o= .recv t c ok
structure tv(fr:Frame):Prop where
 mode:fr.mode= .run
 at_:∃ops i is k o,fr.todo= .inRegion ops (i::is)::k/\ops[i]?=some o/\isComm o.op
section
variable{P:If}{fr:Frame}{cs:List Frame}{w w1:AS}{g1:By}{c:Array CommCase}{b:Bool}{sh:CommShape}{es:Array Event}
theorem lG{s}(hk:fr.kind= .normal\/fr.kind= .deferred)(h:stepG.apply P true fr cs none s w= .comm g1 c b sh w1 es):
 ∃es0,s.runT P w #[]=(.ok (.comm c b sh) w1,es0)/\g1= {frame:=fr,callers:=cs,status:=.running,dying:=none}/\es=seen P fr.fn es0:=by
 have hke:(fr.kind==SN)=false:=by rcases hk with h|h<;>rw[h]<;>rfl
 simp only[stepG.apply,if_true]at h;generalize hr:s.runT P w #[]=x at h;obtain⟨r,e0⟩:=x;cases r with
 |ok n v=>
  cases n;case comm a b' c'=>
   obtain⟨e2,h4,rfl⟩:=bC h<;>grind
  all_goals
   dsimp only at h;obtain⟨e2,h4,_⟩:=bC h;first
    |(
     repeat' split at h4
     all_goals cases h4)
 |halt x v=>
  exfalso;cases x;case fatal m=>
   obtain⟨e2,h4,_⟩:=bC h;exact mM h4
  case unsupported u=>
   cases u;case initOrder g=>
    obtain⟨e2,h4,_⟩:=bC h;exact wW h4
   all_goals
    obtain⟨e2,h4,_⟩:=bC h;cases h4
  all_goals
   obtain⟨e2,h4,_⟩:=bC h;cases h4
theorem Kx{ρ o}(ho:isComm o.op){n es0 es1}(h:(AT ρ o).runT P w es0=(.ok n w1,es1)):w1=w/\es1=es0:=by
 rcases ho with⟨ch,x,ho⟩|⟨t,ch,ok,ho⟩
 .simp_all[AT]
 .simp only[AT,ho,aM,mY]at h;cases hu:P.underlying t with
  |none=>rw[hu]at h;cases h
  |some d=>
   simp only[hu]at h;cases d;case chan dir e=>
    rw[aM]at h;have hz:(zeroValue e).runT P w es0=match P.info? e with
     |some i=>match i.zero with
      |some v=>(.ok v w,es0)
      |none=>(.halt (.unsupported (.resourceLimit "a value of more than 2^22 cells")) w,es0)
     |none=>(.halt (.stuck "no such type") w,es0):=by
     simp only[zeroValue,aM,jN];cases P.info? e with
     |none=>rfl
     |some i=>
      dsimp only;cases i.zero<;>rfl
    rw[hz]at h;cases hi:P.info? e with
    |none=>rw[hi]at h;cases h
    |some i=>
     cases hz0:i.zero<;>simp_all
   all_goals cases h
theorem uA{m g}(hA:tv g.frame)(hd:g.dying=none)(hr:g.frame.roundOf=none)(hk:g.frame.kind= .normal\/g.frame.kind= .deferred)(h:stepG P m g w= .comm g1 c b sh w1 es):
 w1=w/\es=#[]/\g1= {frame:=g.frame,callers:=g.callers,status:=.running,dying:=none}:=by
 obtain⟨fr,cs,st,dy,off⟩:=g;subst hd;obtain⟨hm,ops,i,is,k,o,ht,ho,hc⟩:=hA;have e1:stepG P m {frame:=fr,callers:=cs,status:=st,dying:=none,offers:=off} w=stepG.exec P m true fr cs none w:=by
  simp_all[stepG]
 rw[e1]at h;unfold stepG.exec at h;rw[ht]at h;dsimp only at h;split at h
 .unfold stepG.oper at h;have hop:fr.oper?=some o:=by simp_all[SE]
  simp[hop]at h;split at h
  .grind
  .obtain⟨es0,h2,rfl,rfl⟩:=lG hk h;obtain⟨rfl,rfl⟩:=Kx hc h2;exact⟨rfl,rfl,rfl⟩
 .cases h
end
section
variable{Q:If}{β:Nat->Option Code}{dt:bM}{cl:Bool}
theorem Bs(A:lf Q β){m g w w1 g1 c b sh es}(hg:ck Q dt cl g.frame)(hd:g.dying=none)(h:stepG (alt Q β) m g w= .comm g1 c b sh w1 es):tv g.frame:=by
 obtain⟨fr,cs,st,dy,off⟩:=g;dsimp only at hd hg ⊢;subst hd;cases hm:fr.mode with
 |run=>
  have e1:stepG (alt Q β) m {frame:=fr,callers:=cs,status:=st,dying:=none,offers:=off} w=stepG.exec (alt Q β) m true fr cs none w:=by
   simp_all[stepG]
  rw[e1]at h;refine⟨hm,?_⟩;unfold stepG.exec at h;dsimp only at h;cases ht:fr.todo with
  |nil=>rw[ht]at h;dsimp only at h;rw[hg.round]at h;cases h
  |cons it k=>
   have hi:=hg.items it (by rw[ht];simp);rw[ht]at h;cases it with
   |inRegion ops todo=>
    cases todo with
    |nil=>cases h
    |cons i is=>
     dsimp only at h;split at h
     .unfold stepG.oper at h;cases ho:fr.oper? with
      |none=>rw[ho]at h;cases h
      |some o=>
       rw[ho]at h;dsimp only at h;have ho2:ops[i]?=some o:=by
        simp_all[SE,ho]
       have hop:mH Q dt cl fr.fn o=true:=hi i (.head _) o ho2;have hsim:iu Q dt cl fr.fn o=true:=by
        simp_all[Sv,mH,hop]
       refine⟨ops,i,is,k,o,rfl,ho2,?_⟩;split at h
       .rename_i l c2 h1 h2;rw[hg.round]at h1;cases h1
       .obtain⟨es0,h2,_,_⟩:=lG hg.kind h;refine Classical.byContradiction λhnc=> ?_
        have hyp:YP (alt Q β) (λn=>∀c b sh,n≠.comm c b sh) (AT fr.eval o):=by
         unfold iu at hsim;rw[Sv]at hsim;have h0:=hsim.1;cases h3:o.op;case send ch x=>exact absurd (.inl ⟨ch,x,h3⟩) hnc
         case recv t ch ok=>exact absurd (.inr ⟨t,ch,ok,h3⟩) hnc
         case call cc=>
          rw[h3]at h0;dsimp only at h0;rw[Sv]at h0;obtain⟨k1,k2⟩:=h0;unfold AT;rw[h3];dsimp only;unfold resolve;unfold lp nG at k1;cases hk:cc.callee;case value x=>
           rw[hk]at k1;cases x;case func gf=>
            intro w es a w1 es1 hrun;rcases s7 A gf (#[]++cc.args.map fr.eval++ #[]) w es a w1 es1 hrun with⟨v,rfl⟩|rfl<;>simp
           all_goals cases k1
          case builtin bb=>
           rw[hk]at k1;cases bb;case len=>exact cN (s:=Builtin.len_ cc.argTypes o.type (cc.args.map fr.eval)) λv=>bY λ_ _ _=>nofun
           case recover=>exact bY λ_ _ _=>nofun
           case append=>exact cN (s:=Builtin.append_ cc.argTypes o.type (cc.args.map fr.eval)) λv=>bY λ_ _ _=>nofun
           case min=>exact cN (s:=Builtin.min_ cc.argTypes o.type (cc.args.map fr.eval)) λv=>bY λ_ _ _=>nofun
           all_goals cases k1
          grind
         case defer cc=>
          unfold AT;rw[h3];exact cN λv=>bY λ_ _ _=>nofun
         all_goals
          rw[h3]at h0;dsimp only at h0;unfold ng at h0;rw[h3]at h0;try dsimp only at h0
         all_goals try(exact absurd h0 Bool.false_ne_true)
         all_goals
          unfold AT;rw[h3];dsimp only
         case nilCheck x=>
          cases fr.eval x;case pointer a=>cases a with
           |none=>exact cN (s:=program) λp=>fi
           |some a=>exact bY λ_ _ _=>nofun
          case nilIface=>exact cN (s:=program) λp=>fi
          case nilFunc=>exact cN (s:=program) λp=>fi
          case func fn first captured=>
           cases fn;case method name=>
            dsimp only;split
            .exact cN (s:=program) λp=>fi
            .exact cN λp=>cN λb=>by
              split
              .exact fi
              .exact bY λ_ _ _=>nofun
            .exact bY λ_ _ _=>nofun
           all_goals exact bY λ_ _ _=>nofun
          all_goals exact bY λ_ _ _=>nofun
         all_goals first
          |exact cN λ_=>bY λ_ _ _=>nofun
          |exact bY λ_ _ _=>nofun
        exact hyp _ _ _ _ _ h2 _ _ _ rfl
     .cases h
   |code cd=>
    cases cd with
    |region id ops draw=>
     grind
    |ret=>dsimp only at h;rw[hg.round]at h;cases h
    |exit id=>
     dsimp only at h;cases he:exitTo id k with
     |some t=>rw[he]at h;cases h
     |none=>rw[he]at h;rw[hg.round]at h;cases h
    |goto l=>
     dsimp only at h;cases he:gotoIn l k with
     |some t=>rw[he]at h;cases h
     |none=>rw[he]at h;rw[hg.round]at h;cases h
    |rangeFunc f p a b2=>cases hi
    |cond c0 a b2=>
     grind
    |_=>cases h
   |inRangeFunc l=>exact hi.elim
   |endRangeFunc l=>exact hi.elim
   |beginRound=>exact hi.elim
   |call d a b2 c2=>exact hi.elim
   |extern r a=>exact hi.elim
   |_=>cases h
 |_=>
  exfalso;have e1:stepG (alt Q β) m {frame:=fr,callers:=cs,status:=st,dying:=none,offers:=off} w=unwind (alt Q β) m fr cs none w:=by
   simp_all[stepG]
  rw[e1]at h;exact pJ h
end
section
variable{Q:If}{β:Nat->Option Code}{D0:Frame}{dt:bM}{cl:Bool}{Ro:Nat->Prop}{os:Os}{rest:List Frame}{p:Part}{g g':By}{w w':AS}
def qD(p:Part)(w w' w2':AS)(i:Nat):Prop:=w2'.heap[p.κ i]?=w'.heap[p.κ i]?\/
 ((∀o,w.heap[i]?=some o->¬ jv o)/\∃o',w2'.heap[p.κ i]?=some o'/\Plain o'/\((∃c e f,o'= .cells c e f)\/∀o,w.heap[i]?=some o->o'.isChan=o.isChan))
theorem GV(hp:iA Q p w.heap.size w'.heap.size){w2'}(hk:∀i,p.K i->qD p w w' w2' i)(hos:w2'.os=w'.os)(hknown:∀i o,w.heap[i]?=some o->jv o->p.K i)
 {σ} (hσ:Ag p σ) (h:eo σ Ro ⟨p.K,os⟩ (ah w w'.tape w'.drawn) w'):eo σ Ro ⟨p.K,os⟩ (ah w w2'.tape w2'.drawn) w2':=by
 refine⟨h.inj,rfl,rfl,h.ro,λi o ho=> ?_,h.num,⟨h.os.1,hos.trans h.os.2⟩⟩;have hB:=h.blk i o ho;have h4:w.heap[i]?=some o:=ho;have hrow:jv o->w2'.heap[σ i]?=w'.heap[σ i]?:=λhn=>by
  have hK:=hknown i o h4 hn;rw[hσ.2 i hK];rcases hk i hK with e|⟨hno,_⟩<;>grind
 cases o;case cells c e f=>rw[hrow trivial];omega
 case number a l=>rw[hrow trivial];omega
 case pending=>exact hB.elim
 case view=>exact hB.elim
 all_goals
  intro hK;have h0:=hK;rcases hk i h0 with e|⟨_,o',h1,h2,h3⟩
  .rw[hσ.2 i h0,e,<- hσ.2 i h0];exact hB h0
  .rw[hσ.2 i h0];exact⟨o',h1,h2,h3.imp id λh=>h _ h4⟩
theorem Side.keep(S:Side Q β D0 dt cl Ro os rest p g w g' w'){w2' g2'}(hsz:w'.heap.size<=w2'.heap.size)(hos:w2'.os=w'.os)(hk:∀i,p.K i->qD p w w' w2' i)
 (hg:g2'.frame=g'.frame/\g2'.callers=g'.callers/\g2'.dying=g'.dying/\g2'.status= .running):Side Q β D0 dt cl Ro os rest p g w g2' w2':=by
 refine⟨⟨S.part.inj,S.part.dom,λi hi=>Nat.lt_of_lt_of_le (S.part.ran i hi) hsz,S.part.low⟩,S.gok,S.iv,S.ro,λσ hσ=> ?_,λσ hσ=>GV S.part hk hos (λi o ho hn=>sQ S.part S.relW ho hn) hσ (S.relW σ hσ)⟩;have h:=S.relG σ hσ;exact⟨hg.1.trans h.frame,hg.2.1.trans h.callers,⟨h.dying.1,hg.2.2.1.trans h.dying.2⟩,⟨h.status.1,hg.2.2.2⟩⟩
def ay(w:AS)(r:Nat)(o:Obj):AS:= {w with heap:=w.heap.setIfInBounds r o}
theorem Side.chan(S:Side Q β D0 dt cl Ro os rest p g w g' w'){r o o2}(ho:w.heap[r]?=some o)(hc:o.isChan=true)(hc2:o2.isChan=true):Side Q β D0 dt cl Ro os rest p g (ay w r o2) g' w':=by
 have hne:∀i,mR w i->r≠i:=λi ⟨c,t,h⟩ e=>by
  subst e;rw[ho]at h;cases h;cases hc
 have hsz:(ay w r o2).heap.size=w.heap.size:=by simp[ay]
 have hget:∀i,r≠i->(ay w r o2).heap[i]?=w.heap[i]?:=λi hi=>by simp_all[ay,Array.getElem?_setIfInBounds_ne]
 have hok2:pE o2:=by cases o2<;>first |trivial|cases hc2
 have hhp:an (ay w r o2):=eE S.iv.1 hok2;refine⟨by rw[hsz];exact S.part,S.gok,⟨hhp,S.iv.2⟩,λi hi=> ?_,S.relG,λσ hσ=> ?_⟩
 .obtain⟨c,t,h⟩:=S.ro i hi;exact⟨c,t,(hget i (hne i ⟨c,t,h⟩)).trans h⟩
 .have h:=S.relW σ hσ;have hlt:=(AI.1 ho).1;refine⟨h.inj,h.tape,h.drawn,λi hi=>by have:=h.ro i hi;simp_all,λi x hx=> ?_,λi a l hx=> ?_,h.os⟩
  .have hx:(ay w r o2).heap[i]?=some x:=hx;by_cases hi:r=i
   .subst hi;have:x=o2:=by simp_all[ay]
    subst this;have hB:=h.blk r o ho;cases o<;>first |cases hc|skip
    cases x<;>first |cases hc2|skip
    exact hB
   .rw[hget i hi]at hx;exact h.blk i x hx
  .have hx:(ay w r o2).heap[i]?=some (.number a l):=hx;by_cases hi:r=i
   .have: .number a l=o2:=by simp_all[ay]
    subst this;cases hc2
   .rw[hget i hi]at hx;exact h.num i a l hx
theorem Side.fin(S:Side Q β D0 dt cl Ro os rest p g w g' w')(hf:lZ dt g.frame){v v'}(hv:∀σ,Ag p σ->v'=ab σ v){off off'}:
 Side Q β D0 dt cl Ro os rest p {g with frame:=g.frame.finish v,status:=.running,offers:=off} w {g' with frame:=g'.frame.finish v',status:=.running,offers:=off'} w':=by
 refine⟨S.part,⟨S.gok.frame.finish λo t h1 h2 h3=>absurd h3 (hf o t h1 h2),S.gok.callers,cJ g.callers.dropLast (by grind [Frame.finish]) S.gok.stack,S.gok.last⟩,⟨S.iv.1,?_⟩,S.ro,λσ hσ=> ?_,S.relW⟩
 .rcases S.iv.2 with⟨⟨d,hd,_⟩,_⟩|⟨hj,hd⟩
  .rw[(S.relG _ (bL S.part 0)).dying.1]at hd;cases hd
  .exact .inr ⟨⟨eV hj.1 v,hj.2.1,nofun,aq (ap _ _) hj.2.2.2⟩,hd⟩
 .have h:=S.relG σ hσ;refine⟨?_,h.callers,h.dying,⟨rfl,rfl⟩⟩;rw[h.frame,hv σ hσ,gq S.gok.frame.dC.1 S.gok.frame.dC.2]
def Part.also(p:Part)(e b:Nat):Part:=⟨λi=>p.K i\/i=e,λi=>if i=e then b else p.κ i⟩
theorem Side.also(S:Side Q β D0 dt cl Ro os rest p g w g' w'){e b}(hne:¬ p.K e)(he:e<w.heap.size)(hb:∃c t f,w'.heap[b]?=some (.cells c t f))(hfar:∀i,p.K i->p.κ i≠b):Side Q β D0 dt cl Ro os rest (p.also e b) g w g' w':=by
 have hκ:∀i,p.K i->(p.also e b).κ i=p.κ i:=λi hi=>by
  show(if i=e then b else p.κ i)=_;rw[if_neg λh:i=e=>hne (h▸hi)]
 have hκe:(p.also e b).κ e=b:=by
  show(if e=e then b else p.κ e)=_;rw[if_pos rfl]
 have hag:∀σ,Ag (p.also e b) σ->Ag p σ:=λσ h=>⟨h.1,λi hi=>(h.2 i (.inl hi)).trans (hκ i hi)⟩
 obtain⟨c,t,f,hb⟩:=hb;have hlt:=(AI.1 hb).1;refine⟨⟨λi j hi hj h=> ?_,λi hi=> ?_,λi hi=> ?_,λg hg=>⟨.inl (S.part.low g hg).1,(hκ g (S.part.low g hg).1).trans (S.part.low g hg).2⟩⟩,S.gok,S.iv,S.ro,λσ hσ=>S.relG σ (hag σ hσ),λσ hσ=> ?_⟩
 .rcases hi with hi|rfl<;>rcases hj with hj|rfl
  .rw[hκ i hi,hκ j hj]at h;exact S.part.inj i j hi hj h
  .grind
  .grind
  rfl
 .rcases hi with hi|rfl
  .exact S.part.dom i hi
  omega
 .rcases hi with hi|rfl
  .rw[hκ i hi];exact S.part.ran i hi
  omega
 .have h:=S.relW σ (hag σ hσ);refine⟨h.inj,h.tape,h.drawn,h.ro,λi o ho=> ?_,λi a l ho=>.inl (h.num i a l ho),h.os⟩;have hB:=h.blk i o ho;cases o;case cells c e f=>exact hB
  case number a l=>exact hB
  case pending=>exact hB.elim
  case view=>exact hB.elim
  all_goals
   intro hk;rcases hk with hk|rfl
   .exact hB hk
   .refine⟨.cells c t f,?_,trivial,.inl ⟨_,_,_,rfl⟩⟩;rw[hσ.2 i (.inr rfl),hκe];exact hb
end
end
section
open Go.Conc
open Go.ConcN (sumTo upd sumTo_upd upd_ne upd_same)
variable[aD]
structure Held(t:Trace):Prop where
 clean:∀said,¬ Race said t
 known:∀i a,touchAt t i=some a->a.loc.isMemory=true->Knows t 0 i
 over:t.HandedOver
theorem Held.own{t}(h:Held t){u}(hu:∀op∈u,op.g=0):Held (t++u):=by
 refine⟨λsaid=>noRace_append (h.clean said) hu λi a ha op hop b hb hc=>h.known i a ha hc.2.1,λi a ha hm=> ?_,handedOver_app h.over λop hop=>.inl (hu op hop)⟩;obtain⟨x,hx,hxa⟩:=touch_of ha;rcases getElem?_append_cases hx with⟨_,hx'⟩|⟨_,h0⟩
 .exact(h.known i a (by rw[touchAt_of hx'];omega) hm).app u
 .have:=knows_own hx;rw[hu x h0]at this;omega
theorem Held.mute{t}(h:Held t){g}(hg:g≠0){u}(hu:∀op∈u,op.g=g)(hn:∀op∈u,op.act.touch?=none):Held (t++u):=by
 refine⟨λsaid=>noRace_append (h.clean said) hu λi a _ op hop b hb _=>(by rw[hn op hop]at hb;cases hb),λi a ha hm=> ?_,handedOver_app h.over λop hop=>.inr (hn op hop)⟩;obtain⟨x,hx,hxa⟩:=touch_of ha;rcases getElem?_append_cases hx with⟨_,hx'⟩|⟨_,hxu⟩
 .exact(h.known i a (by rw[touchAt_of hx'];omega) hm).app u
 grind
def Runs(Q:If)(m:Machine)(t:Trace)(R:Machine->Trace->Prop):Prop:=∃N m' t',runNT Q N m t=(.next m',t')/\R m' t'
section
variable{Q:If}{R R':Machine->Trace->Prop}{m m':Machine}{t t':Trace}
theorem Runs.here(h:R m t):Runs Q m t R:=⟨0,m,t,rfl,h⟩
theorem Runs.mono(h:Runs Q m t R)(hR:∀m t,R m t->R' m t):Runs Q m t R':=let⟨N,m',t',h1,h2⟩:=h;⟨N,m',t',h1,hR _ _ h2⟩
theorem Runs.after{N}(h:runNT Q N m t=(.next m',t'))(hr:Runs Q m' t' R):Runs Q m t R:=by
 obtain⟨K,m2,t2,h1,h2⟩:=hr;exact⟨N+K,m2,t2,by rw[runNT_add,h];omega,h2⟩
theorem Runs.bind(h:Runs Q m t R)(hR:∀m' t',R m' t'->Runs Q m' t' R'):Runs Q m t R':=by
 obtain⟨N,m',t',h1,h2⟩:=h;exact(hR _ _ h2).after h1
theorem Runs.step{ops}(h:stepT Q m=(.next m',ops))(hr:Runs Q m' (t++ops) R):Runs Q m t R:=
 hr.after (N:=1) (by simp[runNT,h])
end
section
variable{Q:If}{β:Nat->Option Code}{K:By->AS->Prop}
def gS(β:Nat->Option Code):Prop:=∀f c,β f=some c->∃why,c= .refuse why
theorem wR(hβ:gS β){g}(h:qc Q β g)(w):∃o,stepG (alt Q β) true g w= .ended o w:=by
 obtain⟨f,args,k,hfr,h0,hst,hdy⟩:=h;obtain⟨c,hc⟩:=Option.isSome_iff_exists.1 h0;obtain⟨why,rfl⟩:=hβ f c hc;have he:∃why2,(SF (alt Q β) f args k).todo=[.code (.refuse why2)]:=by
  grind [iG,SF,ax]
 obtain⟨why2,he⟩:=he;have hm:(SF (alt Q β) f args k).mode= .run:=rfl;obtain⟨fr,cs,st,dy,off⟩:=g;have key:∀dy,stepG.exec (alt Q β) true true fr cs dy w= .ended (.unsupported (Unsupported.elab why2) (fr.pos (alt Q β))) w:=λdy=>by
  simp_all[stepG.exec]
 refine⟨.unsupported (Unsupported.elab why2) (fr.pos (alt Q β)),?_⟩;cases dy with
 |none=>
  simp_all[stepG]
 |some d=>
  obtain⟨a1,b1,c1,e1,f1,i1,j1⟩:=d;simp_all[stepG]
end
end
section
open Go.Conc
structure PT(k:Nat)(TA TB:Touch->Prop)(t:Trace):Prop where
 clean:∀said,¬ Race said t
 knA:∀i a,touchAt t i=some a->a.loc.isMemory=true->Knows t 0 i\/(t.g? i=some k/\TB a)
 knB:∀i a,touchAt t i=some a->a.loc.isMemory=true->Knows t k i\/(t.g? i=some 0/\TA a)
 hA:Deaf t 0=0
 hB:Deaf t k=0
def Apart(TA TB:Touch->Prop):Prop:=∀a b,TA a->TB b->a.loc=b.loc->a.loc.isMemory=true->a.write=false/\b.write=false
def Quiet(u:Trace):Prop:=∀g,∀op∈u,∀d,deafStep g d op=d
section
variable{k:Nat}{TA TB TA' TB':Touch->Prop}{t u:Trace}
theorem PT.mono(H:PT k TA TB t)(hA:∀a,TA a->TA' a)(hB:∀a,TB a->TB' a):PT k TA' TB' t:=
 ⟨H.clean,λi a h1 h2=>(H.knA i a h1 h2).imp id λh=>⟨h.1,hB a h.2⟩,λi a h1 h2=>(H.knB i a h1 h2).imp id λh=>⟨h.1,hA a h.2⟩,H.hA,H.hB⟩
theorem PT.PN(H:PT k TA TB t)(h3:Apart TA TB)(hu:∀op∈u,op.g=0)(ht:∀op∈u,∀b,op.act.touch?=some b->b.loc.isMemory=true->TA b)(hq:Quiet u):PT k TA TB (t++u):=by
 refine⟨λsaid=>noRace_append (H.clean said) hu λi a ha op hop b hb hc=> ?_,λi a ha hm=> ?_,λi a ha hm=> ?_,(Deaf_quiet (hq 0)).trans H.hA,(Deaf_quiet (hq k)).trans H.hB⟩
 .rcases H.knA i a ha hc.2.1 with h|⟨_,h⟩
  .exact h
  .exfalso;have h0:b.loc.isMemory=true:=hc.1▸hc.2.1;obtain⟨h1,h2⟩:=h3 b a (ht op hop b hb h0) h hc.1.symm h0;rcases hc.2.2.1 with x|x<;>grind
 .obtain⟨x,hx,h4⟩:=touch_of ha;rcases getElem?_append_cases hx with⟨hi,hx'⟩|⟨_,h5⟩
  .rcases H.knA i a (by rw[touchAt_of hx'];omega) hm with h|⟨h1,h2⟩
   .exact .inl (h.app u)
   simp_all[g?_old]
  .have:=knows_own hx;grind
 .obtain⟨x,hx,h4⟩:=touch_of ha;rcases getElem?_append_cases hx with⟨hi,hx'⟩|⟨_,h5⟩
  .rcases H.knB i a (by rw[touchAt_of hx'];omega) hm with h|⟨h1,h2⟩
   .exact .inl (h.app u)
   simp_all[g?_old]
  grind [g?_of]
theorem PT.NY(H:PT k TA TB t)(h0:Apart TA TB)(hu:∀op∈u,op.g=k)(ht:∀op∈u,∀b,op.act.touch?=some b->b.loc.isMemory=true->TB b)(hq:Quiet u):PT k TA TB (t++u):=by
 refine⟨λsaid=>noRace_append (H.clean said) hu λi a ha op hop b hb hc=> ?_,λi a ha hm=> ?_,λi a ha hm=> ?_,(Deaf_quiet (hq 0)).trans H.hA,(Deaf_quiet (hq k)).trans H.hB⟩
 .rcases H.knB i a ha hc.2.1 with h|⟨_,h⟩
  .exact h
  .exfalso;have h3:b.loc.isMemory=true:=hc.1▸hc.2.1;obtain⟨h1,h2⟩:=h0 a b h (ht op hop b hb h3) hc.1 hc.2.1;rcases hc.2.2.1 with x|x<;>grind
 .obtain⟨x,hx,h4⟩:=touch_of ha;rcases getElem?_append_cases hx with⟨hi,hx'⟩|⟨_,h5⟩
  .rcases H.knA i a (by rw[touchAt_of hx'];omega) hm with h|⟨h1,h2⟩
   .exact .inl (h.app u)
   simp_all[g?_old]
  grind [g?_of]
 .obtain⟨x,hx,h4⟩:=touch_of ha;rcases getElem?_append_cases hx with⟨hi,hx'⟩|⟨_,h5⟩
  .rcases H.knB i a (by rw[touchAt_of hx'];omega) hm with h|⟨h1,h2⟩
   .exact .inl (h.app u)
   simp_all[g?_old]
  .have:=knows_own hx;grind
theorem PT.appMute(H:PT k TA TB t)(hn:∀op∈u,op.act.touch?=none)(h0:Deaf (t++u) 0=Deaf t 0)(hk:Deaf (t++u) k=Deaf t k):PT k TA TB (t++u):=by
 refine⟨λsaid=>noRace_appendMute (H.clean said) hn,λi a ha hm=> ?_,λi a ha hm=> ?_,h0.trans H.hA,hk.trans H.hB⟩
 .obtain⟨x,hx,h3⟩:=touch_of ha;rcases getElem?_append_cases hx with⟨hi,hx'⟩|⟨_,h4⟩
  .rcases H.knA i a (by rw[touchAt_of hx'];omega) hm with h|⟨h1,h2⟩
   .exact .inl (h.app u)
   simp_all[g?_old]
  grind
 .obtain⟨x,hx,h3⟩:=touch_of ha;rcases getElem?_append_cases hx with⟨hi,hx'⟩|⟨_,h4⟩
  .rcases H.knB i a (by rw[touchAt_of hx'];omega) hm with h|⟨h1,h2⟩
   .exact .inl (h.app u)
   simp_all[g?_old]
  grind
theorem PT.meet(H:PT k TA TB t)(fk pk f0 p0 c n):PT k (λ_=>False) (λ_=>False) (t++met k 0 fk pk f0 p0 c n 0):=by
 have hn:=met_mute k 0 fk pk f0 p0 c n 0;have hq:=met_quiet k 0 fk pk f0 p0 c n 0;have e0:(t++met k 0 fk pk f0 p0 c n 0)[t.size]?=some {g:=k,fn:=fk,pos:=pk,act:=.send c n}:=by simp[met]
 have e1:(t++met k 0 fk pk f0 p0 c n 0)[t.size+1]?=some {g:=0,fn:=f0,pos:=p0,act:=.recv c n 0}:=by simp[met]
 have e2:(t++met k 0 fk pk f0 p0 c n 0)[t.size+2]?=some {g:=k,fn:=fk,pos:=pk,act:=.sendDone c n}:=by simp[met]
 have e3:(t++met k 0 fk pk f0 p0 c n 0)[t.size+3]?=some {g:=0,fn:=f0,pos:=p0,act:=.recvDone c n}:=by simp[met]
 have hd:∀g,Deaf t g=0->∀j,j<=4->(t++met k 0 fk pk f0 p0 c n 0).deaf g (t.size+j)=0:=λg hg j hj=>(deaf_quiet (hq g) j (by simpa[met]using hj)).trans hg
 have edge:HappensBefore (t++met k 0 fk pk f0 p0 c n 0) t.size (t.size+3):=
  Relation.TransGen.single (.inr ⟨.handOver (act?_of e0) (act?_of e3),⟨k,g?_of e0,by rw[deaf_old (No _)];exact H.hB⟩,⟨0,g?_of e3,hd 0 H.hA 3 (by omega)⟩⟩)
 have edge2:HappensBefore (t++met k 0 fk pk f0 p0 c n 0) (t.size+1) (t.size+2):=
  Relation.TransGen.single (.inr ⟨.room (act?_of e1) (by rw[act?_of e2];rfl),⟨0,g?_of e1,hd 0 H.hA 1 (by omega)⟩,⟨k,g?_of e2,hd k H.hB 2 (by omega)⟩⟩)
 refine⟨λsaid=>noRace_appendMute (H.clean said) hn,λi a ha hm=> ?_,λi a ha hm=> ?_,(Deaf_quiet (hq 0)).trans H.hA,(Deaf_quiet (hq k)).trans H.hB⟩
 .obtain⟨x,hx,h0⟩:=touch_of ha;rcases getElem?_append_cases hx with⟨hi,hx'⟩|⟨_,h3⟩
  .rcases H.knB i a (by rw[touchAt_of hx'];omega) hm with h|⟨h1,h2⟩
   .exact .inl ⟨t.size+3,_,e3,rfl,.inr ((h.hb_new (No _) e0 rfl).trans edge)⟩
   .have:=knows_own hx;rw[show x.g=0 from by have:=g?_of hx';rw[h1]at this;grind]at this;exact .inl this
  .rw[hn x h3]at h0;cases h0
 .obtain⟨x,hx,h0⟩:=touch_of ha;rcases getElem?_append_cases hx with⟨hi,hx'⟩|⟨_,h3⟩
  .rcases H.knA i a (by rw[touchAt_of hx'];exact h0) hm with h|⟨h1,h2⟩
   .exact .inl ⟨t.size+2,_,e2,rfl,.inr ((h.hb_new (by omega) e1 rfl).trans edge2)⟩
   .have:=knows_own hx;rw[show x.g=k from by have:=g?_of hx';rw[h1]at this;exact(Option.some.inj this).symm]at this;exact .inl this
  .rw[hn x h3]at h0;cases h0
theorem PT.hire{fn pos fc}(H:Held t)(h0:Deaf t 0=0)(hk:Deaf t k=0)(hne:k≠0):PT k (λ_=>False) (λ_=>False) (t++ #[{g:=0,fn:=fn,pos:=pos,act:=.go k},{g:=k,fn:=fc,pos:=pos,act:=.start}]):=by
 generalize hu:(#[{g:=0,fn:=fn,pos:=pos,act:=.go k},{g:=k,fn:=fc,pos:=pos,act:=.start}]:Trace)=u;have hn:∀op∈u,op.act.touch?=none:=by
  intro op hop;subst hu;simp only[SH,List.mem_cons,SG,or_false]at hop;rcases hop with rfl|rfl<;>rfl
 have hq:∀g,∀op∈u,∀d,deafStep g d op=d:=by
  intro g op hop d;subst hu;simp only[SH,List.mem_cons,SG,or_false]at hop;rcases hop with rfl|rfl<;>rfl
 have e0:(t++u)[t.size]?=some {g:=0,fn:=fn,pos:=pos,act:=.go k}:=by grind
 have e1:(t++u)[t.size+1]?=some {g:=k,fn:=fc,pos:=pos,act:=.start}:=by grind
 have edge:HappensBefore (t++u) t.size (t.size+1):=
  Relation.TransGen.single (.inr ⟨.spawn (act?_of e0) (act?_of e1) (g?_of e1),⟨0,g?_of e0,by rw[deaf_old (No _)];exact h0⟩,⟨k,g?_of e1,by rw[deaf_quiet (hq k) 1 (by grind)];omega⟩⟩)
 have hkn:∀i a,touchAt (t++u) i=some a->a.loc.isMemory=true->i<t.size/\Knows t 0 i:=λi a ha hm=>by
  obtain⟨x,hx,hxa⟩:=touch_of ha;rcases getElem?_append_cases hx with⟨hi,hx'⟩|⟨_,hxu⟩
  .exact⟨hi,H.known i a (by rw[touchAt_of hx'];omega) hm⟩
  grind
 refine⟨λsaid=>noRace_appendMute (H.clean said) hn,λi a ha hm=>.inl ((hkn i a ha hm).2.app u),λi a ha hm=>.inl ?_,(Deaf_quiet (hq 0)).trans h0,(Deaf_quiet (hq k)).trans hk⟩;exact⟨t.size+1,_,e1,rfl,.inr (((hkn i a ha hm).2.hb_new (No _) e0 rfl).trans edge)⟩
theorem PT.found(H:PT k TA TB t){m op}(hm:t[m]?=some op)(hg:op.g=k)(hact:∃c,op.act= .close c/\True){c}(hc:op.act= .close c)(h3:∀i x,m<i->t[i]?=some x->x.g=k->x.act.touch?=none)(hd:t.deaf k m=0){y}(hy:y.g=0)(h4:y.act= .recvClosed c):
 Held (t++ #[y]):=by
 have hn:∀op∈(#[y]:Trace),op.act.touch?=none:=by
  intro op hop;have:op=y:=by grind
  subst this;rw[h4];rfl
 have ey:(t++ #[y])[t.size]?=some y:=by simp
 have hq0:(t++ #[y]).deaf 0 t.size=0:=by rw[deaf_old (No _)];exact H.hA
 have h2:=lt_size_of_getElem? hm;have em:(t++ #[y])[m]?=some op:=by rw[getElem?_append_old h2];omega
 have edge:HappensBefore (t++ #[y]) m t.size:=
  Relation.TransGen.single (.inr ⟨.closed (by rw[act?_of em,hc]) (by rw[act?_of ey,h4]),⟨k,by rw[g?_of em,hg],by rw[deaf_old (Nat.le_of_lt h2)];omega⟩,⟨0,by rw[g?_of ey,hy],hq0⟩⟩)
 have hknown:∀i a,touchAt (t++ #[y]) i=some a->a.loc.isMemory=true->Knows (t++ #[y]) 0 i:=λi a ha hmem=>by
  obtain⟨x,hx,h0⟩:=touch_of ha;rcases getElem?_append_cases hx with⟨hi,hx'⟩|⟨_,hxu⟩
  .rcases H.knA i a (by rw[touchAt_of hx'];omega) hmem with h|⟨h1,_⟩
   .exact h.app _
   .have h5:x.g=k:=by have:=g?_of hx';rw[h1]at this;grind
    have him:i<=m:=Nat.le_of_not_lt λhlt=>by
     rw[h3 i x hlt hx' h5]at h0;cases h0
    have hne:i≠m:=λe=>by
     subst e;rw[hm]at hx';cases hx';rw[hc]at h0;cases h0
    refine⟨t.size,y,ey,hy,.inr (Relation.TransGen.trans (hb_po (t:=t++ #[y]) (by omega) hx em (h5.trans hg.symm)) edge)⟩
  grind
 refine⟨λsaid=>noRace_appendMute (H.clean said) hn,hknown,λi g h6 hne h7=> ?_⟩;obtain⟨a,ha,hmem,_⟩:=h7;obtain⟨q,z,hq,hz,hb⟩:=hknown i a ha hmem;refine⟨q,by rw[g?_of hq,hz],?_⟩;rcases hb with rfl|hb
 .rw[g?_of hq,hz]at h6;exact absurd (Option.some.inj h6).symm hne
 .exact hb
end
end
section
open Go.Conc
variable[aD]
section
variable{P:If}{w w1:AS}{g1:By}{c:Array CommCase}{b:Bool}{sh:CommShape}{es:Array Event}
theorem BJ{ρ o}(ho:isComm o.op){n es0 es1}(h:(AT ρ o).runT P w es0=(.ok n w1,es1)):∀w2 es2,(AT ρ o).runT P w2 es2=(.ok n w2,es2):=by
 intro w2 es2;rcases ho with⟨ch,x,ho⟩|⟨t,ch,ok,ho⟩
 .simp_all[AT]
 .simp only[AT,ho,aM,mY]at h ⊢;cases hu:P.underlying t with
  |none=>rw[hu]at h;cases h
  |some d=>
   rw[hu]at h;dsimp only at h ⊢;cases d;case chan dir e=>
    have hz:∀(w:AS)(es0:Array Event),(zeroValue e).runT P w es0=match P.info? e with
     |some i=>match i.zero with
      |some v=>(.ok v w,es0)
      |none=>(.halt (.unsupported (.resourceLimit "a value of more than 2^22 cells")) w,es0)
     |none=>(.halt (.stuck "no such type") w,es0):=λw es0=>by
     simp only[zeroValue,aM,jN];cases P.info? e with
     |none=>rfl
     |some i=>
      dsimp only;cases i.zero<;>rfl
    rw[aM,hz]at h ⊢;cases hi:P.info? e with
    |none=>rw[hi]at h;cases h
    |some i=>
     cases hz0:i.zero<;>simp_all
   all_goals cases h
theorem FP{m g}(hA:tv g.frame)(hd:g.dying=none)(hr:g.frame.roundOf=none)(hk:g.frame.kind= .normal\/g.frame.kind= .deferred)(h:stepG P m g w= .comm g1 c b sh w1 es):
 ∀m2 w2,stepG P m2 g w2= .comm {frame:=g.frame,callers:=g.callers,status:=.running,dying:=none} c b sh w2 #[]:=by
 obtain⟨fr,cs,st,dy,off⟩:=g;dsimp only at hd hr hk hA ⊢;subst hd;obtain⟨hm,ops,i,is,k,o,ht,ho,hc⟩:=hA;have e1:∀m w,stepG P m {frame:=fr,callers:=cs,status:=st,dying:=none,offers:=off} w=stepG.exec P m true fr cs none w:=λm w=>by
  simp_all[stepG]
 intro m2 w2;rw[e1]at h ⊢;unfold stepG.exec at h ⊢;dsimp only at h ⊢;rw[ht]at h ⊢;dsimp only at h ⊢;split at h
 .rename_i hw;rw[if_pos hw];unfold stepG.oper at h ⊢;have hop:fr.oper?=some o:=by unfold SE;rw[ht];exact ho
  rw[hop]at h ⊢;dsimp only at h ⊢;split at h
  .rename_i l c2 h1 h2;rw[hr]at h1;cases h1
  .obtain⟨es0,h2,_,_⟩:=lG hk h;have h3:=BJ hc h2 w2 #[];have hke:(fr.kind==SN)=false:=by rcases hk with h|h<;>rw[h]<;>rfl
   unfold stepG.apply;simp only[if_true,hke,Bool.false_eq_true,if_false,h3];rfl
 .cases h
end
def cG(w:AS)(r cap:Nat)(b:Array Value)(s rc:Nat)(tm:Bool):Prop:=w.heap[r]?=some (.chan cap b false s rc tm)/\∀i o,w.heap[i]?=some o->o.isChan=true->i=r
theorem cG.to{w r cap s rc b b2 tm}(h:cG w r cap b s rc tm)(s2 rc2):cG (ay w r (.chan cap b2 false s2 rc2 tm)) r cap b2 s2 rc2 tm:=by
 refine⟨by simp[ay,(AI.1 h.1).1],λi o ho hc=> ?_⟩;by_cases hi:r=i
 .exact hi.symm
 .have:(ay w r (.chan cap b2 false s2 rc2 tm)).heap[i]?=w.heap[i]?:=by simp_all[ay]
  rw[this]at ho;exact h.2 i o ho hc
theorem cG.kinds{w w1 r cap s rc b tm}(h:cG w r cap b s rc tm)(hk:∀i o,w1.heap[i]?=some o->gV w i o)(hle:w.heap.size<=w1.heap.size):cG w1 r cap b s rc tm:=by
 have hlt:=(AI.1 h.1).1;refine⟨?_,λi o ho hc=> ?_⟩
 .rcases hk r _ (Su (by omega))with⟨h2,_⟩|⟨⟨c,t,f,h2⟩,_⟩|h2
  .omega
  .rw[h.1]at h2;cases h2
  .rw[h.1]at h2;grind
 .rcases hk i o ho with⟨_,h2⟩|⟨_,c,t,f,rfl⟩|h2
  .cases o<;>first |exact h2.elim|cases hc
  .cases hc
  .exact h.2 i o h2 hc
def jZ(w:AS)(r:Nat):Prop:=(∃cap b s rc tm,w.heap[r]?=some (.chan cap b true s rc tm))/\∀i o,w.heap[i]?=some o->o.isChan=true->i=r
theorem jZ.kinds{w w1 r}(h:jZ w r)(hk:∀i o,w1.heap[i]?=some o->gV w i o)(hle:w.heap.size<=w1.heap.size):jZ w1 r:=by
 obtain⟨⟨cap,b,s,rc,tm,h0⟩,h9⟩:=h;have hlt:=(AI.1 h0).1;refine⟨⟨cap,b,s,rc,tm,?_⟩,λi o ho hc=> ?_⟩
 .rcases hk r _ (Su (by omega))with⟨h2,_⟩|⟨⟨c,t,f,h2⟩,_⟩|h2<;>grind
 .rcases hk i o ho with⟨_,h2⟩|⟨_,c,t,f,rfl⟩|h2
  .cases o<;>first |exact h2.elim|cases hc
  .cases hc
  grind
section
variable{P:If}{g g2:By}{w w2:AS}{c:CommCase}{r cap s rc:Nat}{b:Array Value}{tm:Bool}
theorem jF(w:AS)(cases):timerAhead dV w.os.mono cases=false:=by
 grind [timerAhead,dV]
theorem wO{v}(hO:cG w r cap b s rc tm)(hs:c.send=some v)(h:(up P dV #[ph] 0 g #[c] true .send w).1= .next (oneG g2 w2))(hr:g2.status= .running):
 c.chan= .chan (some r)/\g2= {g with frame:=g.frame.finish undef,status:=.running,offers:=none}/\w2=ay w r (.chan cap (b.push v) false (s+1) rc tm):=by
 obtain⟨ch,sd,z⟩:=c;subst hs;have hpn:=cV;have hwait:∀ch,Sy {world:=w,gs:=(#[ph]:Array By).setIfInBounds 0 {g with status:=.blocked,offers:=some (#[{chan:=ch,send:=some v,zero:=z}],.send)},rest:=dV}= .next (oneG g2 w2)->False:=λch e=>by
  grind [oneG]
 cases ch;case chan x=>
  cases x with
  |none=>
   grind [up,ways,jF,waitingAt]
  |some r'=>
   cases hx:w.heap[r']? with
   |none=>simp[up,hx]at h
   |some o=>
    by_cases hoc:o.isChan=true
    .have:=hO.2 r' o hx hoc;subst this;by_cases h0:b.size<cap
     .simp[up,ways,hO.1,hpn,h0,choose,SC,IS,bind,Sx,pure,IN,commResult,oneG]at h;exact⟨rfl,h.2.1.symm,h.1.symm⟩
     .simp[up,ways,hO.1,jF,waitingAt]at h;grind
    .cases o<;>first |exact absurd rfl hoc|simp[up,hx]at h
 all_goals simp[up]at h
theorem Fo{v}(hO:jZ w r)(hs:c.send=some v)(h:(up P dV #[ph] 0 g #[c] true .send w).1= .next (oneG g2 w2))(hr:g2.status= .running):
 g2= {g with frame:=g.frame.raise [{v:=.iface P.rt.plainError (strVal "send on closed channel"),recovered:=false}]}/\w2=w:=by
 obtain⟨⟨cap,b,s,rc,tm,h0⟩,h9⟩:=hO;obtain⟨ch,sd,z⟩:=c;have hpn:=cV;have hwait:∀ch,Sy {world:=w,gs:=(#[ph]:Array By).setIfInBounds 0 {g with status:=.blocked,offers:=some (#[{chan:=ch,send:=some v,zero:=z}],.send)},rest:=dV}= .next (oneG g2 w2)->False:=λch e=>by
  grind [oneG]
 cases ch;case chan x=>
  cases x with
  |none=>
   grind [up,ways,jF,waitingAt]
  |some r'=>
   cases hx:w.heap[r']? with
   |none=>simp[up,hx]at h
   |some o=>
    by_cases hoc:o.isChan=true
    .simp[up,ways,h0,hpn,choose,SC,IS,bind,Sx,pure,oneG,runtimePanic,program]at h;grind
    .cases o<;>first |exact absurd rfl hoc|simp[up,hx]at h
 all_goals simp[up]at h
theorem Fp{ok}(hO:cG w r cap b s rc tm)(hs:c.send=none)(h:(up P dV #[ph] 0 g #[c] true (.recv ok) w).1= .next (oneG g2 w2))(hr:g2.status= .running):
 c.chan= .chan (some r)/\0<b.size/\g2= {g with frame:=g.frame.finish (recvd ok (b.getD 0 undef) true),status:=.running,offers:=none}/\w2=ay w r (.chan cap (b.extract 1 b.size) false s (rc+1) tm):=by
 obtain⟨ch,sd,z⟩:=c;subst hs;have hpn:=cV;have hwait:∀ch,Sy {world:=w,gs:=(#[ph]:Array By).setIfInBounds 0 {g with status:=.blocked,offers:=some (#[{chan:=ch,send:=none,zero:=z}],.recv ok)},rest:=dV}= .next (oneG g2 w2)->False:=λch e=>by
  grind [oneG]
 cases ch;case chan x=>
  cases x with
  |none=>
   grind [up,ways,jF,waitingAt]
  |some r'=>
   cases hx:w.heap[r']? with
   |none=>simp[up,hx]at h
   |some o=>
    by_cases hoc:o.isChan=true
    .have:=hO.2 r' o hx hoc;subst this;by_cases h0:0<b.size
     .cases ok<;>simp[up,ways,hO.1,hpn,h0,choose,SC,IS,bind,Sx,IN,commResult,oneG]at h
      .exact⟨rfl,h0,by simp_all[recvd],h.1.symm⟩
      .exact⟨rfl,h0,by simp_all[recvd],h.1.symm⟩
     .simp[up,ways,hO.1,jF,waitingAt]at h;grind
    .cases o<;>first |exact absurd rfl hoc|simp[up,hx]at h
 all_goals simp[up]at h
end
section
variable{P:If}{K K':By->AS->Prop}
theorem Tree.FN{g w}(h:Tree P K g w)(hk:∀g w,K g w->Tree P K' g w):Tree P K' g w:=by
 induction h with
 |stop h=>exact hk _ _ h
 |step G W E hr h1 _ ih=>exact .step G W E hr h1 ih
theorem Tree.iv(T:bz P){g w}(h:Tree P K g w):Iv g w->Tree P (λg w=>K g w/\Iv g w) g w:=by
 induction h with
 |stop h=>exactλhI=>.stop ⟨h,hI⟩
 | @step g w G W E hr h1 _ ih=>exactλhI=>.step G W E hr h1 λτ d hb=>ih τ d hb (nI T (fE hI τ d) (h1 τ d hb))
theorem Tree.ah{g w τ d}(h:Tree P K g (ah w τ d))(hK:∀g w τ d,K g (Go.Proofs.YtkgohmcmmcpigaaGreatDoor.ah w τ d)->K g w):Tree P K g w:=by
 cases h with
 |stop h=>exact .stop (hK _ _ _ _ h)
 |step G W E hr h1 h2=>exact .step G W E hr h1 h2
def cl(K:By->AS->Prop)(g:By)(w:AS):Prop:=∃τ d,K g (Go.Proofs.YtkgohmcmmcpigaaGreatDoor.ah w τ d)
theorem zy(g w τ d)(h:cl K g (Go.Proofs.YtkgohmcmmcpigaaGreatDoor.ah w τ d)):cl K g w:=by
 obtain⟨τ',d',h⟩:=h;exact⟨τ',d',h⟩
theorem Lj{g w}(h:K g w):cl K g w:=⟨w.tape,w.drawn,h⟩
theorem HH{g w}(h:yZ P K g w):yZ P (cl K) g w:=by
 obtain⟨n,g',w',h1,h2⟩:=h;exact⟨n,g',w',h1,Lj h2⟩
end
def aH{P:If}(T:bz P):dZ P where
 okF _:=True
 H K g w:=Iv g w->Tree P (cl K) g w
 re K g w τ d h hI:=Tree.ah (h (fE hI τ d)) (λg w τ d=>zy g w τ d)
 stop K g w h hI:=.stop (Lj h)
 bind K K' g w h hk hI:=((h hI).iv T hI).FN λg' w' ⟨⟨τ,d,h1⟩,h2⟩=>Tree.ah (hk g' _ h1 (fE h2 τ d)) (λg w τ d=>zy g w τ d)
 hit K g w hr hK h hI:=bar T (λg w τ d=>zy g w τ d) (λg w ⟨_,_,h⟩=>(hK _ _ h).1) hI hr λτ d=>HH (h τ d)
section
variable{P:If}{T:bz P}{a:Act}{w:AS}{ops:Array Oper}{i:Nat}{rest:List Nat}{o:Oper}{Q:Exit->Act->AS->Prop}
theorem ud{b:Frame}{k cs u c sh}(ho:ops[i]?=some o)(hw:BY o (yielded ops a.tmps)=true)
 (hx:(AT a.eval o).run P u= .ok (.comm #[c] true sh) u):∃es,stepG P true (bO (b.at a (.inRegion ops (i::rest)::k)) cs) u= .comm (bO (b.at a (.inRegion ops (i::rest)::k)) cs) #[c] true sh u es:=by
 simp[bO,stepG_op ho hw,stepG.apply,hx];exact⟨_,rfl⟩
theorem mh{r cap s rc bf tm v z}(ho:ops[i]?=some o)(hw:BY o (yielded ops a.tmps)=true)
 (hx:∀u,(AT a.eval o).run P u= .ok (.comm #[{chan:=.chan (some r),send:=some v,zero:=z}] true .send) u)
 (hc:w.heap[r]?=some (.chan cap bf false s rc tm)) (h0:bf.size<cap)
 (h:aV (aH T) ops Q rest (a.put o.dst undef) (ay w r (.chan cap (bf.push v) false (s+1) rc tm))):aV (aH T) ops Q (i::rest) a w:=λb k cs K hok hk hcc=>by
 intro hI;have hfin:(b.at a (.inRegion ops (i::rest)::k)).finish undef=b.at (a.put o.dst undef) (.inRegion ops rest::k):=by simp[SM,ho]
 have hst:=λτ d=>ud (P:=P) (b:=b) (k:=k) (cs:=cs) (rest:=rest) ho hw (hx (ah w τ d))
 have hone:∀τ d,gT P (bO (b.at a (.inRegion ops (i::rest)::k)) cs) (ah w τ d) (bO (b.at (a.put o.dst undef) (.inRegion ops rest::k)) cs) (ah (ay w r (.chan cap (bf.push v) false (s+1) rc tm)) τ d) (SI (hst τ d)):=λτ d=>by
  refine .comm (Sw (hst τ d)) ?_;generalize hg:bO (b.at a (.inRegion ops (i::rest)::k)) cs=g;have e:bO (b.at (a.put o.dst undef) (.inRegion ops rest::k)) cs= {g with frame:=g.frame.finish undef,status:=.running,offers:=none}:=by
   rw[<- hg,<- hfin];rfl
  simp[e,up,ways,hc,cV,h0,SC,IS,Sx,IN,commResult,oneG,ay,ah,dV]
 exact .step _ _ _ rfl (λτ d _=>hone τ d) λτ d _=>(aH T).er (h b k cs K hok hk hcc) τ d (nI T (fE hI τ d) (hone τ d))
theorem F3{r cap s rc bf tm ok z}(ho:ops[i]?=some o)(hw:BY o (yielded ops a.tmps)=true)
 (hx:∀u,(AT a.eval o).run P u= .ok (.comm #[{chan:=.chan (some r),send:=none,zero:=z}] true (.recv ok)) u)
 (hc:w.heap[r]?=some (.chan cap bf false s rc tm)) (h0:0<bf.size)
 (h:aV (aH T) ops Q rest (a.put o.dst (recvd ok (bf.getD 0 undef) true)) (ay w r (.chan cap (bf.extract 1 bf.size) false s (rc+1) tm))):aV (aH T) ops Q (i::rest) a w:=λb k cs K hok hk hcc=>by
 intro hI;have hfin:(b.at a (.inRegion ops (i::rest)::k)).finish (recvd ok (bf.getD 0 undef) true)=b.at (a.put o.dst (recvd ok (bf.getD 0 undef) true)) (.inRegion ops rest::k):=by rw[SM,ho];rfl
 have hst:=λτ d=>ud (P:=P) (b:=b) (k:=k) (cs:=cs) (rest:=rest) ho hw (hx (ah w τ d))
 have hone:∀τ d,gT P (bO (b.at a (.inRegion ops (i::rest)::k)) cs) (ah w τ d) (bO (b.at (a.put o.dst (recvd ok (bf.getD 0 undef) true)) (.inRegion ops rest::k)) cs) (ah (ay w r (.chan cap (bf.extract 1 bf.size) false s (rc+1) tm)) τ d) (SI (hst τ d)):=λτ d=>by
  refine .comm (Sw (hst τ d)) ?_;have hpn:=cV;generalize hg:bO (b.at a (.inRegion ops (i::rest)::k)) cs=g;have e:bO (b.at (a.put o.dst (recvd ok (bf.getD 0 undef) true)) (.inRegion ops rest::k)) cs= {g with frame:=g.frame.finish (recvd ok (bf.getD 0 undef) true),status:=.running,offers:=none}:=by
   rw[<- hg,<- hfin];rfl
  rw[e];have hg:bf.getD 0 undef=bf[0]:=by simp[Array.getD,h0]
  cases ok<;>simp[up,ways,hc,hpn,h0,choose,SC,IS,bind,Sx,pure,IN,commResult,oneG,ay,ah,recvd,hg,dV]
 exact .step _ _ _ rfl (λτ d _=>hone τ d) λτ d _=>(aH T).er (h b k cs K hok hk hcc) τ d (nI T (fE hI τ d) (hone τ d))
theorem yy{r cap s rc v bf tm ok z}(ho:ops[i]?=some o)(hw:BY o (yielded ops a.tmps)=true)
 (hx:∀u,(AT a.eval o).run P u= .ok (.comm #[{chan:=.chan (some r),send:=none,zero:=z}] true (.recv ok)) u)
 (hc:w.heap[r]?=some (.chan cap (v::bf).toArray false s rc tm))
 (h:aV (aH T) ops Q rest (a.put o.dst (if ok then .tuple #[v,.bool true]else v)) (ay w r (.chan cap bf.toArray false s (rc+1) tm))):aV (aH T) ops Q (i::rest) a w:=by
 refine F3 ho hw hx hc (by simp) ?_;have e1:((v::bf).toArray).extract 1 ((v::bf).toArray).size=bf.toArray:=by simp
 have e2:recvd ok (((v::bf).toArray).getD 0 undef) true=if ok then .tuple #[v,.bool true]else v:=by
  cases ok<;>simp[recvd]
 rw[e1,e2];omega
end
end
section
open Go.Conc
section
variable{P:If}{D:dZ P}{ops:Array Oper}{Q:Exit->Act->AS->Prop}{md:Region.Mode}
inductive l8(D:dZ P)(ops:Array Oper)(Q:Exit->Act->AS->Prop)(i:Nat)(N:Act->AS->Prop)(a:Act)(w:AS):Prop
 |lone (h:∀τ d,wpOp P ops Q i N a (ah w τ d))
 |call {o f args R} (ho:ops[i]?=some o) (hw:BY o (yielded ops a.tmps)=true) (hx:∀u:AS,(AT a.eval o).run P u= .ok (.enter f args) u) (hf:D.okF f) (h:cb D f args w R)
  (hr:∀v w',R (.returned v) w'->N (a.put o.dst v) w') (hp:∀ch w',R (.panicked ch) w'->Q (.panic ch) a w')
def iL(D:dZ P)(md:Region.Mode)(ops:Array Oper)(Q:Exit->Act->AS->Prop):Nat->Array Bool->Act->AS->Prop
 |0,listed,a,w=>x5 md ops listed=[]/\Q .normal a w
 |fuel+1,listed,a,w=>(∀τ d,wpAny P md ops Q (fuel+1) listed a (ah w τ d))\/((x5 md ops listed=[]->Q .normal a w)/\∀i∈x5 md ops listed,l8 D ops Q i (iL D md ops Q fuel (listed.setIfInBounds i true)) a w)
theorem l8.mono{i N N' a w}(h:l8 D ops Q i N a w)(hn:∀a w,N a w->N' a w):l8 D ops Q i N' a w:=by
 cases h with
 |lone h=>exact .lone λτ d=>wpOp_mono hn (h τ d)
 |call ho hw hx hf h hr hp=>exact .call ho hw hx hf h (λv w' hv=>hn _ _ (hr v w' hv)) hp
theorem l8.thn{i N a w rest}(h:l8 D ops Q i N a w)(hn:∀a w,N a w->aV D ops Q rest a w):aV D ops Q (i::rest) a w:=by
 cases h with
 |lone h=>exact Mb h (λa' w' h=>hn _ _ h) (λch a' w' h=>h) λa' w' h=>h
 |call ho hw hx hf h hr hp=>exact f9 ho hw hx hf h (λv w' hv=>hn _ _ (hr v w' hv)) hp
theorem FS:∀fuel t listed a w,iL D md ops Q fuel listed a w->aV D ops Q (Region.linearise.go md ops fuel t listed []) a w:=by
 intro fuel;induction fuel with
 |zero=>intro t listed a w h;exact az h.2
 |succ fuel ih=>
  intro t listed a w h;rcases h with h|h
  .have:=r7 (D:=D) (rest:=[]) (Q:=Q) (Q1:=Q) (l:=Region.linearise.go md ops (fuel+1) t listed []) (λτ d=>wpAny_sound (fuel+1) t listed a _ (h τ d)) (λa' w' h=>az h) (λch a' w' h=>h) λ_ _ h=>h
   rw[List.append_nil]at this;omega
  simp only[Region.linearise.go];change aV D ops Q (match(x5 md ops listed)[t% (x5 md ops listed).length]? with
   |some i=>Region.linearise.go md ops fuel (t/ (x5 md ops listed).length) (listed.setIfInBounds i true) [i]
   |none=>[].reverse) a w
  cases hi:(x5 md ops listed)[t% (x5 md ops listed).length]? with
  |none=>
   have hnil:x5 md ops listed=[]:=by
    cases hr:x5 md ops listed with
    |nil=>rfl
    |cons x xs=>
     rw[hr]at hi;have hlt:t% (x::xs).length<(x::xs).length:=Nat.mod_lt _ (by simp);rw[List.getElem?_eq_getElem hlt]at hi;cases hi
   exact az (h.1 hnil)
  |some i=>
   dsimp only;rw[linearise_go_acc,List.reverse_singleton,List.singleton_append];exact(h.2 i (List.mem_of_getElem? hi)).thn λa w=>ih _ _ a w
theorem qg{id a w}(hm:P.follows .mixedOrders=true)(h:iL D .any ops Q ops.size (Array.replicate ops.size false) a w):cL D (.region id ops true) Q a w:=
 oM λt=>by
  simp[hm];exact FS ops.size t _ a _ h
theorem l8.yD{i o v a}(hi:ops[i]?=some o)(hy:OF P ops o v a){N w}(h:∀τ d,N (a.put o.dst v) (ah w τ d)):l8 D ops Q i N a w:=
 .lone λτ d=>hy.wpOp hi (h τ d)
theorem Ec(hq:∀a w τ d,Q .normal a w->Q .normal a (ah w τ d)):∀fuel listed a w τ d,iL D md ops Q fuel listed a w->iL D md ops Q fuel listed a (ah w τ d):=by
 intro fuel;cases fuel with
 |zero=>exactλlisted a w τ d h=>⟨h.1,hq _ _ _ _ h.2⟩
 |succ fuel=>
  intro listed a w τ d h;rcases h with h|h
  .exact .inl λτ d=>h τ d
  refine .inr ⟨λhr=>hq _ _ _ _ (h.1 hr),λi hi=> ?_⟩;cases h.2 i hi with
  |lone h=>exact .lone λτ d=>h τ d
  |call ho hw hx hf h hr hp=>exact .call ho hw hx hf (h.er τ d) hr hp
theorem l8.put{j oi oj v}(hj:ops[j]?=some oj)(h0:oi.apart ops oj=true)
 (h4:∀cs b,oi.op≠.select cs b) (h5:∀cs b,oj.op≠.select cs b)
 (hQ:∀c a w,Q (.panic c) (a.put oi.dst v) w->Q (.panic c) a w) {N a w}
 (hy:OF P ops oi v a) (h:l8 D ops Q j N (a.put oi.dst v) w):l8 D ops Q j (λa' w'=>OF P ops oi v a'/\N (a'.put oi.dst v) w') a w:=by
 cases h with
 |lone h=>exact .lone λτ d=>wpOp_put hj h0 h4 h5 hQ hy (h τ d)
 | @call o f args R ho hw hx hf h hr hp=>
  have e:=Option.some.inj (ho.symm.trans hj);subst e;obtain⟨h1,h2,h3⟩:=Oper.apart_spec h0;refine .call ho (by rw[<- wanted_put o a oi.dst v h1];omega) (λu=>by rw[<- execOp_put o h5 a oi.dst v h1];exact hx u) hf h (λu w' hu=> ?_) λch w' hu=>hQ _ _ _ (hp ch w' hu)
  refine⟨hy.of_same (execOp_put oi h4 a o.dst u h3) (wanted_put oi a o.dst u h3),?_⟩;rw[<- Act.put_comm a v u h2];grind
theorem FT{i oi v}(hi:ops[i]?=some oi)(h5:∀(j:Nat) o cs b,ops[j]?=some o->o.op≠.select cs b)
 (hQ:∀c a w,Q (.panic c) (a.put oi.dst v) w->Q (.panic c) a w) (hq:∀a w τ d,Q .normal a w->Q .normal a (ah w τ d)):
 ∀fuel listed a w,
  (∀j oj,ops[j]?=some oj->j≠i->listed.getD j true=false->(∀e∈oj.after,Sz md e=true->e.on≠i)->oi.apart ops oj=true)->
  i∈x5 md ops listed->OF P ops oi v a->
  iL D md ops Q fuel (listed.setIfInBounds i true) (a.put oi.dst v) w->iL D md ops Q (fuel+1) listed a w:=by
 intro fuel;induction fuel with
 |zero=>
  intro listed a w _ hr hy H;refine .inr ⟨λh=>(by rw[h]at hr;cases hr),λj hj=> ?_⟩;by_cases hji:j=i
  .subst hji;exact .yD hi hy λτ d=>Ec hq _ _ _ _ τ d H
  .have:=ready_mono hj hji;rw[H.1]at this;cases this
 |succ fuel ih=>
  intro listed a w h4 hr hy H;rcases H with H|H
  .exact .inl λτ d=>wpAny_first hi h5 hQ (fuel+1) listed a _ h4 hr hy (H τ d)
  have Hr:iL D md ops Q (fuel+1) (listed.setIfInBounds i true) (a.put oi.dst v) w:=.inr H;refine .inr ⟨λh=>(by rw[h]at hr;cases hr),λj hj=> ?_⟩;by_cases hji:j=i
  .subst hji;exact .yD hi hy λτ d=>Ec hq _ _ _ _ τ d Hr
  .have h1:=H.2 j (ready_mono hj hji);obtain⟨h6,oj,h7,hall⟩:=mem_ready.1 hj;have hc:∀e∈oj.after,Sz md e=true->e.on≠i:=λe he hb heq=>by
    have h1:=hall e he hb;have h0:=(mem_ready.1 hr).1;rw[heq]at h1;rcases Nat.lt_or_ge i listed.size with h'|h'
    .simp[h']at h0 h1;rw[h0]at h1;cases h1
    .simp[Array.getElem?_eq_none h']at h1
   have h2:=l8.put h7 (h4 j oj h7 hji h6 hc) (λcs b=>h5 i oi cs b hi) (λcs b=>h5 j oj cs b h7) hQ hy h1;have h8:∀k ok,ops[k]?=some ok->k≠i->(listed.setIfInBounds j true).getD k true=false->
    (∀e∈ok.after,Sz md e=true->e.on≠i)->oi.apart ops ok=true:=λk ok hk hki h9 hd=>by
    refine h4 k ok hk hki ?_ hd;by_cases ha:j=k
    .subst ha;exact h6
    .rw[getD_set_ne true ha]at h9;exact h9
   refine l8.mono h2 λa' w' h3=>ih (listed.setIfInBounds j true) a' w' h8 (ready_mono hr (Ne.symm hji)) h3.1 ?_
   rw[Array.setIfInBounds_comm _ _ hji];exact h3.2
theorem ID{i oi v fuel listed a w}(hi:ops[i]?=some oi)
 (hs:SK ops=true) (hf:Region.free md ops listed i=true) (hr:(x5 md ops listed).contains i=true)
 (hQ:∀c a w,Q (.panic c) (a.put oi.dst v) w->Q (.panic c) a w) (hq:∀a w τ d,Q .normal a w->Q .normal a (ah w τ d)) (hy:OF P ops oi v a)
 (h:iL D md ops Q fuel (listed.setIfInBounds i true) (a.put oi.dst v) w):iL D md ops Q (fuel+1) listed a w:=
 FT hi (Region.noSelect_spec hs) hQ hq fuel listed a w (Region.free_spec hi hf) (by simpa using hr) hy h
theorem dr{rs fuel listed a w}(hr:x5 md ops listed=rs)(hne:rs≠[])
 (h:∀i∈rs,l8 D ops Q i (iL D md ops Q fuel (listed.setIfInBounds i true)) a w):iL D md ops Q (fuel+1) listed a w:=
 .inr ⟨λh0=>absurd (hr▸h0) hne,hr▸h⟩
theorem l8.walk{i o N a w}(ho:ops[i]?=some o)(h:∀N',IT (∀a w,N a w->N' a w)->∀w1,w1.heap=w.heap->wpList P ops (Exit.then N' Q) [o] a w1):l8 D ops Q i N a w:=
 .lone λτ d=>by
  have:=h N (SD λ_ _ h=>h) (ah w τ d) rfl;simp[wpOp,ho];unfold wpList at this;split
  .rename_i hw;rw[if_pos hw]at this;rcases this with this|⟨h1,a2,w2,h2⟩
   .refine .inl ?_;generalize (AT a.eval o).run P (ah w τ d)=r at this;cases r with
    |ok n w'=>
     cases n<;>first
      |exact this
    |halt x w'=>cases x<;>exact this
   .exact .inr ⟨h1,a2,w2,h2⟩
  .rename_i hw;rw[if_neg hw]at this;exact this
theorem KO{l k fuel listed a w}(hl:∀j,l[j]?=ops[k+j]?)(hs:Region.seqB md ops (fuel+1) k listed=true)(hn:l.length=fuel+1)
 (h:∀w1,w1.heap=w.heap->wpList P ops Q l a w1):iL D md ops Q (fuel+1) listed a w:=.inl λτ d=>by
 rw[<- hn]at hs ⊢;exact wpAny_of_seq l k listed a _ hl hs (h _ rfl)
theorem vy{x y a w}(h:∀K,IT (∀a w,cL D y Q a w->K a w)->IT (∀a w τ d,K a w->K a (ah w τ d))->cL D x (Exit.then K Q) a w):cL D (.seq x y) Q a w:=
 xo (h _ (SD λ_ _ h=>h) (SD λ_ _ τ d h=>N6 h τ d))
theorem IZ{c a w}(hq:∀a w τ d,Q .normal a w->Q .normal a (ah w τ d))(h:∀K,IT (∀a w,Q .normal a w->K a w)->IT (∀a w τ d,K a w->K a (ah w τ d))->cL D c (Exit.then K Q) a w):cL D c Q a w:=
 zK (h (Q .normal) (SD λ_ _ h=>h) (SD hq)) λe a w h=>by cases e<;>exact h
theorem m9{c a w}(I:Nat->Act->AS->Prop)(n0)(h0:I n0 a w)(round:∀n a w,I n a w->cL D c (Exit.then (λa' w'=>∃m,m<n/\I m a' w') Q) a w):cL D (.loop c) Q a w:=λb k cs K hok hk hc=>by
 have key:∀n a w,I n a w->D.H K (bO (b.at a (.code c:: .inLoop c::k)) cs) w:=by
  intro n;induction n using Nat.strongRecOn with
  |_ n ih=>
   intro a w hI;refine round n a w hI b (.inLoop c::k) cs K hok hk λe a' w' hq=> ?_
   cases e with
   |normal=>
    obtain⟨m,hlt,hI1⟩:=hq;exact D.one (λu=>step_inLoop) hok (ih m hlt a' w' hI1)
   |exit id=>exact pq rfl (by simp) (hc _ _ _ hq)
   |goto l=>exact pq rfl (by simp) (hc _ _ _ hq)
   |ret=>exact hc _ _ _ hq
   |panic ch=>exact hc _ _ _ hq
   |outgrown=>exact hc _ _ _ hq
 exact D.one (λu=>step_loop) hok (key _ a w h0)
theorem lY{l tl:List Oper}{i o}(h:l.drop i=o::tl):l.toArray[i]?=some o:=by
 have:(l.drop i)[0]?=some o:=by simp[h]
 grind
section
variable{l tl:List Oper}{i:Nat}{oi:Oper}
theorem eI{v fuel listed a w}(hi:l.drop i=oi::tl)
 (hs:SK l.toArray=true) (hf:Region.free md l.toArray listed i=true) (hr:(x5 md l.toArray listed).contains i=true)
 (hQ:∀c a w,Q (.panic c) (a.put oi.dst v) w->Q (.panic c) a w) (hq:∀a w τ d,Q .normal a w->Q .normal a (ah w τ d)) (hy:OF P l.toArray oi v a)
 (h:iL D md l.toArray Q fuel (listed.setIfInBounds i true) (a.put oi.dst v) w):iL D md l.toArray Q (fuel+1) listed a w:=
 ID (lY hi) hs hf hr hQ hq hy h
theorem jg.walk{N a w}(hi:l.drop i=oi::tl)(h:∀N',IT (∀a w,N a w->N' a w)->∀w1,w1.heap=w.heap->wpList P l.toArray (Exit.then N' Q) [oi] a w1):l8 D l.toArray Q i N a w:=
 l8.walk (lY hi) h
theorem jg.call{N a w f args R}(hi:l.drop i=oi::tl)(hw:BY oi (yielded l.toArray a.tmps)=true)(hx:∀u,(AT a.eval oi).run P u= .ok (.enter f args) u)(hf:D.okF f)(h:cb D f args w R)
 (hr:∀v w',R (.returned v) w'->N (a.put oi.dst v) w') (hp:∀ch w',R (.panicked ch) w'->Q (.panic ch) a w'):l8 D l.toArray Q i N a w:=.call (lY hi) hw hx hf h hr hp
theorem lI{k fuel listed a w}(hs:Region.seqB md l.toArray (fuel+1) k listed=true)(hn:(l.drop k).length=fuel+1)
 (h:∀w1,w1.heap=w.heap->wpList P l.toArray Q (l.drop k) a w1):iL D md l.toArray Q (fuel+1) listed a w:=
 KO λj=>by simp hs hn h
theorem bF{rest a w f args R}(hi:l.drop i=oi::tl)(hw:BY oi (yielded l.toArray a.tmps)=true)
 (hx:∀u,(AT a.eval oi).run P u= .ok (.enter f args) u) (hf:D.okF f) (h:cb D f args w R)
 (hr:∀v w',R (.returned v) w'->aV D l.toArray Q rest (a.put oi.dst v) w') (hp:∀ch w',R (.panicked ch) w'->Q (.panic ch) a w'):aV D l.toArray Q (i::rest) a w:=f9 (lY hi) hw hx hf h hr hp
end
end
end
structure Tok where
 kind:Int
 at_:Int
 b0:Int
 b1:Int
 b2:Int
 b3:Int
 least:Int
 most:Int
 bad:Bool
inductive Nd where
 |set (id b0 b1 b2 b3:Int)
 |edge (id:Int) (fin:Bool)
 |seq (id:Int) (kids:List Nd)
 |alt (id:Int) (kids:List Nd)
 |grp (id:Int) (kid:Nd) (num:Int)
 |rep (id:Int) (kid:Nd) (least most:Int)
structure g7 where
 ts:List Tok
 t:Tok
 n:Int
 g:Int
inductive FX where
 |tok
 |own (k at_:Int)
inductive eJ(α:Type) where
 |ok (a:α) (s:g7)
 |err (x:FX) (s:g7)
def bN{α β:Type}(x:Option (eJ α))(f:α->g7->Option (eJ β)):Option (eJ β):=match x with
 |none=>none
 |some (.err e s)=>some (.err e s)
 |some (.ok a s)=>f a s
def cy(s:g7):Option (eJ Unit):=match s.ts with
 |[]=>none
 |t::ts=>some (if t.kind=8 then .err .tok ⟨ts,t,s.n,s.g⟩else .ok () ⟨ts,t,s.n,s.g⟩)
def gn(s:g7):Option (eJ Int):=if 0<=s.n/\s.n<1000000 then some (.ok (s.n+1) ⟨s.ts,s.t,s.n+1,s.g⟩)else none
mutual
def im:Nat->Int->g7->Option (eJ Nd)
 |0,_,_=>none
 |f+1,d,s=>bN (gn s) λid s=>il f d id [] s
def il:Nat->Int->Int->List Nd->g7->Option (eJ Nd)
 |0,_,_,_,_=>none
 |f+1,d,id,ks,s=>if ks.length<1000000 then bN (kS f d s) λk s=>if s.t.kind=6 then bN (cy s) λ_ s=>il f d id (ks++[k]) s else some (.ok (.alt id (ks++[k])) s)else none
def kS:Nat->Int->g7->Option (eJ Nd)
 |0,_,_=>none
 |f+1,d,s=>bN (gn s) λid s=>jP f d id [] s
def jP:Nat->Int->Int->List Nd->g7->Option (eJ Nd)
 |0,_,_,_,_=>none
 |f+1,d,id,ks,s=>
  if s.t.kind=0\/s.t.kind=6\/s.t.kind=5 then
   if s.t.kind=5/\d=0 then some (.err (.own 11 s.t.at_) s)
   else if ks.length=0 then some (.err (.own 9 s.t.at_) s)
   else some (.ok (.seq id ks) s)
  else if s.t.kind=7 then some (.err (.own 8 s.t.at_) s)
  else if ks.length<1000000 then bN (gm f d s) λk s=>jP f d id (ks++[k]) s else none
def gm:Nat->Int->g7->Option (eJ Nd)
 |0,_,_=>none
 |f+1,d,s=>bN (ik f d s) λk s=>fP f k s
def fP:Nat->Nd->g7->Option (eJ Nd)
 |0,_,_=>none
 |f+1,k,s=>if s.t.kind=7 then(if s.t.bad then some (.err .tok s)else bN (gn s) λid s=>bN (cy s) λ_ s'=>fP f (.rep id k s.t.least s.t.most) s')else some (.ok k s)
def ik:Nat->Int->g7->Option (eJ Nd)
 |0,_,_=>none
 |f+1,d,s=>if s.t.kind=4 then iy f d s else
  bN (cy s) λ_ s'=>bN (gn s') λid s'=>if s.t.kind=2 then some (.ok (.edge id false) s')else if s.t.kind=3 then some (.ok (.edge id true) s')else some (.ok (.set id s.t.b0 s.t.b1 s.t.b2 s.t.b3) s')
def iy:Nat->Int->g7->Option (eJ Nd)
 |0,_,_=>none
 |f+1,d,s=>
  if s.g=9 then some (.err (.own 12 s.t.at_) s)
  else if 0<=d/\d<1000/\0<=s.g/\s.g<1000 then
   bN (gn ⟨s.ts,s.t,s.n,s.g+1⟩) λid s1=>bN (cy s1) λ_ s2=>bN (im f (d+1) s2) λk s3=>
    if s3.t.kind=5 then bN (cy s3) λ_ s4=>some (.ok (.grp id k (s.g+1)) s4)else some (.err (.own 10 s.t.at_) s3)
  else none
end
end Go.Proofs.YtkgohmcmmcpigaaGreatDoor
