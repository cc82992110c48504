/- A part of the proof that Compiles holds; no condition. -/
import Derived.Conc.Beside
import Derived.Conc.TokenTrace
import Derived.RegionTactic
import Derived.StillTail
import Derived.Test.YtkgohmcmmcpigaaGreatDoorP03
set_option linter.unusedSectionVars false
set_option linter.unusedSimpArgs false
set_option linter.unusedVariables false
namespace Go.Proofs.YtkgohmcmmcpigaaGreatDoor
open Go
open Go renaming World->AI,communicate->AS,Goroutine->AT,Value->If,execOp->IN,Program->IT,Yields->PJ,Event->PK,FuncId->PV,Frame->PZ
open Go.Region renaming ready->By,wanted->IS,binds->PU,noSelect->Q7
open _root_.Array renaming getElem?_eq_some_iff->BY,getElem?_setIfInBounds_ne->PD,getElem?_eq_getElem->PL
open Go.Goroutine renaming finishComm->No,status->PM
open Go.Question renaming forced->OF
open Go.RowKit renaming Hid->PE
open _root_.Nat renaming le_refl->PG
open _root_.Bool renaming and_eq_true->PN,false_eq_true->PW
open _root_.Classical renaming choose_spec->PO,choose->Q6
open Go.Sem renaming bind->PP,run->PX
open Go.Stepped renaming next->PR
open Go.Lib renaming hid->PY
open Go.Frame renaming oper?->Q2,enter->Q3,finish_at->Q8
open _root_.List renaming not_mem_nil->Q4,mem_toArray->Q5
open Go.CallKind renaming early->Q9
section
variable[aJ]
def isComm(o:Op):Prop:=(∃c x,o= .send c x)∨∃t c ok,o= .recv t c ok
structure sU(fr:PZ):Prop where
 mode:fr.mode= .run
 at_:∃ops i is k o,fr.todo= .inRegion ops (i::is)::k∧ops[i]?=some o∧isComm o.op
section
variable{P:IT}{fr:PZ}{cs:List PZ}{w w1:AI}{g1:AT}{c:Array CommCase}{b:Bool}{sh:CommShape}{es:Array PK}
theorem lT{s:Sem Next}(hk:fr.kind= .normal∨fr.kind= .deferred)(h:stepG.apply P true fr cs none s w= .comm g1 c b sh w1 es):
 ∃es0,s.runT P w #[]=(.ok (.comm c b sh) w1,es0)∧g1= {frame:=fr,callers:=cs,status:=.running,dying:=none}∧es=seen P fr.fn es0:=by
 have hke:(fr.kind==Q9)=false:=by rcases hk with h|h<;>rw[h]<;>rfl
 unfold stepG.apply at h;simp only[if_true,hke,PW,if_false]at h;generalize hr:s.runT P w #[]=x at h;obtain⟨r,e0⟩:=x;cases r with
 |ok n v=>
  cases n;case comm a b' c'=>
   dsimp only at h;obtain⟨e2,h4,rfl⟩:=bC h;cases h4;exact⟨e0,rfl,rfl,by simp⟩
  all_goals
   dsimp only at h;obtain⟨e2,h4,_⟩:=bC h;exfalso;first
    |(cases h4;done)
    |(
     repeat' split at h4
     all_goals cases h4)
 |halt x v=>
  exfalso;cases x;case fatal m=>
   dsimp only at h;obtain⟨e2,h4,_⟩:=bC h;exact mR h4
  case unsupported u=>
   cases u;case initOrder g=>
    dsimp only at h;obtain⟨e2,h4,_⟩:=bC h;exact vV h4
   all_goals
    dsimp only at h;obtain⟨e2,h4,_⟩:=bC h;cases h4
  all_goals
   dsimp only at h;obtain⟨e2,h4,_⟩:=bC h;cases h4
theorem Jc{ρ:Operand→If}{o:Oper}(ho:isComm o.op){n:Next}{es0 es1:Array PK}(h:(IN ρ o).runT P w es0=(.ok n w1,es1)):w1=w∧es1=es0:=by
 rcases ho with⟨ch,x,ho⟩|⟨t,ch,ok,ho⟩
 ·unfold IN at h;rw[ho]at h;dsimp only at h;have h:((.ok _ w,es0):Result Next×Array PK)=(.ok n w1,es1):=h;simp only[Prod.mk.injEq,Result.ok.injEq]at h;exact⟨h.1.2.symm,h.2.symm⟩
 ·unfold IN at h;rw[ho]at h;dsimp only at h;rw[aN,n7]at h;cases hu:P.underlying t with
  |none=>rw[hu]at h;cases h
  |some d=>
   rw[hu]at h;dsimp only at h;cases d;case chan dir e=>
    dsimp only at h;rw[aN]at h;have hz:(zeroValue e).runT P w es0=match P.info? e with
     |some i=>match i.zero with
      |some v=>(.ok v w,es0)
      |none=>(.halt (.unsupported (.resourceLimit "a value of more than 2^22 cells")) w,es0)
     |none=>(.halt (.stuck "no such type") w,es0):=by
     unfold zeroValue;rw[aN,jX];cases P.info? e with
     |none=>rfl
     |some i=>
      dsimp only;cases i.zero<;>rfl
    rw[hz]at h;cases hi:P.info? e with
    |none=>rw[hi]at h;cases h
    |some i=>
     rw[hi]at h;dsimp only at h;cases hz0:i.zero with
     |none=>rw[hz0]at h;cases h
     |some v=>
      rw[hz0]at h;dsimp only at h;have h:((.ok _ w,es0):Result Next×Array PK)=(.ok n w1,es1):=h;simp only[Prod.mk.injEq,Result.ok.injEq]at h;exact⟨h.1.2.symm,h.2.symm⟩
   all_goals cases h
theorem ua{m:Bool}{g:AT}(hA:sU g.frame)(hd:g.dying=none)(hr:g.frame.roundOf=none)(hk:g.frame.kind= .normal∨g.frame.kind= .deferred)(h:stepG P m g w= .comm g1 c b sh w1 es):
 w1=w∧es=#[]∧g1= {frame:=g.frame,callers:=g.callers,status:=.running,dying:=none}:=by
 obtain⟨fr,cs,st,dy,off⟩:=g;dsimp only at hd hr hk hA ⊢;subst hd;obtain⟨hm,ops,i,is,k,o,ht,ho,hc⟩:=hA;have e1:stepG P m {frame:=fr,callers:=cs,status:=st,dying:=none,offers:=off} w=stepG.exec P m true fr cs none w:=by
  unfold stepG;dsimp only;rw[hm]
 rw[e1]at h;unfold stepG.exec at h;dsimp only at h;rw[ht]at h;dsimp only at h;split at h
 ·unfold stepG.oper at h;have hop:fr.oper?=some o:=by unfold Q2;rw[ht];exact ho
  rw[hop]at h;dsimp only at h;split at h
  ·rename_i l c2 h1 h2;rw[hr]at h1;cases h1
  ·obtain⟨es0,h2,rfl,rfl⟩:=lT hk h;obtain⟨rfl,rfl⟩:=Jc hc h2;exact⟨rfl,rfl,rfl⟩
 ·cases h
end
section
variable{Q:IT}{β:Nat→Option Code}{dt:be}{cl:Bool}
theorem Ak(A:lw Q β){m:Bool}{g:AT}{w w1:AI}{g1:AT}{c:Array CommCase}{b:Bool}{sh:CommShape}{es:Array PK}(hg:ck Q dt cl g.frame)(hd:g.dying=none)(h:stepG (alt Q β) m g w= .comm g1 c b sh w1 es):sU g.frame:=by
 obtain⟨fr,cs,st,dy,off⟩:=g;dsimp only at hd hg ⊢;subst hd;cases hm:fr.mode with
 |run=>
  have e1:stepG (alt Q β) m {frame:=fr,callers:=cs,status:=st,dying:=none,offers:=off} w=stepG.exec (alt Q β) m true fr cs none w:=by
   unfold stepG;dsimp only;rw[hm]
  rw[e1]at h;refine⟨hm,?_⟩;unfold stepG.exec at h;dsimp only at h;cases ht:fr.todo with
  |nil=>rw[ht]at h;dsimp only at h;rw[hg.round]at h;cases h
  |cons it k=>
   have hi:=hg.items it (by rw[ht];exact .head _);rw[ht]at h;cases it with
   |inRegion ops todo=>
    cases todo with
    |nil=>cases h
    |cons i is=>
     dsimp only at h;split at h
     ·unfold stepG.oper at h;cases ho:fr.oper? with
      |none=>rw[ho]at h;cases h
      |some o=>
       rw[ho]at h;dsimp only at h;have ho2:ops[i]?=some o:=by
        unfold Q2 at ho;rw[ht]at ho;exact ho
       have hop:mN Q dt cl fr.fn o=true:=hi i (.head _) o ho2;have hsim:iS Q dt cl fr.fn o=true:=by
        unfold mN at hop;rw[PN]at hop;exact hop.1
       refine⟨ops,i,is,k,o,rfl,ho2,?_⟩;split at h
       ·rename_i l c2 h1 h2;rw[hg.round]at h1;cases h1
       ·obtain⟨es0,h2,_,_⟩:=lT hg.kind h;refine Classical.byContradiction fun hnc=> ?_
        have hyp:YP (alt Q β) (fun n=>∀c b sh,n≠.comm c b sh) (IN fr.eval o):=by
         unfold iS at hsim;rw[PN]at hsim;have h0:=hsim.1;cases h3:o.op;case send ch x=>exact absurd (.inl ⟨ch,x,h3⟩) hnc
         case recv t ch ok=>exact absurd (.inr ⟨t,ch,ok,h3⟩) hnc
         case call cc=>
          rw[h3]at h0;dsimp only at h0;rw[PN]at h0;obtain⟨k1,k2⟩:=h0;unfold IN;rw[h3];dsimp only;unfold resolve;unfold lD nF at k1;cases hk:cc.callee;case value x=>
           rw[hk]at k1;cases x;case func gf=>
            intro w es a w1 es1 hrun;rcases rC A gf (#[]++cc.args.map fr.eval++ #[]) w es a w1 es1 hrun with⟨v,rfl⟩|rfl
            ·exact fun _ _ _=>nofun
            ·exact fun _ _ _=>nofun
           all_goals cases k1
          case builtin bb=>
           rw[hk]at k1;cases bb;case len=>exact cS (s:=Builtin.len_ cc.argTypes o.type (cc.args.map fr.eval)) fun v=>bW (fun _ _ _=>nofun)
           case recover=>exact bW (fun _ _ _=>nofun)
           case append=>exact cS (s:=Builtin.append_ cc.argTypes o.type (cc.args.map fr.eval)) fun v=>bW (fun _ _ _=>nofun)
           case min=>exact cS (s:=Builtin.min_ cc.argTypes o.type (cc.args.map fr.eval)) fun v=>bW (fun _ _ _=>nofun)
           all_goals cases k1
          all_goals(rw[hk]at k1;cases k1)
         case defer cc=>
          unfold IN;rw[h3];exact cS fun v=>bW (fun _ _ _=>nofun)
         all_goals
          rw[h3]at h0;dsimp only at h0;unfold ng at h0;rw[h3]at h0;try dsimp only at h0
         all_goals try(exact absurd h0 Bool.false_ne_true)
         all_goals
          unfold IN;rw[h3];dsimp only
         case nilCheck x=>
          cases fr.eval x;case pointer a=>cases a with
           |none=>exact cS (s:=program) fun p=>fH
           |some a=>exact bW (fun _ _ _=>nofun)
          case nilIface=>exact cS (s:=program) fun p=>fH
          case nilFunc=>exact cS (s:=program) fun p=>fH
          case func fn first captured=>
           cases fn;case method name=>
            dsimp only;split
            ·exact cS (s:=program) fun p=>fH
            ·exact cS fun p=>cS fun b=>by
              split
              ·exact fH
              ·exact bW (fun _ _ _=>nofun)
            ·exact bW (fun _ _ _=>nofun)
           all_goals exact bW (fun _ _ _=>nofun)
          all_goals exact bW (fun _ _ _=>nofun)
         all_goals first
          |exact cS fun _=>bW (fun _ _ _=>nofun)
          |exact bW (fun _ _ _=>nofun)
        exact hyp _ _ _ _ _ h2 _ _ _ rfl
     ·cases h
   |code cd=>
    cases cd with
    |region id ops draw=>
     dsimp only at h;split at h
     ·cases h
     ·rw[sq]at h;cases h
    |ret=>dsimp only at h;rw[hg.round]at h;cases h
    |exit id=>
     dsimp only at h;cases he:exitTo id k with
     |some t=>rw[he]at h;cases h
     |none=>rw[he]at h;dsimp only[Option.elim]at h;rw[hg.round]at h;cases h
    |goto l=>
     dsimp only at h;cases he:gotoIn l k with
     |some t=>rw[he]at h;cases h
     |none=>rw[he]at h;dsimp only[Option.elim]at h;rw[hg.round]at h;cases h
    |rangeFunc f p a b2=>have hi:codeOk Q dt cl fr.fn (.rangeFunc f p a b2)=true:=hi;cases hi
    |cond c0 a b2=>
     dsimp only at h;split at h<;>cases h
    |_=>cases h
   |inRangeFunc l=>exact hi.elim
   |endRangeFunc l=>exact hi.elim
   |beginRound=>exact hi.elim
   |call d a b2 c2=>exact hi.elim
   |extern r a=>exact hi.elim
   |_=>cases h
 |_=>
  exfalso;have e1:stepG (alt Q β) m {frame:=fr,callers:=cs,status:=st,dying:=none,offers:=off} w=unwind (alt Q β) m fr cs none w:=by
   unfold stepG;dsimp only;rw[hm]
  rw[e1]at h;exact pt h
end
end
section
variable[aJ]
section
variable{Q:IT}{β:Nat→Option Code}{D0:PZ}{dt:be}{cl:Bool}{Ro:Nat→Prop}{os:Os}{rest:List PZ}{p:Part}{g g':AT}{w w':AI}
def qo(p:Part)(w w' w2':AI)(i:Nat):Prop:=w2'.heap[p.κ i]?=w'.heap[p.κ i]?∨
 ((∀o,w.heap[i]?=some o→¬ iR o)∧∃o',w2'.heap[p.κ i]?=some o'∧Plain o'∧((∃c e f,o'= .cells c e f)∨∀o,w.heap[i]?=some o→o'.isChan=o.isChan))
theorem FH(hp:iY Q p w.heap.size w'.heap.size){w2':AI}(hk:∀i,p.K i→qo p w w' w2' i)(hos:w2'.os=w'.os)(hknown:∀i o,w.heap[i]?=some o→iR o→p.K i)
 {σ:Nat→Nat} (hσ:Ag p σ) (h:ew σ Ro ⟨p.K,os⟩ (af w w'.tape w'.drawn) w'):ew σ Ro ⟨p.K,os⟩ (af w w2'.tape w2'.drawn) w2':=by
 refine⟨h.inj,rfl,rfl,h.ro,fun i o ho=> ?_,h.num,⟨h.os.1,hos.trans h.os.2⟩⟩;have hB:=h.blk i o ho;have h4:w.heap[i]?=some o:=ho;have hrow:iR o→w2'.heap[σ i]?=w'.heap[σ i]?:=fun hn=>by
  have hK:=hknown i o h4 hn;rw[hσ.2 i hK];rcases hk i hK with e|⟨hno,_⟩
  ·exact e
  ·exact absurd hn (hno o h4)
 cases o;case cells c e f=>rw[hrow trivial];exact hB
 case number a l=>rw[hrow trivial];exact hB
 case pending=>exact hB.elim
 case view=>exact hB.elim
 all_goals
  intro hK;have h0:p.K i:=hK;rcases hk i h0 with e|⟨_,o',h1,h2,h3⟩
  ·rw[hσ.2 i h0,e,← hσ.2 i h0];exact hB h0
  ·rw[hσ.2 i h0];exact⟨o',h1,h2,h3.imp id fun h=>h _ h4⟩
theorem Side.keep(S:Side Q β D0 dt cl Ro os rest p g w g' w'){w2':AI}{g2':AT}(hsz:w'.heap.size≤w2'.heap.size)(hos:w2'.os=w'.os)(hk:∀i,p.K i→qo p w w' w2' i)
 (hg:g2'.frame=g'.frame∧g2'.callers=g'.callers∧g2'.dying=g'.dying∧g2'.status= .running):Side Q β D0 dt cl Ro os rest p g w g2' w2':=by
 have hknown:∀i o,w.heap[i]?=some o→iR o→p.K i:=fun i o ho hn=>oV S.part S.relW ho hn
 refine⟨⟨S.part.inj,S.part.dom,fun i hi=>Nat.lt_of_lt_of_le (S.part.ran i hi) hsz,S.part.low⟩,S.gok,S.iv,S.ro,fun σ hσ=> ?_,fun σ hσ=>FH S.part hk hos hknown hσ (S.relW σ hσ)⟩;have h:=S.relG σ hσ;exact⟨hg.1.trans h.frame,hg.2.1.trans h.callers,⟨h.dying.1,hg.2.2.1.trans h.dying.2⟩,⟨h.status.1,hg.2.2.2⟩⟩
def ay(w:AI)(r:Nat)(o:Obj):AI:= {w with heap:=w.heap.setIfInBounds r o}
theorem Side.chan(S:Side Q β D0 dt cl Ro os rest p g w g' w'){r:Nat}{o o2:Obj}(ho:w.heap[r]?=some o)(hc:o.isChan=true)(hc2:o2.isChan=true):Side Q β D0 dt cl Ro os rest p g (ay w r o2) g' w':=by
 have hne:∀i,mV w i→r≠i:=fun i ⟨c,t,h⟩ e=>by
  subst e;rw[ho]at h;cases h;cases hc
 have hsz:(ay w r o2).heap.size=w.heap.size:=by simp[ay]
 have hget:∀i,r≠i→(ay w r o2).heap[i]?=w.heap[i]?:=fun i hi=>by simp only[ay];rw[PD hi]
 have hok2:pm o2:=by cases o2<;>first |trivial|cases hc2
 have hhp:am (ay w r o2):=eH S.iv.1 hok2;refine⟨by rw[hsz];exact S.part,S.gok,⟨hhp,S.iv.2⟩,fun i hi=> ?_,S.relG,fun σ hσ=> ?_⟩
 ·obtain⟨c,t,h⟩:=S.ro i hi;exact⟨c,t,(hget i (hne i ⟨c,t,h⟩)).trans h⟩
 ·have h:=S.relW σ hσ;have hlt:=(BY.1 ho).1;refine⟨h.inj,h.tape,h.drawn,fun i hi=>by have:=h.ro i hi;exact(by simpa[ay]using this),fun i x hx=> ?_,fun i a l hx=> ?_,h.os⟩
  ·have hx:(ay w r o2).heap[i]?=some x:=hx;by_cases hi:r=i
   ·subst hi;have:x=o2:=by simp[ay,hlt]at hx;exact hx.symm
    subst this;have hB:=h.blk r o ho;cases o<;>first |cases hc|skip
    cases x<;>first |cases hc2|skip
    exact hB
   ·rw[hget i hi]at hx;exact h.blk i x hx
  ·have hx:(ay w r o2).heap[i]?=some (.number a l):=hx;by_cases hi:r=i
   ·subst hi;have: .number a l=o2:=by simp[ay,hlt]at hx;exact hx.symm
    subst this;cases hc2
   ·rw[hget i hi]at hx;exact h.num i a l hx
theorem Side.fin(S:Side Q β D0 dt cl Ro os rest p g w g' w')(hf:mh dt g.frame){v v':If}(hv:∀σ,Ag p σ→v'=a7 σ v){off off':Option (Array CommCase×CommShape)}:
 Side Q β D0 dt cl Ro os rest p {g with frame:=g.frame.finish v,status:=.running,offers:=off} w {g' with frame:=g'.frame.finish v',status:=.running,offers:=off'} w':=by
 have hst:g.status= .running:=(S.relG _ (bI S.part 0)).status.1;have hdy:g.dying=none:=(S.relG _ (bI S.part 0)).dying.1;refine⟨S.part,⟨S.gok.frame.finish fun o t h1 h2 h3=>absurd h3 (hf o t h1 h2),S.gok.callers,cL g.callers.dropLast (by unfold Frame.finish;split <;>rfl) S.gok.stack,S.gok.last⟩,⟨S.iv.1,?_⟩,S.ro,fun σ hσ=> ?_,S.relW⟩
 ·rcases S.iv.2 with⟨⟨d,hd,_⟩,_⟩|⟨hj,hd⟩
  ·rw[hdy]at hd;cases hd
  ·exact .inr ⟨⟨fo hj.1 v,hj.2.1,nofun,aq (ap _ _) hj.2.2.2⟩,hd⟩
 ·have h:=S.relG σ hσ;refine⟨?_,h.callers,h.dying,⟨rfl,rfl⟩⟩;dsimp only;rw[h.frame,hv σ hσ,gG S.gok.frame.dE.1 S.gok.frame.dE.2]
def Part.also(p:Part)(e b:Nat):Part:=⟨fun i=>p.K i∨i=e,fun i=>if i=e then b else p.κ i⟩
theorem Side.also(S:Side Q β D0 dt cl Ro os rest p g w g' w'){e b:Nat}(hne:¬ p.K e)(he:e<w.heap.size)(hb:∃c t f,w'.heap[b]?=some (.cells c t f))(hfar:∀i,p.K i→p.κ i≠b):Side Q β D0 dt cl Ro os rest (p.also e b) g w g' w':=by
 have hκ:∀i,p.K i→(p.also e b).κ i=p.κ i:=fun i hi=>by
  show(if i=e then b else p.κ i)=_;rw[if_neg (fun h:i=e=>hne (h▸hi))]
 have hκe:(p.also e b).κ e=b:=by
  show(if e=e then b else p.κ e)=_;rw[if_pos rfl]
 have hag:∀σ,Ag (p.also e b) σ→Ag p σ:=fun σ h=>⟨h.1,fun i hi=>(h.2 i (.inl hi)).trans (hκ i hi)⟩
 have hge:¬ ∃o,w.heap[e]?=some o∧iR o:=fun⟨o,ho,hn⟩=>hne (oV S.part S.relW ho hn)
 obtain⟨c,t,f,hb⟩:=hb;have hlt:=(BY.1 hb).1;refine⟨⟨fun i j hi hj h=> ?_,fun i hi=> ?_,fun i hi=> ?_,fun g hg=>⟨.inl (S.part.low g hg).1,(hκ g (S.part.low g hg).1).trans (S.part.low g hg).2⟩⟩,S.gok,S.iv,S.ro,fun σ hσ=>S.relG σ (hag σ hσ),fun σ hσ=> ?_⟩
 ·rcases hi with hi|rfl<;>rcases hj with hj|rfl
  ·rw[hκ i hi,hκ j hj]at h;exact S.part.inj i j hi hj h
  ·rw[hκ i hi,hκe]at h;exact absurd h (hfar i hi)
  ·rw[hκ j hj,hκe]at h;exact absurd h.symm (hfar j hj)
  ·rfl
 ·rcases hi with hi|rfl
  ·exact S.part.dom i hi
  ·exact he
 ·rcases hi with hi|rfl
  ·rw[hκ i hi];exact S.part.ran i hi
  ·rw[hκe];exact hlt
 ·have h:=S.relW σ (hag σ hσ);refine⟨h.inj,h.tape,h.drawn,h.ro,fun i o ho=> ?_,fun i a l ho=>.inl (h.num i a l ho),h.os⟩;have hB:=h.blk i o ho;cases o;case cells c e f=>exact hB
  case number a l=>exact hB
  case pending=>exact hB.elim
  case view=>exact hB.elim
  all_goals
   intro hk;rcases hk with hk|rfl
   ·exact hB hk
   ·refine⟨.cells c t f,?_,trivial,.inl ⟨_,_,_,rfl⟩⟩;rw[hσ.2 i (.inr rfl),hκe];exact hb
end
end
section
open Go.Conc
open Go.ConcN (sumTo upd sumTo_upd upd_ne upd_same)
variable[aJ]
structure Held(t:Trace):Prop where
 clean:∀said,¬ Race said t
 known:∀i a,touchAt t i=some a→a.loc.isMemory=true→Knows t 0 i
 over:t.HandedOver
theorem Held.own{t:Trace}(h:Held t){u:Trace}(hu:∀op∈u,op.g=0):Held (t++u):=by
 refine⟨fun said=>noRace_append (h.clean said) hu fun i a ha op hop b hb hc=>h.known i a ha hc.2.1,fun i a ha hm=> ?_,handedOver_app h.over fun op hop=>.inl (hu op hop)⟩;obtain⟨x,hx,h0⟩:=touch_of ha;rcases getElem?_append_cases hx with⟨_,hx'⟩|⟨_,h1⟩
 ·exact(h.known i a (by rw[touchAt_of hx'];exact h0) hm).app u
 ·have:=knows_own hx;rw[hu x h1]at this;exact this
theorem Held.mute{t:Trace}(h:Held t){g:Nat}(hg:g≠0){u:Trace}(hu:∀op∈u,op.g=g)(hn:∀op∈u,op.act.touch?=none):Held (t++u):=by
 refine⟨fun said=>noRace_append (h.clean said) hu fun i a _ op hop b hb _=>(by rw[hn op hop]at hb;cases hb),fun i a ha hm=> ?_,handedOver_app h.over fun op hop=>.inr (hn op hop)⟩;obtain⟨x,hx,h0⟩:=touch_of ha;rcases getElem?_append_cases hx with⟨_,hx'⟩|⟨_,h1⟩
 ·exact(h.known i a (by rw[touchAt_of hx'];exact h0) hm).app u
 ·rw[hn x h1]at h0;cases h0
def Runs(Q:IT)(m:Machine)(t:Trace)(R:Machine→Trace→Prop):Prop:=∃N m' t',runNT Q N m t=(.next m',t')∧R m' t'
section
variable{Q:IT}{R R':Machine→Trace→Prop}{m m':Machine}{t t':Trace}
theorem Runs.here(h:R m t):Runs Q m t R:=⟨0,m,t,rfl,h⟩
theorem Runs.mono(h:Runs Q m t R)(hR:∀m t,R m t→R' m t):Runs Q m t R':=let⟨N,m',t',h1,h2⟩:=h;⟨N,m',t',h1,hR _ _ h2⟩
theorem Runs.after{N:Nat}(h:runNT Q N m t=(.next m',t'))(hr:Runs Q m' t' R):Runs Q m t R:=by
 obtain⟨K,m2,t2,h1,h2⟩:=hr;exact⟨N+K,m2,t2,by rw[runNT_add,h];exact h1,h2⟩
theorem Runs.bind(h:Runs Q m t R)(hR:∀m' t',R m' t'→Runs Q m' t' R'):Runs Q m t R':=by
 obtain⟨N,m',t',h1,h2⟩:=h;exact(hR _ _ h2).after h1
theorem Runs.step{ops:Array MemOp}(h:stepT Q m=(.next m',ops))(hr:Runs Q m' (t++ops) R):Runs Q m t R:=
 hr.after (N:=1) (by simp only[runNT,h])
end
section
variable{Q:IT}{β:Nat→Option Code}{K:AT→AI→Prop}
def ir(β:Nat→Option Code):Prop:=∀f c,β f=some c→∃why,c= .refuse why
theorem vS(hβ:ir β){g:AT}(h:pU Q β g)(w:AI):∃o,stepG (alt Q β) true g w= .ended o w:=by
 obtain⟨f,args,k,h1,h2,hst,hdy⟩:=h;obtain⟨c,hc⟩:=Option.isSome_iff_exists.1 h2;obtain⟨why,rfl⟩:=hβ f c hc;have he:∃why2,(Q3 (alt Q β) f args k).todo=[.code (.refuse why2)]:=by
  unfold Q3;rw[j6];cases hf:Q.funcs[f]? with
  |none=>exact⟨_,rfl⟩
  |some fn=>
   refine⟨why,?_⟩;have:(aw β f fn).body=some (.refuse why):=by unfold aw;rw[hc]
   simp[this]
 obtain⟨why2,he⟩:=he;have hm:(Q3 (alt Q β) f args k).mode= .run:=rfl;obtain⟨fr,cs,st,dy,off⟩:=g;dsimp only at h1 hdy;rw[← h1]at he hm;have key:∀dy,stepG.exec (alt Q β) true true fr cs dy w= .ended (.unsupported (Unsupported.elab why2) (fr.pos (alt Q β))) w:=fun dy=>by
  unfold stepG.exec;dsimp only;rw[he]
 refine⟨.unsupported (Unsupported.elab why2) (fr.pos (alt Q β)),?_⟩;cases dy with
 |none=>
  unfold stepG;dsimp only;rw[hm];exact key none
 |some d=>
  have h0:=hdy d rfl;obtain⟨a1,b1,c1,e1,f1,i1,j1⟩:=d;dsimp only at h0;subst h0;unfold stepG;dsimp only;rw[hm];exact key _
end
end
section
open Go.Conc
structure PT(k:Nat)(TA TB:Touch→Prop)(t:Trace):Prop where
 clean:∀said,¬ Race said t
 knA:∀i a,touchAt t i=some a→a.loc.isMemory=true→Knows t 0 i∨(t.g? i=some k∧TB a)
 knB:∀i a,touchAt t i=some a→a.loc.isMemory=true→Knows t k i∨(t.g? i=some 0∧TA a)
 hA:Deaf t 0=0
 hB:Deaf t k=0
def Apart(TA TB:Touch→Prop):Prop:=∀a b,TA a→TB b→a.loc=b.loc→a.loc.isMemory=true→a.write=false∧b.write=false
def Quiet(u:Trace):Prop:=∀g,∀op∈u,∀d,deafStep g d op=d
section
variable{k:Nat}{TA TB TA' TB':Touch→Prop}{t u:Trace}
theorem PT.mono(H:PT k TA TB t)(hA:∀a,TA a→TA' a)(hB:∀a,TB a→TB' a):PT k TA' TB' t:=
 ⟨H.clean,fun i a h1 h2=>(H.knA i a h1 h2).imp id fun h=>⟨h.1,hB a h.2⟩,fun i a h1 h2=>(H.knB i a h1 h2).imp id fun h=>⟨h.1,hA a h.2⟩,H.hA,H.hB⟩
theorem PT.NV(H:PT k TA TB t)(hap:Apart TA TB)(hu:∀op∈u,op.g=0)(ht:∀op∈u,∀b,op.act.touch?=some b→b.loc.isMemory=true→TA b)(hq:Quiet u):PT k TA TB (t++u):=by
 refine⟨fun said=>noRace_append (H.clean said) hu fun i a ha op hop b hb hc=> ?_,fun i a ha hm=> ?_,fun i a ha hm=> ?_,(Deaf_quiet (hq 0)).trans H.hA,(Deaf_quiet (hq k)).trans H.hB⟩
 ·rcases H.knA i a ha hc.2.1 with h|⟨_,h⟩
  ·exact h
  ·exfalso;have h4:b.loc.isMemory=true:=hc.1▸hc.2.1;obtain⟨h1,h2⟩:=hap b a (ht op hop b hb h4) h hc.1.symm h4;rcases hc.2.2.1 with x|x
   ·rw[h2]at x;cases x
   ·rw[h1]at x;cases x
 ·obtain⟨x,hx,h0⟩:=touch_of ha;rcases getElem?_append_cases hx with⟨hi,hx'⟩|⟨_,h3⟩
  ·rcases H.knA i a (by rw[touchAt_of hx'];exact h0) hm with h|⟨h1,h2⟩
   ·exact .inl (h.app u)
   ·exact .inr ⟨by rw[g?_old hi];exact h1,h2⟩
  ·have:=knows_own hx;rw[hu x h3]at this;exact .inl this
 ·obtain⟨x,hx,h0⟩:=touch_of ha;rcases getElem?_append_cases hx with⟨hi,hx'⟩|⟨_,h3⟩
  ·rcases H.knB i a (by rw[touchAt_of hx'];exact h0) hm with h|⟨h1,h2⟩
   ·exact .inl (h.app u)
   ·exact .inr ⟨by rw[g?_old hi];exact h1,h2⟩
  ·exact .inr ⟨by rw[g?_of hx,hu x h3],ht x h3 a h0 hm⟩
theorem PT.Mj(H:PT k TA TB t)(hap:Apart TA TB)(hu:∀op∈u,op.g=k)(ht:∀op∈u,∀b,op.act.touch?=some b→b.loc.isMemory=true→TB b)(hq:Quiet u):PT k TA TB (t++u):=by
 refine⟨fun said=>noRace_append (H.clean said) hu fun i a ha op hop b hb hc=> ?_,fun i a ha hm=> ?_,fun i a ha hm=> ?_,(Deaf_quiet (hq 0)).trans H.hA,(Deaf_quiet (hq k)).trans H.hB⟩
 ·rcases H.knB i a ha hc.2.1 with h|⟨_,h⟩
  ·exact h
  ·exfalso;have h4:b.loc.isMemory=true:=hc.1▸hc.2.1;obtain⟨h1,h2⟩:=hap a b h (ht op hop b hb h4) hc.1 hc.2.1;rcases hc.2.2.1 with x|x
   ·rw[h1]at x;cases x
   ·rw[h2]at x;cases x
 ·obtain⟨x,hx,h0⟩:=touch_of ha;rcases getElem?_append_cases hx with⟨hi,hx'⟩|⟨_,h3⟩
  ·rcases H.knA i a (by rw[touchAt_of hx'];exact h0) hm with h|⟨h1,h2⟩
   ·exact .inl (h.app u)
   ·exact .inr ⟨by rw[g?_old hi];exact h1,h2⟩
  ·exact .inr ⟨by rw[g?_of hx,hu x h3],ht x h3 a h0 hm⟩
 ·obtain⟨x,hx,h0⟩:=touch_of ha;rcases getElem?_append_cases hx with⟨hi,hx'⟩|⟨_,h3⟩
  ·rcases H.knB i a (by rw[touchAt_of hx'];exact h0) hm with h|⟨h1,h2⟩
   ·exact .inl (h.app u)
   ·exact .inr ⟨by rw[g?_old hi];exact h1,h2⟩
  ·have:=knows_own hx;rw[hu x h3]at this;exact .inl this
theorem PT.appMute(H:PT k TA TB t)(hn:∀op∈u,op.act.touch?=none)(h0:Deaf (t++u) 0=Deaf t 0)(hk:Deaf (t++u) k=Deaf t k):PT k TA TB (t++u):=by
 refine⟨fun said=>noRace_appendMute (H.clean said) hn,fun i a ha hm=> ?_,fun i a ha hm=> ?_,h0.trans H.hA,hk.trans H.hB⟩
 ·obtain⟨x,hx,h3⟩:=touch_of ha;rcases getElem?_append_cases hx with⟨hi,hx'⟩|⟨_,h4⟩
  ·rcases H.knA i a (by rw[touchAt_of hx'];exact h3) hm with h|⟨h1,h2⟩
   ·exact .inl (h.app u)
   ·exact .inr ⟨by rw[g?_old hi];exact h1,h2⟩
  ·rw[hn x h4]at h3;cases h3
 ·obtain⟨x,hx,h3⟩:=touch_of ha;rcases getElem?_append_cases hx with⟨hi,hx'⟩|⟨_,h4⟩
  ·rcases H.knB i a (by rw[touchAt_of hx'];exact h3) hm with h|⟨h1,h2⟩
   ·exact .inl (h.app u)
   ·exact .inr ⟨by rw[g?_old hi];exact h1,h2⟩
  ·rw[hn x h4]at h3;cases h3
theorem PT.meet(H:PT k TA TB t)(fk:PV)(pk:String)(f0:PV)(p0:String)(c n:Nat):PT k (fun _=>False) (fun _=>False) (t++met k 0 fk pk f0 p0 c n 0):=by
 have hn:=met_mute k 0 fk pk f0 p0 c n 0;have hq:=met_quiet k 0 fk pk f0 p0 c n 0;have e0:(t++met k 0 fk pk f0 p0 c n 0)[t.size]?=some {g:=k,fn:=fk,pos:=pk,act:=.send c n}:=by simp[met]
 have e1:(t++met k 0 fk pk f0 p0 c n 0)[t.size+1]?=some {g:=0,fn:=f0,pos:=p0,act:=.recv c n 0}:=by simp[met]
 have e2:(t++met k 0 fk pk f0 p0 c n 0)[t.size+2]?=some {g:=k,fn:=fk,pos:=pk,act:=.sendDone c n}:=by simp[met]
 have e3:(t++met k 0 fk pk f0 p0 c n 0)[t.size+3]?=some {g:=0,fn:=f0,pos:=p0,act:=.recvDone c n}:=by simp[met]
 have hd:∀g,Deaf t g=0→∀j,j≤4→(t++met k 0 fk pk f0 p0 c n 0).deaf g (t.size+j)=0:=fun g hg j hj=>(deaf_quiet (hq g) j (by simpa[met]using hj)).trans hg
 have edge:HappensBefore (t++met k 0 fk pk f0 p0 c n 0) t.size (t.size+3):=
  Relation.TransGen.single (.inr ⟨.handOver (act?_of e0) (act?_of e3),⟨k,g?_of e0,by rw[deaf_old (PG _)];exact H.hB⟩,⟨0,g?_of e3,hd 0 H.hA 3 (by omega)⟩⟩)
 have edge2:HappensBefore (t++met k 0 fk pk f0 p0 c n 0) (t.size+1) (t.size+2):=
  Relation.TransGen.single (.inr ⟨.room (act?_of e1) (by rw[act?_of e2];rfl),⟨0,g?_of e1,hd 0 H.hA 1 (by omega)⟩,⟨k,g?_of e2,hd k H.hB 2 (by omega)⟩⟩)
 refine⟨fun said=>noRace_appendMute (H.clean said) hn,fun i a ha hm=> ?_,fun i a ha hm=> ?_,(Deaf_quiet (hq 0)).trans H.hA,(Deaf_quiet (hq k)).trans H.hB⟩
 ·obtain⟨x,hx,h0⟩:=touch_of ha;rcases getElem?_append_cases hx with⟨hi,hx'⟩|⟨_,h3⟩
  ·rcases H.knB i a (by rw[touchAt_of hx'];exact h0) hm with h|⟨h1,h2⟩
   ·exact .inl ⟨t.size+3,_,e3,rfl,.inr ((h.hb_new (PG _) e0 rfl).trans edge)⟩
   ·have:=knows_own hx;rw[show x.g=0 from by have:=g?_of hx';rw[h1]at this;exact(Option.some.inj this).symm]at this;exact .inl this
  ·rw[hn x h3]at h0;cases h0
 ·obtain⟨x,hx,h0⟩:=touch_of ha;rcases getElem?_append_cases hx with⟨hi,hx'⟩|⟨_,h3⟩
  ·rcases H.knA i a (by rw[touchAt_of hx'];exact h0) hm with h|⟨h1,h2⟩
   ·exact .inl ⟨t.size+2,_,e2,rfl,.inr ((h.hb_new (by omega) e1 rfl).trans edge2)⟩
   ·have:=knows_own hx;rw[show x.g=k from by have:=g?_of hx';rw[h1]at this;exact(Option.some.inj this).symm]at this;exact .inl this
  ·rw[hn x h3]at h0;cases h0
theorem PT.hire{fn:PV}{pos:String}{fc:PV}(H:Held t)(h0:Deaf t 0=0)(hk:Deaf t k=0)(hne:k≠0):PT k (fun _=>False) (fun _=>False) (t++ #[{g:=0,fn:=fn,pos:=pos,act:=.go k},{g:=k,fn:=fc,pos:=pos,act:=.start}]):=by
 generalize hu:(#[{g:=0,fn:=fn,pos:=pos,act:=.go k},{g:=k,fn:=fc,pos:=pos,act:=.start}]:Trace)=u;have hn:∀op∈u,op.act.touch?=none:=by
  intro op hop;subst hu;simp only[Q5,List.mem_cons,Q4,or_false]at hop;rcases hop with rfl|rfl<;>rfl
 have hq:∀g,∀op∈u,∀d,deafStep g d op=d:=by
  intro g op hop d;subst hu;simp only[Q5,List.mem_cons,Q4,or_false]at hop;rcases hop with rfl|rfl<;>rfl
 have e0:(t++u)[t.size]?=some {g:=0,fn:=fn,pos:=pos,act:=.go k}:=by subst hu;simp
 have e1:(t++u)[t.size+1]?=some {g:=k,fn:=fc,pos:=pos,act:=.start}:=by subst hu;simp
 have edge:HappensBefore (t++u) t.size (t.size+1):=
  Relation.TransGen.single (.inr ⟨.spawn (act?_of e0) (act?_of e1) (g?_of e1),⟨0,g?_of e0,by rw[deaf_old (PG _)];exact h0⟩,⟨k,g?_of e1,by rw[deaf_quiet (hq k) 1 (by subst hu;simp)];exact hk⟩⟩)
 have hkn:∀i a,touchAt (t++u) i=some a→a.loc.isMemory=true→i<t.size∧Knows t 0 i:=fun i a ha hm=>by
  obtain⟨x,hx,h1⟩:=touch_of ha;rcases getElem?_append_cases hx with⟨hi,hx'⟩|⟨_,h2⟩
  ·exact⟨hi,H.known i a (by rw[touchAt_of hx'];exact h1) hm⟩
  ·rw[hn x h2]at h1;cases h1
 refine⟨fun said=>noRace_appendMute (H.clean said) hn,fun i a ha hm=>.inl ((hkn i a ha hm).2.app u),fun i a ha hm=>.inl ?_,(Deaf_quiet (hq 0)).trans h0,(Deaf_quiet (hq k)).trans hk⟩;exact⟨t.size+1,_,e1,rfl,.inr (((hkn i a ha hm).2.hb_new (PG _) e0 rfl).trans edge)⟩
theorem PT.found(H:PT k TA TB t){m:Nat}{op:MemOp}(hm:t[m]?=some op)(hg:op.g=k)(hact:∃c,op.act= .close c∧True){c:Nat}(hc:op.act= .close c)(h3:∀i x,m<i→t[i]?=some x→x.g=k→x.act.touch?=none)(hd:t.deaf k m=0){y:MemOp}(hy:y.g=0)(h4:y.act= .recvClosed c):
 Held (t++ #[y]):=by
 have hn:∀op∈(#[y]:Trace),op.act.touch?=none:=by
  intro op hop;have:op=y:=by simpa using hop
  subst this;rw[h4];rfl
 have ey:(t++ #[y])[t.size]?=some y:=by simp
 have hq0:(t++ #[y]).deaf 0 t.size=0:=by rw[deaf_old (PG _)];exact H.hA
 have h2:=lt_size_of_getElem? hm;have em:(t++ #[y])[m]?=some op:=by rw[getElem?_append_old h2];exact hm
 have edge:HappensBefore (t++ #[y]) m t.size:=
  Relation.TransGen.single (.inr ⟨.closed (by rw[act?_of em,hc]) (by rw[act?_of ey,h4]),⟨k,by rw[g?_of em,hg],by rw[deaf_old (Nat.le_of_lt h2)];exact hd⟩,⟨0,by rw[g?_of ey,hy],hq0⟩⟩)
 have hknown:∀i a,touchAt (t++ #[y]) i=some a→a.loc.isMemory=true→Knows (t++ #[y]) 0 i:=fun i a ha hmem=>by
  obtain⟨x,hx,h0⟩:=touch_of ha;rcases getElem?_append_cases hx with⟨hi,hx'⟩|⟨_,h7⟩
  ·rcases H.knA i a (by rw[touchAt_of hx'];exact h0) hmem with h|⟨h1,_⟩
   ·exact h.app _
   ·have h5:x.g=k:=by have:=g?_of hx';rw[h1]at this;exact(Option.some.inj this).symm
    have him:i≤m:=Nat.le_of_not_lt fun hlt=>by
     rw[h3 i x hlt hx' h5]at h0;cases h0
    have hne:i≠m:=fun e=>by
     subst e;rw[hm]at hx';cases hx';rw[hc]at h0;cases h0
    refine⟨t.size,y,ey,hy,.inr (Relation.TransGen.trans (hb_po (t:=t++ #[y]) (by omega) hx em (h5.trans hg.symm)) edge)⟩
  ·rw[hn x h7]at h0;cases h0
 refine⟨fun said=>noRace_appendMute (H.clean said) hn,hknown,fun i g hgi hne h6=> ?_⟩;obtain⟨a,ha,hmem,_⟩:=h6;obtain⟨q,z,hq,hz,hb⟩:=hknown i a ha hmem;refine⟨q,by rw[g?_of hq,hz],?_⟩;rcases hb with rfl|hb
 ·rw[g?_of hq,hz]at hgi;exact absurd (Option.some.inj hgi).symm hne
 ·exact hb
end
end
section
open Go.Conc
variable[aJ]
section
variable{P:IT}{w w1:AI}{g1:AT}{c:Array CommCase}{b:Bool}{sh:CommShape}{es:Array PK}
theorem Az{ρ:Operand→If}{o:Oper}(ho:isComm o.op){n:Next}{es0 es1:Array PK}(h:(IN ρ o).runT P w es0=(.ok n w1,es1)):∀w2 es2,(IN ρ o).runT P w2 es2=(.ok n w2,es2):=by
 intro w2 es2;rcases ho with⟨ch,x,ho⟩|⟨t,ch,ok,ho⟩
 ·unfold IN at h ⊢;rw[ho]at h ⊢;dsimp only at h ⊢;have h:((.ok _ w,es0):Result Next×Array PK)=(.ok n w1,es1):=h;simp only[Prod.mk.injEq,Result.ok.injEq]at h;rw[← h.1.1];rfl
 ·unfold IN at h ⊢;rw[ho]at h ⊢;dsimp only at h ⊢;rw[aN,n7]at h ⊢;cases hu:P.underlying t with
  |none=>rw[hu]at h;cases h
  |some d=>
   rw[hu]at h;dsimp only at h ⊢;cases d;case chan dir e=>
    dsimp only at h ⊢;have hz:∀(w:AI)(es0:Array PK),(zeroValue e).runT P w es0=match P.info? e with
     |some i=>match i.zero with
      |some v=>(.ok v w,es0)
      |none=>(.halt (.unsupported (.resourceLimit "a value of more than 2^22 cells")) w,es0)
     |none=>(.halt (.stuck "no such type") w,es0):=fun w es0=>by
     unfold zeroValue;rw[aN,jX];cases P.info? e with
     |none=>rfl
     |some i=>
      dsimp only;cases i.zero<;>rfl
    rw[aN,hz]at h ⊢;cases hi:P.info? e with
    |none=>rw[hi]at h;cases h
    |some i=>
     rw[hi]at h;dsimp only at h ⊢;cases hz0:i.zero with
     |none=>rw[hz0]at h;cases h
     |some v=>
      rw[hz0]at h;dsimp only at h ⊢;have h:((.ok _ w,es0):Result Next×Array PK)=(.ok n w1,es1):=h;simp only[Prod.mk.injEq,Result.ok.injEq]at h;rw[← h.1.1];rfl
   all_goals cases h
theorem Ez{m:Bool}{g:AT}(hA:sU g.frame)(hd:g.dying=none)(hr:g.frame.roundOf=none)(hk:g.frame.kind= .normal∨g.frame.kind= .deferred)(h:stepG P m g w= .comm g1 c b sh w1 es):
 ∀m2 w2,stepG P m2 g w2= .comm {frame:=g.frame,callers:=g.callers,status:=.running,dying:=none} c b sh w2 #[]:=by
 obtain⟨fr,cs,st,dy,off⟩:=g;dsimp only at hd hr hk hA ⊢;subst hd;obtain⟨hm,ops,i,is,k,o,ht,ho,hc⟩:=hA;have e1:∀m w,stepG P m {frame:=fr,callers:=cs,status:=st,dying:=none,offers:=off} w=stepG.exec P m true fr cs none w:=fun m w=>by
  unfold stepG;dsimp only;rw[hm]
 intro m2 w2;rw[e1]at h ⊢;unfold stepG.exec at h ⊢;dsimp only at h ⊢;rw[ht]at h ⊢;dsimp only at h ⊢;split at h
 ·rename_i hw;rw[if_pos hw];unfold stepG.oper at h ⊢;have hop:fr.oper?=some o:=by unfold Q2;rw[ht];exact ho
  rw[hop]at h ⊢;dsimp only at h ⊢;split at h
  ·rename_i l c2 h1 h2;rw[hr]at h1;cases h1
  ·obtain⟨es0,h2,_,_⟩:=lT hk h;have h3:=Az hc h2 w2 #[];have hke:(fr.kind==Q9)=false:=by rcases hk with h|h<;>rw[h]<;>rfl
   unfold stepG.apply;simp only[if_true,hke,PW,if_false,h3];rfl
 ·cases h
end
def cJ(w:AI)(r cap:Nat)(b:Array If)(s rc:Nat)(tm:Bool):Prop:=w.heap[r]?=some (.chan cap b false s rc tm)∧∀i o,w.heap[i]?=some o→o.isChan=true→i=r
theorem cJ.to{w:AI}{r cap s rc:Nat}{b b2:Array If}{tm:Bool}(h:cJ w r cap b s rc tm)(s2 rc2:Nat):cJ (ay w r (.chan cap b2 false s2 rc2 tm)) r cap b2 s2 rc2 tm:=by
 have hlt:=(BY.1 h.1).1;refine⟨by simp[ay,hlt],fun i o ho hc=> ?_⟩;by_cases hi:r=i
 ·exact hi.symm
 ·have:(ay w r (.chan cap b2 false s2 rc2 tm)).heap[i]?=w.heap[i]?:=by simp only[ay];rw[PD hi]
  rw[this]at ho;exact h.2 i o ho hc
theorem cJ.kinds{w w1:AI}{r cap s rc:Nat}{b:Array If}{tm:Bool}(h:cJ w r cap b s rc tm)(hk:∀(i:Nat)(o:Obj),w1.heap[i]?=some o→iw w i o)(hle:w.heap.size≤w1.heap.size):cJ w1 r cap b s rc tm:=by
 have hlt:=(BY.1 h.1).1;have h1:w1.heap[r]?=some w1.heap[r]:=PL (by omega);refine⟨?_,fun i o ho hc=> ?_⟩
 ·rcases hk r _ h1 with⟨h2,_⟩|⟨⟨c,t,f,h2⟩,_⟩|h2
  ·omega
  ·rw[h.1]at h2;cases h2
  ·rw[h.1]at h2;rw[h1];exact h2.symm
 ·rcases hk i o ho with⟨_,h2⟩|⟨_,c,t,f,rfl⟩|h2
  ·cases o<;>first |exact h2.elim|cases hc
  ·cases hc
  ·exact h.2 i o h2 hc
def kw(w:AI)(r:Nat):Prop:=(∃cap b s rc tm,w.heap[r]?=some (.chan cap b true s rc tm))∧∀i o,w.heap[i]?=some o→o.isChan=true→i=r
theorem kw.kinds{w w1:AI}{r:Nat}(h:kw w r)(hk:∀(i:Nat)(o:Obj),w1.heap[i]?=some o→iw w i o)(hle:w.heap.size≤w1.heap.size):kw w1 r:=by
 obtain⟨⟨cap,b,s,rc,tm,h0⟩,h9⟩:=h;have hlt:=(BY.1 h0).1;have h1:w1.heap[r]?=some w1.heap[r]:=PL (by omega);refine⟨⟨cap,b,s,rc,tm,?_⟩,fun i o ho hc=> ?_⟩
 ·rcases hk r _ h1 with⟨h2,_⟩|⟨⟨c,t,f,h2⟩,_⟩|h2
  ·omega
  ·rw[h0]at h2;cases h2
  ·rw[h0]at h2;rw[h1];exact h2.symm
 ·rcases hk i o ho with⟨_,h2⟩|⟨_,c,t,f,rfl⟩|h2
  ·cases o<;>first |exact h2.elim|cases hc
  ·cases hc
  ·exact h9 i o h2 hc
section
variable{P:IT}{g g2:AT}{w w2:AI}{c:CommCase}{r cap s rc:Nat}{b:Array If}{tm:Bool}
theorem jR(w:AI)(cases:Array CommCase):timerAhead ed w.os.mono cases=false:=by
 unfold timerAhead ed;rw[Array.any_eq_false];intro k hk;split <;>simp
theorem vP{v:If}(hO:cJ w r cap b s rc tm)(hs:c.send=some v)(h:(AS P ed #[ph] 0 g #[c] true .send w).1= .next (oneG g2 w2))(hr:g2.status= .running):
 c.chan= .chan (some r)∧g2= {g with frame:=g.frame.finish undef,status:=.running,offers:=none}∧w2=ay w r (.chan cap (b.push v) false (s+1) rc tm):=by
 obtain⟨ch,sd,z⟩:=c;dsimp only at hs ⊢;subst hs;have h1:=d9;have h0:∀ch,(PR {world:=w,gs:=(#[ph]:Array AT).setIfInBounds 0 {g with status:=.blocked,offers:=some (#[{chan:=ch,send:=some v,zero:=z}],.send)},rest:=ed})= .next (oneG g2 w2)→False:=fun ch e=>by
  simp[oneG]at e;have:=congrArg PM e.2.1;rw[hr]at this;cases this
 cases ch;case chan x=>
  cases x with
  |none=>
   exfalso;simp[AS,ways,jR,waitingAt]at h;exact h0 _ (by simpa using h)
  |some r'=>
   cases hx:w.heap[r']? with
   |none=>simp[AS,hx]at h
   |some o=>
    by_cases hoc:o.isChan=true
    ·have:=hO.2 r' o hx hoc;subst this;rw[hO.1]at hx;cases hx;by_cases hroom:b.size<cap
     ·simp[AS,ways,hO.1,h1,hroom,choose,PX,OF,bind,PP,pure,No,commResult,oneG]at h;exact⟨rfl,h.2.1.symm,h.1.symm⟩
     ·exfalso;simp[AS,ways,hO.1,h1,hroom,jR,waitingAt]at h;exact h0 _ (by simpa using h)
    ·cases o<;>first |exact absurd rfl hoc|simp[AS,hx]at h
 all_goals simp[AS]at h
theorem E8{v:If}(hO:kw w r)(hs:c.send=some v)(h:(AS P ed #[ph] 0 g #[c] true .send w).1= .next (oneG g2 w2))(hr:g2.status= .running):
 g2= {g with frame:=g.frame.raise [{v:=.iface P.rt.plainError (strVal "send on closed channel"),recovered:=false}]}∧w2=w:=by
 obtain⟨⟨cap,b,s,rc,tm,h0⟩,h9⟩:=hO;obtain⟨ch,sd,z⟩:=c;dsimp only at hs ⊢;subst hs;have h2:=d9;have h1:∀ch,(PR {world:=w,gs:=(#[ph]:Array AT).setIfInBounds 0 {g with status:=.blocked,offers:=some (#[{chan:=ch,send:=some v,zero:=z}],.send)},rest:=ed})= .next (oneG g2 w2)→False:=fun ch e=>by
  simp[oneG]at e;have:=congrArg PM e.2.1;rw[hr]at this;cases this
 cases ch;case chan x=>
  cases x with
  |none=>
   exfalso;simp[AS,ways,jR,waitingAt]at h;exact h1 _ (by simpa using h)
  |some r'=>
   cases hx:w.heap[r']? with
   |none=>simp[AS,hx]at h
   |some o=>
    by_cases hoc:o.isChan=true
    ·have:=h9 r' o hx hoc;subst this;rw[h0]at hx;cases hx;simp[AS,ways,h0,h2,choose,PX,OF,bind,PP,pure,oneG,runtimePanic,program,goPanic]at h;exact⟨h.2.1.symm,h.1.symm⟩
    ·cases o<;>first |exact absurd rfl hoc|simp[AS,hx]at h
 all_goals simp[AS]at h
theorem E9{ok:Bool}(hO:cJ w r cap b s rc tm)(hs:c.send=none)(h:(AS P ed #[ph] 0 g #[c] true (.recv ok) w).1= .next (oneG g2 w2))(hr:g2.status= .running):
 c.chan= .chan (some r)∧0<b.size∧g2= {g with frame:=g.frame.finish (recvd ok (b.getD 0 undef) true),status:=.running,offers:=none}∧w2=ay w r (.chan cap (b.extract 1 b.size) false s (rc+1) tm):=by
 obtain⟨ch,sd,z⟩:=c;dsimp only at hs ⊢;subst hs;have h1:=d9;have h0:∀ch,(PR {world:=w,gs:=(#[ph]:Array AT).setIfInBounds 0 {g with status:=.blocked,offers:=some (#[{chan:=ch,send:=none,zero:=z}],.recv ok)},rest:=ed})= .next (oneG g2 w2)→False:=fun ch e=>by
  simp[oneG]at e;have:=congrArg PM e.2.1;rw[hr]at this;cases this
 cases ch;case chan x=>
  cases x with
  |none=>
   exfalso;simp[AS,ways,jR,waitingAt]at h;exact h0 _ (by simpa using h)
  |some r'=>
   cases hx:w.heap[r']? with
   |none=>simp[AS,hx]at h
   |some o=>
    by_cases hoc:o.isChan=true
    ·have:=hO.2 r' o hx hoc;subst this;rw[hO.1]at hx;cases hx;by_cases hroom:0<b.size
     ·have hg:b.getD 0 undef=b[0]:=by simp[Array.getD,hroom]
      cases ok<;>simp[AS,ways,hO.1,h1,hroom,choose,PX,OF,bind,PP,pure,No,commResult,oneG]at h
      ·exact⟨rfl,hroom,by rw[hg];simpa[recvd]using h.2.1.symm,h.1.symm⟩
      ·exact⟨rfl,hroom,by rw[hg];simpa[recvd]using h.2.1.symm,h.1.symm⟩
     ·exfalso;simp[AS,ways,hO.1,h1,hroom,jR,waitingAt]at h;exact h0 _ (by simpa using h)
    ·cases o<;>first |exact absurd rfl hoc|simp[AS,hx]at h
 all_goals simp[AS]at h
end
end
section
open Go.Conc
variable[aJ]
section
variable{P:IT}{K K':AT→AI→Prop}
theorem Tree.Ey{g:AT}{w:AI}(h:Tree P K g w)(hk:∀g w,K g w→Tree P K' g w):Tree P K' g w:=by
 induction h with
 |stop h=>exact hk _ _ h
 |step G W E hr h1 _ ih=>exact .step G W E hr h1 ih
theorem Tree.iv(T:bw P){g:AT}{w:AI}(h:Tree P K g w):Iv g w→Tree P (fun g w=>K g w∧Iv g w) g w:=by
 induction h with
 |stop h=>exact fun hI=>.stop ⟨h,hI⟩
 | @step g w G W E hr h1 _ ih=>exact fun hI=>.step G W E hr h1 fun τ d hb=>ih τ d hb (nJ T (fP hI τ d) (h1 τ d hb))
theorem Tree.af{g:AT}{w:AI}{τ:Nat→Question→Nat}{d:Nat}(h:Tree P K g (af w τ d))(hK:∀g w τ d,K g (Go.Proofs.YtkgohmcmmcpigaaGreatDoor.af w τ d)→K g w):Tree P K g w:=by
 cases h with
 |stop h=>exact .stop (hK _ _ _ _ h)
 |step G W E hr h1 h2=>exact .step G W E hr h1 h2
def cl(K:AT→AI→Prop)(g:AT)(w:AI):Prop:=∃τ d,K g (Go.Proofs.YtkgohmcmmcpigaaGreatDoor.af w τ d)
theorem yJ(g:AT)(w:AI)(τ:Nat→Question→Nat)(d:Nat)(h:cl K g (Go.Proofs.YtkgohmcmmcpigaaGreatDoor.af w τ d)):cl K g w:=by
 obtain⟨τ',d',h⟩:=h;exact⟨τ',d',h⟩
theorem JL{g:AT}{w:AI}(h:K g w):cl K g w:=⟨w.tape,w.drawn,h⟩
theorem Gn{g:AT}{w:AI}(h:yf P K g w):yf P (cl K) g w:=by
 obtain⟨n,g',w',h1,h2⟩:=h;exact⟨n,g',w',h1,JL h2⟩
end
def aK{P:IT}(T:bw P):eQ P where
 okF _:=True
 H K g w:=Iv g w→Tree P (cl K) g w
 re K g w τ d h hI:=Tree.af (h (fP hI τ d)) (fun g w τ d=>yJ g w τ d)
 stop K g w h hI:=.stop (JL h)
 bind K K' g w h hk hI:=((h hI).iv T hI).Ey fun g' w' ⟨⟨τ,d,h1⟩,h2⟩=>Tree.af (hk g' _ h1 (fP h2 τ d)) (fun g w τ d=>yJ g w τ d)
 hit K g w hr hK h hI:=bar T (fun g w τ d=>yJ g w τ d) (fun g w ⟨_,_,h⟩=>(hK _ _ h).1) hI hr fun τ d=>Gn (h τ d)
section
variable{P:IT}{T:bw P}{a:Act}{w:AI}{ops:Array Oper}{i:Nat}{rest:List Nat}{o:Oper}{Q:Exit→Act→AI→Prop}
theorem tF{b:PZ}{k:List Item}{cs:List PZ}{u:AI}{c:CommCase}{sh:CommShape}(ho:ops[i]?=some o)(hw:IS o (yielded ops a.tmps)=true)
 (hx:(IN a.eval o).run P u= .ok (.comm #[c] true sh) u):∃es,stepG P true (bY (b.at a (.inRegion ops (i::rest)::k)) cs) u= .comm (bY (b.at a (.inRegion ops (i::rest)::k)) cs) #[c] true sh u es:=by
 unfold bY;rw[stepG_op ho hw];unfold stepG.apply;simp only[if_true,Sem.runT_eq,hx];exact⟨_,rfl⟩
theorem mu{r cap s rc:Nat}{bf:Array If}{tm:Bool}{v z:If}(ho:ops[i]?=some o)(hw:IS o (yielded ops a.tmps)=true)
 (hx:∀u:AI,(IN a.eval o).run P u= .ok (.comm #[{chan:=.chan (some r),send:=some v,zero:=z}] true .send) u)
 (hc:w.heap[r]?=some (.chan cap bf false s rc tm)) (hroom:bf.size<cap)
 (h:bo (aK T) ops Q rest (a.put o.dst undef) (ay w r (.chan cap (bf.push v) false (s+1) rc tm))):bo (aK T) ops Q (i::rest) a w:=fun b k cs K hok hk hcc=>by
 intro hI;have hfin:(b.at a (.inRegion ops (i::rest)::k)).finish undef=b.at (a.put o.dst undef) (.inRegion ops rest::k):=by rw[Q8,ho];rfl
 have hst:=fun τ d=>tF (P:=P) (b:=b) (k:=k) (cs:=cs) (rest:=rest) ho hw (hx (af w τ d))
 have hone:∀τ d,iu P (bY (b.at a (.inRegion ops (i::rest)::k)) cs) (af w τ d) (bY (b.at (a.put o.dst undef) (.inRegion ops rest::k)) cs) (af (ay w r (.chan cap (bf.push v) false (s+1) rc tm)) τ d) (Q6 (hst τ d)):=fun τ d=>by
  refine .comm (PO (hst τ d)) ?_;have h0:=d9;generalize hg:bY (b.at a (.inRegion ops (i::rest)::k)) cs=g;have e:bY (b.at (a.put o.dst undef) (.inRegion ops rest::k)) cs= {g with frame:=g.frame.finish undef,status:=.running,offers:=none}:=by
   rw[← hg,← hfin];rfl
  rw[e];simp[AS,ways,hc,h0,hroom,choose,PX,OF,bind,PP,pure,No,commResult,oneG,ay,af,ed]
 exact .step _ _ _ rfl (fun τ d _=>hone τ d) fun τ d _=>(aK T).er (h b k cs K hok hk hcc) τ d (nJ T (fP hI τ d) (hone τ d))
theorem DI{r cap s rc:Nat}{bf:Array If}{tm ok:Bool}{z:If}(ho:ops[i]?=some o)(hw:IS o (yielded ops a.tmps)=true)
 (hx:∀u:AI,(IN a.eval o).run P u= .ok (.comm #[{chan:=.chan (some r),send:=none,zero:=z}] true (.recv ok)) u)
 (hc:w.heap[r]?=some (.chan cap bf false s rc tm)) (hroom:0<bf.size)
 (h:bo (aK T) ops Q rest (a.put o.dst (recvd ok (bf.getD 0 undef) true)) (ay w r (.chan cap (bf.extract 1 bf.size) false s (rc+1) tm))):bo (aK T) ops Q (i::rest) a w:=fun b k cs K hok hk hcc=>by
 intro hI;have hfin:(b.at a (.inRegion ops (i::rest)::k)).finish (recvd ok (bf.getD 0 undef) true)=b.at (a.put o.dst (recvd ok (bf.getD 0 undef) true)) (.inRegion ops rest::k):=by rw[Q8,ho];rfl
 have hst:=fun τ d=>tF (P:=P) (b:=b) (k:=k) (cs:=cs) (rest:=rest) ho hw (hx (af w τ d))
 have hone:∀τ d,iu P (bY (b.at a (.inRegion ops (i::rest)::k)) cs) (af w τ d) (bY (b.at (a.put o.dst (recvd ok (bf.getD 0 undef) true)) (.inRegion ops rest::k)) cs) (af (ay w r (.chan cap (bf.extract 1 bf.size) false s (rc+1) tm)) τ d) (Q6 (hst τ d)):=fun τ d=>by
  refine .comm (PO (hst τ d)) ?_;have h0:=d9;generalize hg:bY (b.at a (.inRegion ops (i::rest)::k)) cs=g;have e:bY (b.at (a.put o.dst (recvd ok (bf.getD 0 undef) true)) (.inRegion ops rest::k)) cs= {g with frame:=g.frame.finish (recvd ok (bf.getD 0 undef) true),status:=.running,offers:=none}:=by
   rw[← hg,← hfin];rfl
  rw[e];have hg:bf.getD 0 undef=bf[0]:=by simp[Array.getD,hroom]
  cases ok<;>simp[AS,ways,hc,h0,hroom,choose,PX,OF,bind,PP,pure,No,commResult,oneG,ay,af,recvd,hg,ed]
 exact .step _ _ _ rfl (fun τ d _=>hone τ d) fun τ d _=>(aK T).er (h b k cs K hok hk hcc) τ d (nJ T (fP hI τ d) (hone τ d))
theorem xP{r cap s rc:Nat}{v:If}{bf:List If}{tm ok:Bool}{z:If}(ho:ops[i]?=some o)(hw:IS o (yielded ops a.tmps)=true)
 (hx:∀u:AI,(IN a.eval o).run P u= .ok (.comm #[{chan:=.chan (some r),send:=none,zero:=z}] true (.recv ok)) u)
 (hc:w.heap[r]?=some (.chan cap (v::bf).toArray false s rc tm))
 (h:bo (aK T) ops Q rest (a.put o.dst (if ok then .tuple #[v,.bool true]else v)) (ay w r (.chan cap bf.toArray false s (rc+1) tm))):bo (aK T) ops Q (i::rest) a w:=by
 refine DI ho hw hx hc (by simp) ?_;have e1:((v::bf).toArray).extract 1 ((v::bf).toArray).size=bf.toArray:=by simp
 have e2:recvd ok (((v::bf).toArray).getD 0 undef) true=if ok then .tuple #[v,.bool true]else v:=by
  cases ok<;>simp[recvd]
 rw[e1,e2];exact h
end
end
section
open Go.Conc
section
variable{P:IT}{D:eQ P}{ops:Array Oper}{Q:Exit→Act→AI→Prop}{md:Region.Mode}
inductive lp(D:eQ P)(ops:Array Oper)(Q:Exit→Act→AI→Prop)(i:Nat)(N:Act→AI→Prop)(a:Act)(w:AI):Prop
 |lone (h:∀τ d,wpOp P ops Q i N a (af w τ d))
 |call {o f args R} (ho:ops[i]?=some o) (hw:IS o (yielded ops a.tmps)=true) (hx:∀u:AI,(IN a.eval o).run P u= .ok (.enter f args) u) (hf:D.okF f) (h:dh D f args w R)
  (hr:∀v w',R (.returned v) w'→N (a.put o.dst v) w') (hp:∀ch w',R (.panicked ch) w'→Q (.panic ch) a w')
def j8(D:eQ P)(md:Region.Mode)(ops:Array Oper)(Q:Exit→Act→AI→Prop):Nat→Array Bool→Act→AI→Prop
 |0,listed,a,w=>By md ops listed=[]∧Q .normal a w
 |fuel+1,listed,a,w=>(∀τ d,wpAny P md ops Q (fuel+1) listed a (af w τ d))∨((By md ops listed=[]→Q .normal a w)∧∀i∈By md ops listed,lp D ops Q i (j8 D md ops Q fuel (listed.setIfInBounds i true)) a w)
theorem lp.mono{i:Nat}{N N':Act→AI→Prop}{a:Act}{w:AI}(h:lp D ops Q i N a w)(hn:∀a w,N a w→N' a w):lp D ops Q i N' a w:=by
 cases h with
 |lone h=>exact .lone fun τ d=>wpOp_mono hn (h τ d)
 |call ho hw hx hf h hr hp=>exact .call ho hw hx hf h (fun v w' hv=>hn _ _ (hr v w' hv)) hp
theorem lp.thn{i:Nat}{N:Act→AI→Prop}{a:Act}{w:AI}{rest:List Nat}(h:lp D ops Q i N a w)(hn:∀a w,N a w→bo D ops Q rest a w):bo D ops Q (i::rest) a w:=by
 cases h with
 |lone h=>exact KC h (fun a' w' h=>hn _ _ h) (fun ch a' w' h=>h) fun a' w' h=>h
 |call ho hw hx hf h hr hp=>exact xQ ho hw hx hf h (fun v w' hv=>hn _ _ (hr v w' hv)) hp
theorem EE:∀(fuel t:Nat)(listed:Array Bool)(a:Act)(w:AI),j8 D md ops Q fuel listed a w→bo D ops Q (Region.linearise.go md ops fuel t listed []) a w:=by
 intro fuel;induction fuel with
 |zero=>intro t listed a w h;exact aZ h.2
 |succ fuel ih=>
  intro t listed a w h;rcases h with h|h
  ·have:=qK (D:=D) (rest:=[]) (Q:=Q) (Q1:=Q) (l:=Region.linearise.go md ops (fuel+1) t listed []) (fun τ d=>wpAny_sound (fuel+1) t listed a _ (h τ d)) (fun a' w' h=>aZ h) (fun ch a' w' h=>h) (fun _ _ h=>h);rw[List.append_nil]at this;exact this
  simp only[Region.linearise.go];change bo D ops Q (match(By md ops listed)[t% (By md ops listed).length]? with
   |some i=>Region.linearise.go md ops fuel (t/ (By md ops listed).length) (listed.setIfInBounds i true) [i]
   |none=>[].reverse) a w
  cases hi:(By md ops listed)[t% (By md ops listed).length]? with
  |none=>
   have hnil:By md ops listed=[]:=by
    cases hr:By md ops listed with
    |nil=>rfl
    |cons x xs=>
     rw[hr]at hi;have hlt:t% (x::xs).length<(x::xs).length:=Nat.mod_lt _ (by simp);rw[List.getElem?_eq_getElem hlt]at hi;cases hi
   exact aZ (h.1 hnil)
  |some i=>
   dsimp only;rw[linearise_go_acc,List.reverse_singleton,List.singleton_append];exact(h.2 i (List.mem_of_getElem? hi)).thn fun a w=>ih _ _ a w
theorem pX{id:Nat}{a:Act}{w:AI}(hm:P.follows .mixedOrders=true)(h:j8 D .any ops Q ops.size (Array.replicate ops.size false) a w):cV D (.region id ops true) Q a w:=
 oI fun t=>by
  simp only[Region.schedule,hm,Bool.true_or,if_true];exact EE ops.size t _ a _ h
theorem lp.xT{i:Nat}{o:Oper}{v:If}{a:Act}(hi:ops[i]?=some o)(hy:PJ P ops o v a){N:Act→AI→Prop}{w:AI}(h:∀τ d,N (a.put o.dst v) (af w τ d)):lp D ops Q i N a w:=
 .lone fun τ d=>hy.wpOp hi (h τ d)
theorem CG(hq:∀a w τ d,Q .normal a w→Q .normal a (af w τ d)):∀(fuel:Nat)(listed:Array Bool)(a:Act)(w:AI)(τ:Nat→Question→Nat)(d:Nat),j8 D md ops Q fuel listed a w→j8 D md ops Q fuel listed a (af w τ d):=by
 intro fuel;cases fuel with
 |zero=>exact fun listed a w τ d h=>⟨h.1,hq _ _ _ _ h.2⟩
 |succ fuel=>
  intro listed a w τ d h;rcases h with h|h
  ·exact .inl fun τ d=>h τ d
  refine .inr ⟨fun hr=>hq _ _ _ _ (h.1 hr),fun i hi=> ?_⟩;cases h.2 i hi with
  |lone h=>exact .lone fun τ d=>h τ d
  |call ho hw hx hf h hr hp=>exact .call ho hw hx hf (h.er τ d) hr hp
theorem lp.put{j:Nat}{oi oj:Oper}{v:If}(hj:ops[j]?=some oj)(hap:oi.apart ops oj=true)
 (hsi:∀cs b,oi.op≠.select cs b) (hsj:∀cs b,oj.op≠.select cs b)
 (hQ:∀c a w,Q (.panic c) (a.put oi.dst v) w→Q (.panic c) a w) {N:Act→AI→Prop} {a:Act} {w:AI}
 (hy:PJ P ops oi v a) (h:lp D ops Q j N (a.put oi.dst v) w):lp D ops Q j (fun a' w'=>PJ P ops oi v a'∧N (a'.put oi.dst v) w') a w:=by
 cases h with
 |lone h=>exact .lone fun τ d=>wpOp_put hj hap hsi hsj hQ hy (h τ d)
 | @call o f args R ho hw hx hf h hr hp=>
  have e:o=oj:=Option.some.inj (ho.symm.trans hj);subst e;obtain⟨h1,h2,h3⟩:=Oper.apart_spec hap;refine .call ho (by rw[← wanted_put o a oi.dst v h1];exact hw) (fun u=>by rw[← execOp_put o hsj a oi.dst v h1];exact hx u) hf h (fun u w' hu=> ?_) (fun ch w' hu=>hQ _ _ _ (hp ch w' hu));refine⟨hy.of_same (execOp_put oi hsi a o.dst u h3) (wanted_put oi a o.dst u h3),?_⟩;rw[← Act.put_comm a v u h2];exact hr u w' hu
theorem EF{i:Nat}{oi:Oper}{v:If}(hi:ops[i]?=some oi)(h5:∀(j:Nat)(o:Oper) cs b,ops[j]?=some o→o.op≠.select cs b)
 (hQ:∀c a w,Q (.panic c) (a.put oi.dst v) w→Q (.panic c) a w) (hq:∀a w τ d,Q .normal a w→Q .normal a (af w τ d)):
 ∀(fuel:Nat)(listed:Array Bool)(a:Act)(w:AI),
  (∀j oj,ops[j]?=some oj→j≠i→listed.getD j true=false→(∀e∈oj.after,PU md e=true→e.on≠i)→oi.apart ops oj=true)→
  i∈By md ops listed→PJ P ops oi v a→
  j8 D md ops Q fuel (listed.setIfInBounds i true) (a.put oi.dst v) w→j8 D md ops Q (fuel+1) listed a w:=by
 intro fuel;induction fuel with
 |zero=>
  intro listed a w _ hr hy H;refine .inr ⟨fun h=>(by rw[h]at hr;cases hr),fun j hj=> ?_⟩;by_cases hji:j=i
  ·subst hji;exact .xT hi hy fun τ d=>CG hq _ _ _ _ τ d H
  ·have:=ready_mono hj hji;rw[H.1]at this;cases this
 |succ fuel ih=>
  intro listed a w h4 hr hy H;rcases H with H|H
  ·exact .inl fun τ d=>wpAny_first hi h5 hQ (fuel+1) listed a _ h4 hr hy (H τ d)
  have Hr:j8 D md ops Q (fuel+1) (listed.setIfInBounds i true) (a.put oi.dst v) w:=.inr H;refine .inr ⟨fun h=>(by rw[h]at hr;cases hr),fun j hj=> ?_⟩;by_cases hji:j=i
  ·subst hji;exact .xT hi hy fun τ d=>CG hq _ _ _ _ τ d Hr
  ·have h1:=H.2 j (ready_mono hj hji);obtain⟨h6,oj,h7,hall⟩:=mem_ready.1 hj;have hc:∀e∈oj.after,PU md e=true→e.on≠i:=fun e he hb heq=>by
    have h1:=hall e he hb;have h0:=(mem_ready.1 hr).1;rw[heq]at h1;rcases Nat.lt_or_ge i listed.size with h'|h'
    ·simp[h']at h0 h1;rw[h0]at h1;cases h1
    ·simp[Array.getElem?_eq_none h']at h1
   have h2:=lp.put h7 (h4 j oj h7 hji h6 hc) (fun cs b=>h5 i oi cs b hi) (fun cs b=>h5 j oj cs b h7) hQ hy h1;have h8:∀k ok,ops[k]?=some ok→k≠i→(listed.setIfInBounds j true).getD k true=false→
    (∀e∈ok.after,PU md e=true→e.on≠i)→oi.apart ops ok=true:=fun k ok hk hki h9 hno=>by
    refine h4 k ok hk hki ?_ hno;by_cases ha:j=k
    ·subst ha;exact h6
    ·rw[getD_set_ne true ha]at h9;exact h9
   refine lp.mono h2 fun a' w' h3=>ih (listed.setIfInBounds j true) a' w' h8 (ready_mono hr (Ne.symm hji)) h3.1 ?_
   rw[Array.setIfInBounds_comm _ _ hji];exact h3.2
theorem H0{i:Nat}{oi:Oper}{v:If}{fuel:Nat}{listed:Array Bool}{a:Act}{w:AI}(hi:ops[i]?=some oi)
 (hs:Q7 ops=true) (hf:Region.free md ops listed i=true) (hr:(By md ops listed).contains i=true)
 (hQ:∀c a w,Q (.panic c) (a.put oi.dst v) w→Q (.panic c) a w) (hq:∀a w τ d,Q .normal a w→Q .normal a (af w τ d)) (hy:PJ P ops oi v a)
 (h:j8 D md ops Q fuel (listed.setIfInBounds i true) (a.put oi.dst v) w):j8 D md ops Q (fuel+1) listed a w:=
 EF hi (Region.noSelect_spec hs) hQ hq fuel listed a w (Region.free_spec hi hf) (by simpa using hr) hy h
theorem dx{rs:List Nat}{fuel:Nat}{listed:Array Bool}{a:Act}{w:AI}(hr:By md ops listed=rs)(hne:rs≠[])
 (h:∀i∈rs,lp D ops Q i (j8 D md ops Q fuel (listed.setIfInBounds i true)) a w):j8 D md ops Q (fuel+1) listed a w:=
 .inr ⟨fun h0=>absurd (hr▸h0) hne,hr▸h⟩
theorem lp.walk{i:Nat}{o:Oper}{N:Act→AI→Prop}{a:Act}{w:AI}(ho:ops[i]?=some o)(h:∀N':Act→AI→Prop,PE (∀a w,N a w→N' a w)→∀w1:AI,w1.heap=w.heap→wpList P ops (Exit.then N' Q) [o] a w1):lp D ops Q i N a w:=
 .lone fun τ d=>by
  have:=h N (PY fun _ _ h=>h) (af w τ d) rfl;unfold wpOp;rw[ho];dsimp only;unfold wpList at this;split
  ·rename_i hw;rw[if_pos hw]at this;rcases this with this|⟨h1,a2,w2,h2⟩
   ·refine .inl ?_;unfold Oper.wp at this ⊢;generalize (IN a.eval o).run P (af w τ d)=r at this;cases r with
    |ok n w'=>
     cases n<;>simp only[Oper.upon]at this ⊢<;>first
      |exact this
      |exact Calls.mono this (fun e w'' he=>by cases e<;>exact he)
      |exact Rows.mono this (fun _ _ he=>he)
    |halt x w'=>cases x<;>simp only[Oper.upon]at this ⊢<;>exact this
   ·exact .inr ⟨h1,a2,w2,h2⟩
  ·rename_i hw;rw[if_neg hw]at this;exact this
theorem Jo{l:List Oper}{k fuel:Nat}{listed:Array Bool}{a:Act}{w:AI}(hl:∀j,l[j]?=ops[k+j]?)(hs:Region.seqB md ops (fuel+1) k listed=true)(hn:l.length=fuel+1)
 (h:∀w1:AI,w1.heap=w.heap→wpList P ops Q l a w1):j8 D md ops Q (fuel+1) listed a w:=.inl fun τ d=>by
 rw[← hn]at hs ⊢;exact wpAny_of_seq l k listed a _ hl hs (h _ rfl)
theorem uP{x y:Code}{a:Act}{w:AI}(h:∀K:Act→AI→Prop,PE (∀a w,cV D y Q a w→K a w)→PE (∀a w τ d,K a w→K a (af w τ d))→cV D x (Exit.then K Q) a w):cV D (.seq x y) Q a w:=
 wD (h _ (PY fun _ _ h=>h) (PY fun _ _ τ d h=>Lw h τ d))
theorem Hm{c:Code}{a:Act}{w:AI}(hq:∀a w τ d,Q .normal a w→Q .normal a (af w τ d))(h:∀K:Act→AI→Prop,PE (∀a w,Q .normal a w→K a w)→PE (∀a w τ d,K a w→K a (af w τ d))→cV D c (Exit.then K Q) a w):cV D c Q a w:=
 yV (h (Q .normal) (PY fun _ _ h=>h) (PY hq)) fun e a w h=>by cases e<;>exact h
theorem mj{c:Code}{a:Act}{w:AI}(I:Nat→Act→AI→Prop)(n0:Nat)(h0:I n0 a w)(round:∀n a w,I n a w→cV D c (Exit.then (fun a' w'=>∃m,m<n∧I m a' w') Q) a w):cV D (.loop c) Q a w:=fun b k cs K hok hk hc=>by
 have key:∀n a w,I n a w→D.H K (bY (b.at a (.code c:: .inLoop c::k)) cs) w:=by
  intro n;induction n using Nat.strongRecOn with
  |_ n ih=>
   intro a w hI;refine round n a w hI b (.inLoop c::k) cs K hok hk fun e a' w' hq=> ?_
   cases e with
   |normal=>
    obtain⟨m,hlt,hI1⟩:=hq;exact D.one (fun u=>step_inLoop) hok (ih m hlt a' w' hI1)
   |exit id=>exact pa rfl (by simp) (hc _ _ _ hq)
   |goto l=>exact pa rfl (by simp) (hc _ _ _ hq)
   |ret=>exact hc _ _ _ hq
   |panic ch=>exact hc _ _ _ hq
   |outgrown=>exact hc _ _ _ hq
 exact D.one (fun u=>step_loop) hok (key _ a w h0)
theorem mf{l tl:List Oper}{i:Nat}{o:Oper}(h:l.drop i=o::tl):l.toArray[i]?=some o:=by
 have:(l.drop i)[0]?=some o:=by rw[h];rfl
 rw[List.getElem?_drop]at this;simpa using this
section
variable{l tl:List Oper}{i:Nat}{oi:Oper}
theorem eO{v:If}{fuel:Nat}{listed:Array Bool}{a:Act}{w:AI}(hi:l.drop i=oi::tl)
 (hs:Q7 l.toArray=true) (hf:Region.free md l.toArray listed i=true) (hr:(By md l.toArray listed).contains i=true)
 (hQ:∀c a w,Q (.panic c) (a.put oi.dst v) w→Q (.panic c) a w) (hq:∀a w τ d,Q .normal a w→Q .normal a (af w τ d)) (hy:PJ P l.toArray oi v a)
 (h:j8 D md l.toArray Q fuel (listed.setIfInBounds i true) (a.put oi.dst v) w):j8 D md l.toArray Q (fuel+1) listed a w:=
 H0 (mf hi) hs hf hr hQ hq hy h
theorem jy.walk{N:Act→AI→Prop}{a:Act}{w:AI}(hi:l.drop i=oi::tl)(h:∀N':Act→AI→Prop,PE (∀a w,N a w→N' a w)→∀w1:AI,w1.heap=w.heap→wpList P l.toArray (Exit.then N' Q) [oi] a w1):lp D l.toArray Q i N a w:=
 lp.walk (mf hi) h
theorem jy.call{N:Act→AI→Prop}{a:Act}{w:AI}{f:PV}{args:Array If}{R:Ending→AI→Prop}(hi:l.drop i=oi::tl)(hw:IS oi (yielded l.toArray a.tmps)=true)(hx:∀u:AI,(IN a.eval oi).run P u= .ok (.enter f args) u)(hf:D.okF f)(h:dh D f args w R)
 (hr:∀v w',R (.returned v) w'→N (a.put oi.dst v) w') (hp:∀ch w',R (.panicked ch) w'→Q (.panic ch) a w'):lp D l.toArray Q i N a w:=.call (mf hi) hw hx hf h hr hp
theorem lU{k fuel:Nat}{listed:Array Bool}{a:Act}{w:AI}(hs:Region.seqB md l.toArray (fuel+1) k listed=true)(hn:(l.drop k).length=fuel+1)
 (h:∀w1:AI,w1.heap=w.heap→wpList P l.toArray Q (l.drop k) a w1):j8 D md l.toArray Q (fuel+1) listed a w:=
 Jo (fun j=>by simp) hs hn h
theorem bJ{rest:List Nat}{a:Act}{w:AI}{f:PV}{args:Array If}{R:Ending→AI→Prop}(hi:l.drop i=oi::tl)(hw:IS oi (yielded l.toArray a.tmps)=true)
 (hx:∀u:AI,(IN a.eval oi).run P u= .ok (.enter f args) u) (hf:D.okF f) (h:dh D f args w R)
 (hr:∀v w',R (.returned v) w'→bo D l.toArray Q rest (a.put oi.dst v) w') (hp:∀ch w',R (.panicked ch) w'→Q (.panic ch) a w'):bo D l.toArray Q (i::rest) a w:=xQ (mf hi) hw hx hf h hr hp
end
end
end
structure Tok where
 kind:Int
 at_:Int
 b0:Int
 b1:Int
 b2:Int
 b3:Int
 least:Int
 most:Int
 bad:Bool
inductive Nd where
 |set (id b0 b1 b2 b3:Int)
 |edge (id:Int) (fin:Bool)
 |seq (id:Int) (kids:List Nd)
 |alt (id:Int) (kids:List Nd)
 |grp (id:Int) (kid:Nd) (num:Int)
 |rep (id:Int) (kid:Nd) (least most:Int)
structure cZ where
 ts:List Tok
 t:Tok
 n:Int
 g:Int
inductive uL where
 |tok
 |own (k at_:Int)
inductive cO(α:Type) where
 |ok (a:α) (s:cZ)
 |err (x:uL) (s:cZ)
def bL{α β:Type}(x:Option (cO α))(f:α→cZ→Option (cO β)):Option (cO β):=match x with
 |none=>none
 |some (.err e s)=>some (.err e s)
 |some (.ok a s)=>f a s
def cy(s:cZ):Option (cO Unit):=match s.ts with
 |[]=>none
 |t::ts=>some (if t.kind=8 then .err .tok ⟨ts,t,s.n,s.g⟩else .ok () ⟨ts,t,s.n,s.g⟩)
def gE(s:cZ):Option (cO Int):=if 0≤s.n∧s.n<1000000 then some (.ok (s.n+1) ⟨s.ts,s.t,s.n+1,s.g⟩)else none
mutual
def ic:Nat→Int→cZ→Option (cO Nd)
 |0,_,_=>none
 |f+1,d,s=>bL (gE s) fun id s=>iJ f d id [] s
def iJ:Nat→Int→Int→List Nd→cZ→Option (cO Nd)
 |0,_,_,_,_=>none
 |f+1,d,id,ks,s=>if ks.length<1000000 then bL (kq f d s) fun k s=>if s.t.kind=6 then bL (cy s) fun _ s=>iJ f d id (ks++[k]) s else some (.ok (.alt id (ks++[k])) s)else none
def kq:Nat→Int→cZ→Option (cO Nd)
 |0,_,_=>none
 |f+1,d,s=>bL (gE s) fun id s=>k9 f d id [] s
def k9:Nat→Int→Int→List Nd→cZ→Option (cO Nd)
 |0,_,_,_,_=>none
 |f+1,d,id,ks,s=>
  if s.t.kind=0∨s.t.kind=6∨s.t.kind=5 then
   if s.t.kind=5∧d=0 then some (.err (.own 11 s.t.at_) s)
   else if ks.length=0 then some (.err (.own 9 s.t.at_) s)
   else some (.ok (.seq id ks) s)
  else if s.t.kind=7 then some (.err (.own 8 s.t.at_) s)
  else if ks.length<1000000 then bL (g5 f d s) fun k s=>k9 f d id (ks++[k]) s else none
def g5:Nat→Int→cZ→Option (cO Nd)
 |0,_,_=>none
 |f+1,d,s=>bL (iI f d s) fun k s=>fV f k s
def fV:Nat→Nd→cZ→Option (cO Nd)
 |0,_,_=>none
 |f+1,k,s=>if s.t.kind=7 then(if s.t.bad then some (.err .tok s)else bL (gE s) fun id s=>bL (cy s) fun _ s'=>fV f (.rep id k s.t.least s.t.most) s')else some (.ok k s)
def iI:Nat→Int→cZ→Option (cO Nd)
 |0,_,_=>none
 |f+1,d,s=>if s.t.kind=4 then iV f d s else
  bL (cy s) fun _ s'=>bL (gE s') fun id s'=>if s.t.kind=2 then some (.ok (.edge id false) s')else if s.t.kind=3 then some (.ok (.edge id true) s')else some (.ok (.set id s.t.b0 s.t.b1 s.t.b2 s.t.b3) s')
def iV:Nat→Int→cZ→Option (cO Nd)
 |0,_,_=>none
 |f+1,d,s=>
  if s.g=9 then some (.err (.own 12 s.t.at_) s)
  else if 0≤d∧d<1000∧0≤s.g∧s.g<1000 then
   bL (gE ⟨s.ts,s.t,s.n,s.g+1⟩) fun id s1=>bL (cy s1) fun _ s2=>bL (ic f (d+1) s2) fun k s3=>
    if s3.t.kind=5 then bL (cy s3) fun _ s4=>some (.ok (.grp id k (s.g+1)) s4)else some (.err (.own 10 s.t.at_) s3)
  else none
end
end Go.Proofs.YtkgohmcmmcpigaaGreatDoor
