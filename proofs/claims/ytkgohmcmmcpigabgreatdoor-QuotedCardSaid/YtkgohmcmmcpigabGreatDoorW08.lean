/- A part of the proof that Folded holds; no condition. -/
import Derived.LaidEql
import Derived.Stop.Asserts
import Derived.RowKitTokens
import Derived.WalkSpells
import Derived.OwnWalk
import Derived.Test.YtkgohmcmmcpigabGreatDoorRows
import Derived.Lib.LaidU8
import Derived.LaidHandle
import Derived.ShapedOpen
import Derived.Conc.Fork
import Derived.Test.YtkgohmcmmcpigabGreatDoorCards
import Derived.Test.YtkgohmcmmcpigabGreatDoorTie
import Derived.ChangeSame
import Derived.ChangeVars
import Derived.JoinedOf
import Derived.RowKit
import Derived.LaidLaws
import Derived.Deep.DeepLaidRun
import Derived.SevenTiedAt
import Derived.Conc.Holds
import Derived.Conc.HoldsTime
import Derived.Conc.LeavingOf
import Derived.WitnessAt
import Derived.Conc.AtomicLaws
import Derived.Conc.MarkLaws
import Derived.Conc.AtomicLaws2
import Derived.RangeFuncNested
import Derived.RangeFuncBound
import Derived.RangeFuncCalls
import Derived.RangeFuncLeaves
import Derived.OwnWalkIn
import Derived.TacticsInMore
import Derived.LoopNIn
import Derived.LoopIn
import Derived.DeepKeys4
import Derived.MapKept
import Derived.RangeFuncRecord
import Derived.BigRegion
import Derived.OrdersIn
import Derived.OrdersHeld
import Derived.Deep.Quiet
import Derived.Deep.Cut
import Derived.Deep.CutRange
import Derived.Deep.DeepCutAuto
import Derived.Deep.LoopGhost
import Derived.Test.YtkgohmcmmcpigabGreatDoorW07
set_option linter.all false
set_option maxHeartbeats 4000000
set_option maxRecDepth 100000
namespace Go.Proofs.YtkgohmcmmcpigabGreatDoor
open Go
open Go.Lib renaming hid->AI
open _root_.List renaming mem_singleton->Sv,not_mem_nil->Sy,getElem?_eq_getElem->SE,mem_cons->SM,drop_eq_getElem_cons->SO,append_toArray->SW,size_toArray->T6,push_toArray->T7,length_cons->T9,cons_append->Ta,drop_zero->Tb,nil_append->Tc,length_nil->Td,getElem_mem->Te,mem_cons_self->Tl,mem_cons_of_mem->Tm,getElem?_eq_some_iff->Tn,drop_length->TF,set_cons_succ->TR,range'->U0,range->Ub,mem_append_right->Ur,getElem?_toArray->Us,mem_append_left->Uw,getElem?_drop->UB
open _root_.Nat renaming le_refl->Sx,testBit->SF,lt_irrefl->T4,reduceSub->Ti,reduceAdd->Tj,zero_or->Tq,lt_of_lt_of_le->Tu,le_trans->TC,lt_succ_self->TE,lt_or_ge->TP,eq_zero_or_pos->TQ,zero_le->TZ,testBit_or->U6,lt_succ_of_lt->Ua,le_of_lt->Ue,or_zero->Uk,or_assoc->Uz,mul_comm->UA,le_succ->UH,mod_lt->UQ
open _root_.Array renaming getElem?_eq_some_iff->SD,replicate_zero->SS,replicate_succ->SU,getElem?_setIfInBounds_ne->T5,replicate->Th,getElem?_map->Tv,getElem?_setIfInBounds_self_of_lt->TI,getElem?_eq_getElem->TL,getElem?_eq_none->U2,mem_iff_getElem->Uu,getElem?_toList->Uv
open Go renaming World->SG,execOp->SN,Value->TG,Program->U3,callFunc->U7,Frame->U8,Goroutine->U9,Deferred->Uf,TypeId->Ut
open Go.World renaming cell?_alloc_lt->SJ,putObj_heap_other->T0,frozen?_alloc_old->Ts,alloc->TJ,putObj_heap_same->TW,cell?->TX,cell?_alloc_at->U4,setCell->Ux
open Go.Conc renaming mem_ofEvents->SK,Good->UF
open _root_.Int renaming le_refl->SL
open Go.Act renaming eval->SP,put->Tf
open Go.Frame renaming enter->SR,finish_at->UR
open _root_.Option renaming map_eq_some_iff->Tk
open Go.Fence renaming wide->Tp
open Go.Region renaming wanted->Tt,lexTailB->UN
open Go.MapKept renaming run_getObj_map->Tw
open Go.Result renaming andThen->Ty,ok->SZ
open Go.Oper renaming semAt_some->TK
open Go.Instr renaming lookup->TS,mapUpdate->Ui
open _root_.Bool renaming eq_false_iff->TV,and_eq_true->Ug,or_eq_true->US
open _root_.Or renaming inl->TY
open Go.Extern renaming find->U1
open Go.Value renaming int->AS,pointer->Su,iface->SH,agg->SV,tuple->SX,bool->Tg,slice->TN,string->Uo
open Go.CallsIn renaming inRound->U5
open Go.Code renaming region->Ul
open Go.MemOp renaming ofEvents->Uq
open Go.Sem renaming run_bind->Uy
open Go.Exit renaming inBlock->UD,normal->Um
open _root_.Decidable renaming em->UE
open Go.Obj renaming row?->UK,cells->Sz,deferred->SQ,loop->Tx,map->Uj
open Go.IntKind renaming wrap_i64->UL,u64->Sw,i64->SC,i32->T8
open _root_.UInt8 renaming toNat_inj->UM
open Go.Ending renaming returned->SI
open Go.Item renaming inRegion->SY
open Go.LoopState renaming ready->Tr,busy->UG
open Go.CallKind renaming normal->Tz
open Go.FrameMode renaming returning->TD
open Go.Next renaming enter->TH
open Go.Target renaming collected->TU
open Go.GoStatus renaming running->Uc
open Go.Departure renaming mixedOrders->Ud
open Go.Stepped renaming ended->Un
section
open Go.RowKit Go.Extern.Stop Go.Stop Go.Extern
def as_nil(t w):
 Calls PH 50 #[.nilIface,t] w λe a=>e=SI (Tg false)/\a=w:=by
 go_enter PH.func Tryz.func50 (by decide),Tryz.ntmps50
 go_wp2;go_ret;simp
def PH.methodKind(h w):(Go.method 446 203 (SV #[h]) "Kind").run PH w=SZ (208,h) w:=by kernel_rfl
def PH.methodElem(h w):(Go.method 446 203 (SV #[h]) "Elem").run PH w=SZ (221,SV #[h]) w:=by kernel_rfl
def PH.methodImplements(h w):(Go.method 446 203 (SV #[h]) "Implements").run PH w=SZ (222,SV #[h]) w:=by kernel_rfl
def PH.methodAssignableTo(h w):(Go.method 446 203 (SV #[h]) "AssignableTo").run PH w=SZ (219,SV #[h]) w:=by kernel_rfl
def rlm(z f v):
 ReflectliteValue.method z f #[v]=(do match<- ReflectliteValue.parts v with |none=>z|some (t,a,b)=>f t a b (b%32)):=rfl
def rls(v x):ReflectliteValue.set #[v,x]=(do
 let(some (d,a,f),some (c,b,_)):=(<- ReflectliteValue.parts v,<- ReflectliteValue.parts x)
  |unsupported (.noEntry "extern/(internal/reflectlite.Value).Set.zeroValue")
 if f/ReflectliteValue.flagAddr%2==0 then unsupported (.noEntry "extern/(internal/reflectlite.Value).Set.unaddressable")
 let e <- loadVar c b
 if<- Rtype.directlyAssignable d c then storeVar d a e
 else if<- Rtype.implements d c then
  if(<- Rtype.kind c)==20 then
   match e with
   | .nilIface=>unsupported (.noEntry "extern/reflectlite: a nil value of one interface type handed on as a value of another")
   |_=>storeVar d a e
  else storeVar d a (SH c e)
 else panicString ("reflectlite.Set: value of type " ++(<- Rtype.spelt c)++ " is not assignable to type " ++(<- Rtype.spelt d))
 pure (SX #[])):=rfl
def PH.G8(t w):(ReflectliteValue.unpack (SH 122 (Su (some t)))).run PH w
 =SZ (SV #[Su (some ⟨3,122,none⟩),Su (some ⟨w.heap.size,0,none⟩),AS Sw 150]) (w.alloc (Sz #[Su (some t)] 122)):=by kernel_rfl
def PH.N8(a w):(ReflectliteValue.methodAny (ReflectliteValue.valueError "reflectlite.Value.Type" 0) (λt _ _ _=>ReflectliteType.toType t) #[SV #[Su (some ⟨3,122,none⟩),Su (some a),AS Sw 150]]).run PH w
 =SZ (SH 203 (SV #[Su (some ⟨3,122,none⟩)])) w:=by kernel_rfl
def PH.NF(w):((ReflectliteType.abiMethod λt=>(λa:Nat=>AS IntKind.u8 (a:Int))<$>Rtype.kind t) #[Su (some ⟨3,122,none⟩)]).run PH w=SZ (AS .u8 22) w:=by kernel_rfl
def PH.NG(w):((ReflectliteType.abiMethod λt=>(λa:Nat=>AS IntKind.u8 (a:Int))<$>Rtype.kind t) #[Su (some ⟨3,120,none⟩)]).run PH w=SZ (AS .u8 22) w:=by kernel_rfl
def PH.DJ(a w):(ReflectliteValue.parts (SV #[Su (some ⟨3,122,none⟩),Su (some a),AS Sw 150])).run PH w=SZ (some (122,a,150)) w:=by kernel_rfl
def PH.Mq(a p W)(b:W.cell? a=some (Su (some p))):
 (ReflectliteValue.method (ReflectliteValue.valueError "reflectlite.Value.IsNil" 0) ReflectliteValue.isNil #[SV #[Su (some ⟨3,122,none⟩),Su (some a),AS Sw 150]]).run PH W=SZ (Tg false) W:=by
 rw[rlm];simp only[Uy,PH.DJ,Ty];simp[ReflectliteValue.isNil,loadVar,isAgg,underlying,aK,Tryz.underlying122,b,Ty]
def PH.NR(w):(ReflectliteType.method ReflectliteType.elem #[SV #[Su (some ⟨3,122,none⟩)]]).run PH w=SZ (SH 203 (SV #[Su (some ⟨3,120,none⟩)])) w:=by kernel_rfl
def PH.Bl(w):(ReflectliteType.relation "Implements" ReflectliteType.implements_ #[SV #[Su (some ⟨3,120,none⟩)],SH 203 (SV #[Su (some ⟨3,81,none⟩)])]).run PH w=SZ (Tg true) w:=by kernel_rfl
def PH.J5(v w):(ReflectliteType.typeOf #[SH 120 v]).run PH w=SZ (SH 203 (SV #[Su (some ⟨3,120,none⟩)])) w:=by kernel_rfl
def PH.BW(w):(ReflectliteType.relation "AssignableTo" ReflectliteType.assignableTo #[SV #[Su (some ⟨3,120,none⟩)],SH 203 (SV #[Su (some ⟨3,120,none⟩)])]).run PH w=SZ (Tg true) w:=by kernel_rfl
def PH.G9(e w):(ReflectliteValue.unpack (SH 120 (Su (some e)))).run PH w
 =SZ (SV #[Su (some ⟨3,120,none⟩),Su (some ⟨w.heap.size,0,none⟩),AS Sw 150]) (w.alloc (Sz #[Su (some e)] 120)):=by kernel_rfl
def PH.Kr(w):(Rtype.elem? 122).run PH w=SZ (some 120) w:=by kernel_rfl
def PH.Pt(p w):(ReflectliteValue.mk 120 p ReflectliteValue.flagAddr).run PH w=SZ (SV #[Su (some ⟨3,120,none⟩),Su (some p),AS Sw 406]) w:=by kernel_rfl
def PH.My(a p W)(b:W.cell? a=some (Su (some p))):
 (ReflectliteValue.method (ReflectliteValue.valueError "reflectlite.Value.Elem" 0) ReflectliteValue.elem #[SV #[Su (some ⟨3,122,none⟩),Su (some a),AS Sw 150]]).run PH W
  =SZ (SV #[Su (some ⟨3,120,none⟩),Su (some p),AS Sw 406]) W:=by
 rw[rlm];simp only[Uy,PH.DJ,Ty];simp[ReflectliteValue.elem,loadVar,isAgg,underlying,aK,Tryz.underlying122,b,Ty,PH.Kr,PH.Pt]
def PH.JE(a w):(ReflectliteValue.parts (SV #[Su (some ⟨3,120,none⟩),Su (some a),AS Sw 406])).run PH w=SZ (some (120,a,406)) w:=by kernel_rfl
def PH.Ma(a w):(ReflectliteValue.parts (SV #[Su (some ⟨3,120,none⟩),Su (some a),AS Sw 150])).run PH w=SZ (some (120,a,150)) w:=by kernel_rfl
def PH.Ku(w):(Rtype.directlyAssignable 120 120).run PH w=SZ true w:=by kernel_rfl
def PH.OE(a b e c W)(f:W.cell? b=some (Su (some e)))(d:W.cell? a=some c)(g:W.frozen? a=false):
 (ReflectliteValue.set #[SV #[Su (some ⟨3,120,none⟩),Su (some a),AS Sw 406],SV #[Su (some ⟨3,120,none⟩),Su (some b),AS Sw 150]]).run PH W
  =SZ (SX #[]) (W.setCell a (Su (some e))):=by
 rw[rls];simp only[Uy,PH.JE,PH.Ma,Ty];simp[ReflectliteValue.flagAddr,loadVar,isAgg,underlying,aK,Tryz.underlying120,f,Ty,PH.Ku,storeVar,dk,Value.cells,storeCells,Addr.add];rw[run_store PH W a _ _ (by rfl)];simp[d,g]
def MQ(e t d w)(i:w.cell? ⟨0,0,none⟩=some (SH 203 (SV #[Su (some ⟨3,81,none⟩)])))(b:w.cell? t=some d)(g:w.frozen? t=false):
 Calls PH 50 #[SH 120 (Su (some e)),SH 122 (Su (some t))] w λs m=>s=SI (Tg true)/\m=((((w.alloc (Sz #[Su (some t)] 122)).alloc (Sz #[Su (some ⟨3,122,none⟩),Su (some ⟨w.heap.size,0,none⟩),AS Sw 150] 149)).alloc (Sz #[Su (some ⟨3,122,none⟩),Su (some ⟨w.heap.size,0,none⟩),AS Sw 150] 149)).alloc (Sz #[Su (some e)] 120)).setCell t (Su (some e)):=by
 have B:= @run_callFunc_extern PH 68 _ (λa=>ReflectliteValue.unpack (a.getD 0 (SX #[]))) (PH.func Tryz.func68 (by decide)) (by kernel_rfl) (by kernel_rfl) (by kernel_rfl) (by kernel_rfl);have C:= @run_callFunc_extern PH 69 _ (ReflectliteValue.methodAny (ReflectliteValue.valueError "reflectlite.Value.Type" 0) λt _ _ _=>ReflectliteType.toType t) (PH.func Tryz.func69 (by decide)) (by kernel_rfl) (by kernel_rfl) (by kernel_rfl) (by kernel_rfl);have A:= @run_callFunc_extern PH 70 _ (ReflectliteValue.method (ReflectliteValue.valueError "reflectlite.Value.IsNil" 0) ReflectliteValue.isNil) (PH.func Tryz.func70 (by decide)) (by kernel_rfl) (by kernel_rfl) (by kernel_rfl) (by kernel_rfl);have j:= @run_callFunc_extern PH 208 _ (ReflectliteType.abiMethod λt=>do pure (AS .u8 (<- Rtype.kind t))) (PH.func Tryz.func208 (by decide)) (by kernel_rfl) (by kernel_rfl) (by kernel_rfl) (by kernel_rfl);have q:= @run_callFunc_extern PH 221 _ (ReflectliteType.method ReflectliteType.elem) (PH.func Tryz.func221 (by decide)) (by kernel_rfl) (by kernel_rfl) (by kernel_rfl) (by kernel_rfl);have p:= @run_callFunc_extern PH 222 _ (ReflectliteType.relation "Implements" ReflectliteType.implements_) (PH.func Tryz.func222 (by decide)) (by kernel_rfl) (by kernel_rfl) (by kernel_rfl) (by kernel_rfl);have u:= @run_callFunc_extern PH 96 _ ReflectliteType.typeOf (PH.func Tryz.func96 (by decide)) (by kernel_rfl) (by kernel_rfl) (by kernel_rfl) (by kernel_rfl);have n:= @run_callFunc_extern PH 219 _ (ReflectliteType.relation "AssignableTo" ReflectliteType.assignableTo) (PH.func Tryz.func219 (by decide)) (by kernel_rfl) (by kernel_rfl) (by kernel_rfl) (by kernel_rfl);have l:= @run_callFunc_extern PH 97 _ (ReflectliteValue.method (ReflectliteValue.valueError "reflectlite.Value.Elem" 0) ReflectliteValue.elem) (PH.func Tryz.func97 (by decide)) (by kernel_rfl) (by kernel_rfl) (by kernel_rfl) (by kernel_rfl);have k:= @run_callFunc_extern PH 98 _ ReflectliteValue.set (PH.func Tryz.func98 (by decide)) (by kernel_rfl) (by kernel_rfl) (by kernel_rfl) (by kernel_rfl);have E:=PH.J5;have y:=PH.G8;have M:=PH.N8;have v:=PH.methodKind;have L:=PH.methodElem;have I:=PH.methodImplements;have H:=PH.methodAssignableTo;have P:=PH.NF;have F:=PH.NG;have N:=PH.NR;have Q:=PH.Bl;have G:=PH.Mq ⟨w.heap.size,0,none⟩ t ((w.alloc (Sz #[Su (some t)] 122)).alloc (Sz #[Su (some ⟨3,122,none⟩),Su (some ⟨w.heap.size,0,none⟩),AS Sw 150] 149)) (by simp);have f:0<w.heap.size:=by
  rcases TP 0 w.heap.size with h|h
  .exact h
  .simp[TX,U2 h]at i
 have r:((w.alloc (Sz #[Su (some t)] 122)).alloc (Sz #[Su (some ⟨3,122,none⟩),Su (some ⟨w.heap.size,0,none⟩),AS Sw 150] 149)).cell? ⟨0,0,none⟩=some (SH 203 (SV #[Su (some ⟨3,81,none⟩)])):=by
  rw[SJ _ _ ⟨0,0,none⟩ (by first |(simp;omega)|simp),SJ _ _ ⟨0,0,none⟩ f];exact i
 have x:=PH.BW;have z:=PH.G9;have c:t.block<w.heap.size:=by
  rcases TP t.block w.heap.size with h|h
  .exact h
  .simp[TX,U2 h]at b
 have D:=PH.My ⟨w.heap.size,0,none⟩ t (((w.alloc (Sz #[Su (some t)] 122)).alloc (Sz #[Su (some ⟨3,122,none⟩),Su (some ⟨w.heap.size,0,none⟩),AS Sw 150] 149)).alloc (Sz #[Su (some ⟨3,122,none⟩),Su (some ⟨w.heap.size,0,none⟩),AS Sw 150] 149)) (by rw[SJ _ _ ⟨w.heap.size,0,none⟩ (by simp;omega),SJ _ _ ⟨w.heap.size,0,none⟩ (by simp),U4 _ _ _ _ rfl];rfl);have K:=PH.OE t ⟨w.heap.size+1+1+1,0,none⟩ e d ((((w.alloc (Sz #[Su (some t)] 122)).alloc (Sz #[Su (some ⟨3,122,none⟩),Su (some ⟨w.heap.size,0,none⟩),AS Sw 150] 149)).alloc (Sz #[Su (some ⟨3,122,none⟩),Su (some ⟨w.heap.size,0,none⟩),AS Sw 150] 149)).alloc (Sz #[Su (some e)] 120))
  (by rw[U4 _ _ _ _ (by simp)];rfl)
  (by rw[SJ _ _ t (by simp;omega),SJ _ _ t (by simp;omega),SJ _ _ t (by simp;omega),SJ _ _ t c];exact b)
  (by rw[Ts _ _ t (by simp;omega),Ts _ _ t (by simp;omega),Ts _ _ t (by simp;omega),Ts _ _ t (Nat.ne_of_lt c)];exact g)
 go_enter PH.func Tryz.func50 (by decide),Tryz.ntmps50
 go_wp2;go_enter PH.func Tryz.func71 (by decide),Tryz.ntmps71
 go_wp2;refine wp_loop_rounds 1 ?_;rw[rounds_succ];go_wp2;go_ret;exact⟨rfl,rfl⟩
end
section
open Go.RowKit
def gI(w:SG):Prop:=w.cell? ⟨0,0,none⟩=some (SH 203 (SV #[Su (some ⟨3,81,none⟩)]))
def gI.lt{w}(h:gI w):0<w.heap.size:=by
 grind [gI,TX]
def gI.alloc{w}(h:gI w)(o):gI (w.alloc o):=(SJ _ _ ⟨0,0,none⟩ h.lt).trans h
def uF(w):
 Calls PH 30 #[.nilIface] w λe a=>e=SI (SX #[AS SC 0,AS SC 0])/\Below w.heap.size w a:=by
 go_enter PH.func Tryz.func30 (by decide),Tryz.ntmps30
 go_wp2_with (first |(refine(as_nil _ _).mono ?_;rintro e a ⟨rfl,rfl⟩))
 go_ret2
 exact⟨rfl,((Below.refl ..).alloc (Sx _) _).alloc (by simp) _⟩
def J6(p a k w)(d:gI w)(i:w.cell? p=some (AS SC a))(f:w.cell? ⟨p.block,p.off+1,none⟩=some (AS SC k))(c:p.block<w.heap.size):
 Calls PH 30 #[SH 120 (Su (some p))] w λe h=>e=SI (SX #[AS SC k,AS SC a])/\Below w.heap.size w h:=by
 have g:=d.lt;go_enter PH.func Tryz.func30 (by decide),Tryz.ntmps30
 go_wp2_with fail
 refine(MQ p _ (Su none) _ (d.alloc (Sz #[Su none] 120)) (by simp) (by simp)).mono ?_;rintro e j ⟨rfl,rfl⟩;have b:Below w.heap.size w (((((w.alloc (Sz #[Su (some p)] 120)).alloc (Sz #[Su (some ⟨w.heap.size,0,none⟩)] 122)).alloc (Sz #[Su (some ⟨3,122,none⟩),Su (some ⟨w.heap.size+1,0,none⟩),AS Sw 150] 149)).alloc (Sz #[Su (some ⟨3,122,none⟩),Su (some ⟨w.heap.size+1,0,none⟩),AS Sw 150] 149)).alloc (Sz #[Su (some p)] 120)):=
  (((((Below.refl ..).alloc (Sx _) _).alloc (by simp) _).alloc (by simp;omega) _).alloc (by simp;omega) _).alloc (by simp;omega) _
 have n:=(b.cell (p:=p) c).trans i;have m:=(b.cell (p:=⟨p.block,p.off+1,none⟩) c).trans f;have l:(((((w.alloc (Sz #[Su (some p)] 120)).alloc (Sz #[Su (some ⟨w.heap.size,0,none⟩)] 122)).alloc (Sz #[Su (some ⟨3,122,none⟩),Su (some ⟨w.heap.size+1,0,none⟩),AS Sw 150] 149)).alloc (Sz #[Su (some ⟨3,122,none⟩),Su (some ⟨w.heap.size+1,0,none⟩),AS Sw 150] 149)).alloc (Sz #[Su (some p)] 120)).cell? ⟨w.heap.size,0,none⟩=some (Su (some p)):=by
  rw[SJ _ _ ⟨w.heap.size,0,none⟩ (by simp;omega),SJ _ _ ⟨w.heap.size,0,none⟩ (by simp;omega),SJ _ _ ⟨w.heap.size,0,none⟩ (by simp;omega),SJ _ _ ⟨w.heap.size,0,none⟩ (by simp),U4 _ _ _ _ rfl];rfl
 go_wp2_with fail
 generalize ((((w.alloc (Sz #[Su (some p)] 120)).alloc (Sz #[Su (some ⟨w.heap.size,0,none⟩)] 122)).alloc (Sz #[Su (some ⟨3,122,none⟩),Su (some ⟨w.heap.size+1,0,none⟩),AS Sw 150] 149)).alloc (Sz #[Su (some ⟨3,122,none⟩),Su (some ⟨w.heap.size+1,0,none⟩),AS Sw 150] 149)).alloc (Sz #[Su (some p)] 120)=W at *;go_region
 all_goals go_wp2
 all_goals go_ret2
 all_goals exact⟨rfl,(AI b).out.drew⟩
end
section
open Go.RowKit Go.Conc
attribute [local instance] fI
def gI.ea{w a}(h:gI w)(k:Old w a):gI a:=by
 have b:=h.lt;unfold gI TX at h ⊢;rw[k.old _ b];omega
def IL(e:Nat)(d:SG)(g:Nat)(r:Option (g8 Nd))(v:TG):Prop:=match r with|some (.ok i f)=>∃x c,∃h:FV,v=SX #[vp x,AS SC 0,AS SC 0]/\e<=x/\d.heap[x]?=some (Sz (#[c,AS SC f.g,AS .u8 g]++h.1) 79 (0,0))/\Repr d (λb=>e<=b/\b≠x) c i|some (.err k a)=>v=SX #[Su none,AS SC k,AS SC a]|none=>False
def wl{h0 w s}{fl:Nat}(H:fl<256)(E:Under h0 w)(Z:fx w)(hE:gI w):
 cb (br ek h0) 18 #[Uo s,AS .u8 fl] w λe D=>∃v,e=SI v/\Old w D/\IL w.heap.size D fl (gK s fl) v:=by
 refine bu (bP (by decide)) (λD ⟨v,h,_⟩=>nomatch h) (PH.func Tryz.func18 (by decide)) rfl ?_;simp only[Tryz.ntmps18,T6,T9,Td,Tj,Ti,SU,SS,T7,SW,Tc,Ta];refine ac λK C=> ?_
 refine bm λw1 Q=> ?_
 go_wp2;refine C.out _ _ ?_;refine ac λK C=> ?_
 refine ao ?_;show aV _ _ _ (U0 0 (2+6)) ..;refine bq 0 2 6 (λN y w2 P=> ?_) (by decide);simp only[zq1];have B:=AI ((AI Q.old).out.eqv P);go_wp2;refine y.out _ _ ?_;refine bF (f:=35) (i:=2) (rest:=U0 3 (5+0)) rfl rfl λu=>by simp[go_sem] (bP (by decide)) (Ir (s:=s) H (E.ea B.out) (Z.ea B.out)) (λv M n=> ?_) λch M n=>by have⟨_,h,_⟩:=n;cases h
 obtain⟨v,e,G,t⟩:=n;cases e;have I:=AI (B.out.trans G);have d:=AI (hE.ea I.out);have z:=AI B.out.size;cases n:gK s fl with
 |none=>rw[n]at t;exact t.elim
 |some r=>
 rw[n]at t;cases r with
 |ok nd O=>
  obtain⟨x,R,X,rfl,S,j,c⟩:=t;replace c:=AI c;replace j:=AI j;simp only[Tf,zq0];refine bq 3 5 0 (λN y W m=> ?_) (by decide);simp only[zq1];replace m:=AI m;go_wp2;refine y.out _ _ (az (C.out _ _ ?_));refine bm λL p=> ?_
  replace p:=AI p;go_wp2_with fail
  refine(uF _).mono ?_;rintro e T ⟨rfl,g⟩;go_wp2;go_ret3
  have q:L.heap=M.heap:=p.out.heap.trans m.out.heap;have hz:=congrArg Array.size q;have A:=(SD.1 j.out).1;have a:=Below.ea g;refine⟨_,rfl,(AI ((AI (I.out.eqv m)).out.eqv p)).out.trans a,?_⟩;rw[n];refine⟨x,R,X,rfl,TC z.out S,?_,?_⟩<;>first |(rw[a.old x (by omega),q];exact j.out)|(refine(c.out.mono (S':=λb=>w.heap.size<=b/\b≠x) λb g A=>⟨TC z.out g.1,g.2⟩).keep λb g A=> ?_;rw[a.old b (by omega),q])
 |err k F=>
  obtain⟨b,rfl,g,l⟩:=t;replace l:=AI l;replace g:=AI g;simp only[Tf,zq0];refine bq 3 5 0 (λN y W m=> ?_) (by decide);simp only[zq1];replace l:=AI (l.out.af m.heap);replace d:=AI (d.out.ea m.old);go_wp2;refine y.out _ _ (az (C.out _ _ ?_));refine bm λL p=> ?_
  replace l:=AI (l.out.af p.heap);replace d:=AI (d.out.ea p.old);go_wp2_with fail
  refine(J6 ⟨b,0,none⟩ F k _ d.out (AI (l.out.cell 0)).out (AI (l.out.cell 1)).out (AI l.out.lt).out).mono ?_;rintro e T ⟨rfl,g⟩;go_wp2;go_ret3
  refine⟨_,rfl,(AI ((AI (I.out.eqv m)).out.eqv p)).out.trans (Below.ea g),?_⟩;rw[n];rfl
end
section
open Go.RowKit Go.Conc
attribute [local instance] fI
noncomputable abbrev qk:SG:=(begin Tryz.prog (λ_ _=>0) default).world
def Kl:Tryz.prog.globalNamed "errors.errorType" =some 0:=by kernel_rfl
def yS:Tryz.prog.globalNamed "posix/scan.classes" =some 2:=by kernel_rfl
def Ky:Tryz.prog.globals[2]?.map (·.type)=some 292:=by kernel_rfl
def LW:(Tryz.prog.cutTypes.find? (·.1== "internal/reflectlite.rtype")).map (·.2)=some 203:=by kernel_rfl
def oneRow:((Ub 346).filter λt=>Tryz.prog.rowNamed t [101,114,114,111,114])=[81]:=by kernel_rfl
def types_size:Tryz.prog.types.size=346:=by kernel_rfl
def Nh:(qk.heap[0]?.bind UK).isSome=true:=by kernel_rfl
def Gr:(qk.heap[2]?.bind UK).map (λx=>(x.1.size,x.2))=some (24,292):=by kernel_rfl
def Gq:(qk.heap[1]?.bind UK).map (λx=>(x.1.size,x.2))=some (1,3):=by kernel_rfl
def start3:(match qk.heap[3]? with |some (Sz ..)=>true|_=>false)=true:=by kernel_rfl
def Ex:3<qk.heap.size:=of_decide_eq_true (by kernel_rfl)
def HC:Tryz.prog.buildable 3=true:=by kernel_rfl
def HA:Tryz.prog.cellTypes Tryz.prog.depth 3=some [3]:=by kernel_rfl
def rj:Tryz.prog.globals.size=3:=by kernel_rfl
def qS{W:SG}(h:W.ShapedOpen Tryz.prog){g}(d:g<3)(hs:(qk.heap[g]?.bind UK).isSome=true):∃a t,W.heap[g]?=some (Sz a t):=by
 have⟨x,b⟩:=Option.isSome_iff_exists.1 hs;have⟨a,c,_⟩:=h.1 g x.1 x.2 (by rw[rj];omega) b<;>grind
def ug{a b:Type}{o:Option a}{f:a->b}{y}(h:o.map f=some y):o.isSome=true:=by
 cases o with
 |none=>cases h
 |some x=>rfl
def uj{W:SG}(h:W.ShapedOpen Tryz.prog){g}(c:g<=3):∃a t f,W.heap[g]?=some (Sz a t f):=by
 match g,c with
 |0,_=>have⟨a,t,b⟩:=qS h (g:=0) (by decide) Nh<;>grind
 |2,_=>have⟨a,t,b⟩:=qS h (g:=2) (by decide) (ug Gr)<;>grind
 |1,_=>have⟨a,t,b⟩:=qS h (g:=1) (by decide) (ug Gq)<;>grind
 |3,_=>
  have⟨o,j,b,k,d⟩:=h.2 3 (by simp) Ex;have i:=by
   rw[if_neg (by decide)]at d;omega
  have e:=start3;grind
def EO{W:SG}(h:W.ShapedOpen Tryz.prog):∃m t,W.heap[1]?=some (Sz #[AS SC m] t):=by
 have⟨x,i,a⟩:=Tk.1 Gq;simp[Prod.mk.injEq]at a;have⟨c,n,f,d⟩:=h.1 1 x.1 x.2 (by simp) i;rw[a.1]at f;rw[a.2]at d;have⟨p,k,_,j⟩:=d HC;rw[HA]at k;have⟨v,g⟩:∃v,c=#[v]:=by
  have⟨l⟩:=c;match l,f with
  |[v],_=>exact⟨v,rfl⟩
 subst g;have⟨u,q,b⟩:=j 0 v rfl;have e:Tryz.prog.underlying 3=some (.int SC):=by rfl
 unfold Cell.ok at b;grind
def Dj:(match Tryz.prog.underlying 291 with |some (.struct a)=>a.toList.map λf=>(f.type,f.offset)|_=>[])=[(9,0),(9,1)]:=by kernel_rfl
def Dk:∃a b c,Tryz.prog.underlying 291=some (.struct a)/\a[0]?=some b/\a[1]?=some c/\b.type=9/\b.offset=0/\c.type=9/\c.offset=1/\a.size=2:=by
 have h:=Dj;split at h
 .next a d=>
  have⟨l⟩:=a;match l,h with
  |[b,c],h=>
   simp only[List.map_cons,List.map_nil,List.cons.injEq,Prod.mk.injEq,and_true]at h;exact⟨_,b,c,d,rfl,rfl,h.1.1,h.1.2,h.2.1,h.2.2,rfl⟩
 .cases h
def sw:Tryz.prog.cellsOf 9=1:=by kernel_rfl
def su:Tryz.prog.underlying 9=some .string:=by kernel_rfl
def zu:Tryz.prog.underlying 292=some (.array 12 291):=by kernel_rfl
def zv{w d e a b p}(h:DataW.trod (λ_=>()) Tryz.prog w 0 (λ_=>true) false d 291 e=some (.agg [.lit (.string a),.lit (.string b)],p)):e=[tc a,tc b]:=by
 have⟨z,k,t,s,u,v,m,E,j,C,q⟩:=Dk;have⟨l,n,_,K,r,c,g⟩:=DataW.trod_struct s h;have f:=g 0 k u;have i:=g 1 t v;rw[m,sw]at f;rw[j,sw]at i;rw[q]at c;match l,c with
 |[x,I],_=>
  have⟨y,F,H,_⟩:=DataW.trod_string su f;have⟨L,G,A,_⟩:=DataW.trod_string su i;match e,r with
  |[D,B],_=>
   simp_all[tc]
def chunks{d:Type}{f:Nat->List d}:∀n l,l.length=2*n->(∀i,i<n->(f i).length=2/\(l.drop (i*2)).take 2=f i)->l=(Ub n).flatMap f:=by
 intro n;induction n with
 |zero=>simp
 |succ n c=>
  intro l h a;have b:=c (l.take (2*n)) (by rw[List.length_take];omega) λi e=>⟨(a i (by omega)).1,by
   rw[List.drop_take];grind⟩
  simp[List.range_succ,<- b];rw[<- (a n (by omega)).2,List.take_of_length_le (l:=l.drop (n*2)) (by rw[List.length_drop];omega),UA,List.take_append_drop]
def BO{H}:(Rows.laid_posix_scan_classes:DataW H)= .agg (eN.map λx=>.agg [.lit (.string x.1),.lit (.string x.2)]):=rfl
def wX{w a b p}(h:DataW.trod (λ_=>()) Tryz.prog w 0 (λ_=>true) false a 292 b=some (Rows.laid_posix_scan_classes,p))(g:b.length=24):b=jb:=by
 rw[BO]at h;have l:b=(Ub 12).flatMap λi=>[tc (eN.getD i ([],[])).1,tc (eN.getD i ([],[])).2]:=chunks 12 b g λi j=>⟨rfl,by
  have⟨c,d,q,f,k⟩:=Lib.array_elem zu h i j;have e:eN[i]?=some (eN.getD i ([],[])):=by
   grind
  rw[List.getElem?_map,e]at f;obtain rfl:=Option.some.inj f;exact zv k⟩
 rw[l];rfl
def KG(b):jb.toArray.map (ab b)=jb.toArray:=by
 rw[List.map_toArray];congr 1
 have h:∀v∈jb,ab b v=v:=by
  intro v a;unfold jb at a;grind [ct,tc]
 exact List.map_congr_left λv a=>h v a
def K3{W}(k:W.ShapedOpen Tryz.prog)(h:laidMetH Tryz.prog [("errors.errorType",Rows.laid_errors_errorType),("posix/scan.classes",Rows.laid_posix_scan_classes)] W):fx W/\gI W:=by
 have q:=h;have G:gI W:=by
  have⟨s,u,C,e,i,D,j,c⟩:=q.2 _ (Sv.2 rfl);have E:=(Option.some.inj e).symm;subst E;obtain rfl:=Option.some.inj (LW.symm.trans i);have n:C∈(Ub 346).filter λt=>Tryz.prog.rowNamed t [101,114,114,111,114]:=List.mem_filter.2 ⟨List.mem_range.2 (by rw[<- types_size];omega),j⟩
  rw[oneRow]at n;obtain rfl:=Sv.1 n;have F:typeHandle Tryz.prog 81=Su (some ⟨3,81,none⟩):=by rfl
  rw[F]at c;simpa[gI]using World.var?_cell Kl c 0
 refine⟨⟨λg y=> ?_,?_⟩,G⟩;obtain⟨l,t,f,d⟩:=uj k (by rw[rj]at y;omega);exact⟨_,d,trivial,.inl ⟨_,_,_,rfl⟩⟩;have⟨g,t,l,r,p,e,i,D,j⟩:=Lib.laidMet.reads q.1 (Sv.2 rfl);obtain rfl:=Option.some.inj (yS.symm.trans e);obtain rfl:=Option.some.inj (Ky.symm.trans i);have⟨x,v,a⟩:=Tk.1 Gr;simp[Prod.mk.injEq]at a;have⟨b,d,A,_⟩:=k.1 2 x.1 x.2 (by simp) v;have c:b=l:=by
  simp_all[World.var?]
 subst c;have w:b=jb.toArray:=by rw[<- wX j (by rw[Array.length_toList,A,a.1])]
 have⟨m,B,H⟩:=EO k;rw[w]at d;exact⟨x.2,B,m,⟨_,d,by simp⟩,λz=>KG z,⟨_,H,by simp⟩⟩
end
section
open Go.Conc
open Go.ConcN (sumTo upd sumTo_upd upd_ne upd_same)
variable[aD]
section
variable{Q:U3}{R:Machine->Trace->Prop}{g:U9}{w:SG}
def fX.Oz(X:g.status=Uc)
 (H:∀a v q c d t w0 D,a[0]?=some g->Leavers Q t a q->Held t->Deaf t 0=0->stepT Q (crowd a w0 D)=runT Q (crowd a (ah w c d) v) 0->Runs Q (crowd a w0 D) t R) {m t} (hF:fX Q g w m t):Runs Q m t R:=by
 obtain⟨⟨a,v,q,c,d,rfl,E,s⟩,L,hD⟩:=hF;have key:∀M a v q c d t,sumTo a.size q=M->a[0]?=some g->Leavers Q t a q->Held t->Deaf t 0=0->Runs Q (crowd a (ah w c d) v) t R:=by
  intro M;induction M using Nat.strongRecOn with
  |ind M I=>
  intro a v q c d t hM E s L hD;have T:∀x∈a,awake x:=by
   intro x u;obtain⟨i,A,rfl⟩:=Uu.1 u;rcases TQ i with rfl|f
   have:a[0]=g:=by grind
   rw[this];exact awake_of (.inl X);exact awake_of ((s.old i _ f (TL A)).status.elim .inl λx=>.inr (.inr x))
  have⟨i,x,r,l,A,u,n⟩:=crowd_pick (P:=Q) (w:=ah w c d) (sl:=v) T ⟨0,g,E,X⟩;have hat:(ah w c d).at r=ah w c r:=rfl;rw[hat]at n;rcases TQ i with rfl|f
  exact H a l q c r t _ _ E s L hD n;have G:=s.old i x f A;have Z:(i==0)=false:=by grind
  have K:i<a.size:=(SD.1 A).1;cases C:q i with
  |zero=>rw[C]at G;rw[G.1]at u;cases u
  |succ k=>
   rw[C]at G;rcases G with⟨hf,_⟩|⟨_,g',es,hm,B,hq'⟩
   rw[hf]at u;cases u;have W:((a.map (woken Q x g' (ah w c r))).setIfInBounds i g').size=a.size:=by simp
   have hsum:sumTo a.size (upd q i k)+(k+1)=sumTo a.size q+k:=by
    have:=sumTo_upd q k id K;simp_all
   have p:i≠0:=by omega
   refine Runs.step (n.trans (runT_crowd_go (P:=Q) (sl:=l) (i:=i) A (by rw[Z];exact B (ah w c r)))) (I (sumTo a.size (upd q i k)) (by omega) _ l (upd q i k) c r _ (by rw[W]) ?_ ?_ (L.mute (g:=i) p λF b=>by obtain⟨e,_,rfl⟩:=SK b;rfl λF b=>by obtain⟨e,he,rfl⟩:=SK b;exact touch_mute (hm e he)) ((Deaf_other t p _ λF b=>by obtain⟨e,_,rfl⟩:=SK b;rfl).trans hD));rw[T5 p,Tv,E];simp[woken_run X];refine⟨λj y N hy=> ?_,λj N=> ?_⟩;by_cases h:i=j;simp_all[TI,upd_same,Deaf_own]
   rw[T5 h,Tv]at hy;obtain⟨z,hz,rfl⟩:=Tk.1 hy;have S:=s.old j z N hz;rw[woken_quitsD S,upd_ne q k (Ne.symm h),Deaf_other t h _ λF b=>by obtain⟨e,_,rfl⟩:=SK b;rfl];omega;rw[Deaf_other t (g':=i) (by omega) _ λF b=>by obtain⟨e,_,rfl⟩:=SK b;rfl];exact s.above j (by simpa using N)
 grind
def Ends(Q:U3)(a:TG->SG->Prop)(m:Machine)(t:Trace):Prop:=∃o c b,stepT Q m=(Un o c,b)/\UF Q a m o c (t++b)
def fX.ends{a v}(C:g.status=Uc)(h:∀c d,∃s f,stepG Q true g (ah w c d)= .ended (.done v) (ah w c s) f)(E:∀c d,a v (ah w c d)){m t}(A:fX Q g w m t):Runs Q m t (Ends Q a):=by
 refine A.Oz C λI D q c d t H F z r B K p=>.here ?_
 have⟨s,f,y⟩:=h c d;have k:=B.own (u:=Uq 0 g.frame.fn g.frame.place f) λG b=>by obtain⟨e,_,rfl⟩:=SK b;rfl
 refine⟨_,_,_,p.trans (runT_many_ended (P:=Q) (sl:=D) (i:=0) z (show stepG Q (0==0) g (ah w c d)=_ from y)),v,rfl,E ..,k.clean,k.over,⟨λx n=> ?_,rfl⟩,λj x n l=> ?_⟩;have⟨j,l⟩:=List.mem_iff_getElem?.1 n;rw[UB]at l;exact⟨_,(r.old (1+j) x (by omega) (by simpa[crowd]using l)).leaves⟩;refine⟨q j,?_⟩;have e:(t++Uq 0 g.frame.fn g.frame.place f).deaf j (t++Uq 0 g.frame.fn g.frame.place f).size=Deaf t j:=
  Deaf_other t (g:=j) (g':=0) (by omega) _ λG b=>by obtain⟨e,_,rfl⟩:=SK b;rfl
 rw[e];exact(r.old j x (by omega) n).hears _
def Ends.run{b m t}(h:Runs Q m t (Ends Q b)):∃N a o c t',runNT Q (N+1) m t=(Un o c,t')/\runN Q N m= .next a/\step Q a=Un o c/\UF Q b a o c t':=by
 have⟨N,j,t',e,o,c,d,i,f⟩:=h;grind [step,runNT_add,runNT,runNT_fst]
def Bf{fr v u}(h:fr.leaving Q u (SI v))(hi:Q.inits.idxOf? fr.fn=none):∃b,stepG Q true (bO fr []) u= .ended (.done v) u b:=by
 have⟨d,i,e,c,f,a⟩:=h;refine⟨seen Q fr.fn ((results c fr.tmps).runT Q u #[]).2,?_⟩;simp[stepG,bO,d,unwind];grind [GStep.after,doReturn]
end
def Ii{Q a f}(c:a f=none)(args k):SR (alt Q a) f args k=SR Q f args k:=by
 have b:(alt Q a).funcs[f]?=Q.funcs[f]?:=by
  rw[iG];grind [ax]
 simp[SR,b]
def GN{Q q}(B:On Q q){f:FuncId}{fn d}(E:Q.funcs[f]?=some fn)(T:q f=none)(r:fn.results=#[.tmp d])(hi:Q.inits.idxOf? f=none){args W}(hn:NoWait W.heap)
 {R} (hC:cb (br B W.heap) f args (strike W) R) (hR:∀e h,R e h->∃v,e=SI v) {m}
 (hP:∀v h w n,R (SI v) h->bg n h w->rE W.heap n->∀p d,m v (ah w p d)):
 ∃M k o h t',runNT Q (M+1) (solo (G (SR Q f args Tz) []) W) #[]=(Un o h,t')/\runN Q M (solo (G (SR Q f args Tz) []) W)= .next k/\step Q k=Un o h/\UF Q m k o h t':=by
 have hF:pH W.heap Q (bO (SR (alt Q q) f args Tz) []) (strike W) (solo (G (SR Q f args Tz) []) W) #[]:=by
  refine⟨W.heap,⟨⟨#[bO (SR Q f args Tz) []],none,λ_=>0,W,rfl,Eu W,by rw[Ii T];rfl,⟨λi g hi y=> ?_,λj _=>rfl⟩⟩,⟨λL X=> ?_,λi a C=> ?_,λi g y=> ?_⟩,rfl⟩,λi _ _=>rfl⟩<;>first |(rw[U2 (by grind)]at y;cases y)|(have⟨i,j,_,⟨a,b,C,_⟩,_⟩:=X;simp[Trace.act?]at C)|have⟨x,hx,_⟩:=touch_of C<;>grind|simp[Trace.g?]at y
 refine Ends.run (((hC [] (λg u=>∃e l,R e u/\g=bO l []/\l.fn=f/\l.leaving (alt Q q) u e) λe h l n K s z=>(br B W.heap).stop _ _ _ ⟨e,l,n,rfl,s,z⟩) ⟨Gj hn,.inr ⟨⟨mi B.tame f args Tz,λc Z=>by(cases Z),λt ht=>by(cases ht),λA=>by(cases A)⟩,λd A=>by(cases A)⟩⟩ _ _ hF).bind λm' t' ⟨g',h,⟨e,l,n,K,s,z⟩,h5,h6⟩=> ?_);obtain⟨v,rfl⟩:=hR e h n;have⟨S,w,hp,ho,P⟩:=h6.real;subst K;have⟨k1,N,k3,D,I,H⟩:=z;rw[s,iG,E]at I;obtain rfl:ax q f fn=D:=by simpa using I
 rw[results_tmp (by rw[qs];omega)]at H;obtain rfl:l.tmps.getD d undef=v:=by injection H
 refine P.ends (v:=l.tmps.getD d undef) rfl (λp F=> ?_) λp F=>hP _ _ _ _ n hp ho p F
 have⟨es,hs⟩:=Bf (Q:=Q) (fr:=l) (v:=l.tmps.getD d undef) (u:=ah w p F) ⟨k1,N,k3,fn,by rw[s];omega,results_tmp r ..⟩ (by rw[s];omega)<;>grind
end
section
open Go.ChangeShapes Go.WideShapes Go.RowKit Go.Conc
attribute [local instance] fI
def OT:ownKnob Tryz.prog.godebug=none:=by kernel_rfl
theorem kG{W}{i:Nat}{c t f}(h:W.heap[i]?=some (Sz c t f)):(strike W).heap[i]?=some (Sz c t f):=by
 rw[kF,h];exact congrArg some (rJ c t f)
def fx.strike{W}(h:fx W)(l:∀g,g<=Tryz.prog.globals.size->∃c t f,W.heap[g]?=some (Sz c t f)):fx (strike W):=by
 refine⟨λg d=> ?_,?_⟩;have⟨c,t,f,a⟩:=l g d;exact⟨_,kG a,trivial,.inl ⟨_,_,_,rfl⟩⟩;have⟨e,p,m,⟨⟨z,a,n⟩,b,⟨j,i,k⟩⟩⟩:=h.sc;exact⟨e,p,m,⟨⟨z,kG a,n⟩,b,⟨j,kG i,k⟩⟩⟩
def gI.strike{W}(h:gI W)(a:∃c t f,W.heap[0]?=some (Sz c t f)):gI (strike W):=by
 unfold gI TX at h ⊢;grind [kG]
def Cj(W):Under W.heap (strike W):=by
 refine⟨by simp[strike],λi c ⟨o,a,b⟩=> ?_⟩;rw[kF];rcases pK o with e|⟨e,_⟩<;>grind
def Mg{W f n i}(d:Old (strike W) f)(a:bg i f n)(l:rE W.heap i):Old W n:=by
 have p:(strike W).heap.size=W.heap.size:=by simp[strike]
 refine⟨λb g=> ?_,?_,a.os.trans (d.os.trans rfl),a.output.trans (d.out.trans rfl)⟩;have c:f.heap[b]?=W.heap[b]?.map dQ:=by rw[d.old b (by omega),kF]
 have⟨o,k⟩:∃o,W.heap[b]?=some o:=⟨_,TL g⟩;rw[k]at c ⊢;simp[Option.map_some]at c;by_cases j:dQ o=o;rw[j]at c;rcases a.blk b with e|⟨e,m⟩<;>first |(rw[<- e];omega)|(rw[c]at e;rw[a.keep b (by rw[c];omega)]at m ⊢;rw[l b g (.inl m)];omega)
 have h:f.heap[b]?=some (.coro none):=by
  rcases pK o with e|⟨e,_⟩<;>grind
 rw[a.keep b h,l b g (.inr ⟨o,k,j⟩)];omega;have:=d.size;rw[a.size];omega
noncomputable def laidWorld(d:Os):SG:=
 let b:=World.holding Tryz.prog d ⟨#[],#[],[]⟩
 let c:SG:= {b with heap:=b.heap.modify 0 λ
  |Sz _ t a=>Sz #[SH 203 (SV #[Su (some ⟨3,81,none⟩)])] t a
  |o=>o}
 {c with heap:=c.heap.modify 2 λ
  |Sz _ t a=>Sz jb.toArray t a
  |o=>o}
def zQ{H}{enc:Ut×TG->H}{C:Checked}{os f fn s c b}{X:SG->Array TG->Prop}(d:SG)(args e)(k:d.os=os)
 (l:(d.forCall (λ_ _=>0) ⟨#[],args,[]⟩).variablesB C.prog=true)
 (m:((d.forCall (λ_ _=>0) ⟨#[],args,[]⟩).heap.toList.drop C.prog.globals.size).take ((begin C.prog (λ_ _=>0) default).world.heap.size-C.prog.globals.size)=
  (begin C.prog (λ_ _=>0) default).world.heap.toList.drop C.prog.globals.size)
 (g:Input.okWideB C.prog (d.forCall (λ_ _=>0) ⟨#[],args,[]⟩) f ⟨#[],args,[]⟩=true)
 (h:s.preB enc C.prog fn c b (d.forCall (λ_ _=>0) ⟨#[],args,[]⟩).memory args e=true)
 (j:s.sizedB enc C.prog fn b (d.forCall (λ_ _=>0) ⟨#[],args,[]⟩).memory args e=true)
 (n:X (d.forCall (λ_ _=>0) ⟨#[],args,[]⟩).memory args):
 ∃(w:SG)(a:Tape)(i:Input),w.os=os/\(w.forCall a i).Shaped C.prog/\i.vars=[]/\Input.okWide C.prog (w.forCall a i) .any w.heap.size f i/\
  ((s.pre enc C.prog fn c b (w.forCall a i).memory i.args/\X (w.forCall a i).memory i.args)/\sizedMet enc C.prog fn (OpenSpec.ofChange s) b (w.forCall a i).memory i.args)/\({calm:=true}:Assume).holds C.prog (lone (SR C.prog f i.args Tz) [] (w.forCall a i)):=
 ⟨d,λ_ _=>0,⟨#[],args,[]⟩,k,World.shaped_of_B l m,(Input.okWide_of_okWideB (base:=0) g).1,(Input.okWide_of_okWideB g).2,⟨⟨ChangeSpec.pre_of_preB h,n⟩,sizedMet_of_sizedB j⟩,⟨by simp,λ_ _ _ _=>rfl,by simp,by simp,by simp⟩⟩
def vh{W:SG}(a:W.ShapedOpen Tryz.prog)(g)(b:g<=Tryz.prog.globals.size):∃c t f,W.heap[g]?=some (Sz c t f):=uj a (by rw[rj]at b;omega)
def EV{W}(z:W.ShapedOpen Tryz.prog){f:FuncId}{fn args}(A:Tryz.prog.funcs[f]?=some fn)(C:bH f=none){d}(r:fn.results=#[.tmp d])(n:Tryz.prog.inits.idxOf? f=none)
 (q:cb (br ek W.heap) f args (strike W) λe j=>e=SI (Tg true)/\Old (strike W) j) {g} (B:∀m,Old W m->g (Tg true) m):
 ∃M a o j l,runNT Tryz.prog (M+1) (solo (G (SR Tryz.prog f args Tz) []) W) #[]=(Un o j,l)/\runN Tryz.prog M (solo (G (SR Tryz.prog f args Tz) []) W)= .next a/\step Tryz.prog a=Un o j/\UF Tryz.prog g a o j l:=by
 refine GN ek A C r n ?_ q (λe j h=>⟨_,h.1⟩) λv j m p h u s E d=> ?_
 intro i c t n;rcases TP i Tryz.prog.globals.size with k|y
 have⟨D,l,F,p⟩:=vh z i (Ue k)<;>grind;omega;have⟨w,x⟩:=h;cases w;have b:=Mg x u s;exact B _ ⟨b.old,b.size,b.os,b.out⟩
end
section
open Go.Conc
open Go.ConcN (sumTo upd sumTo_upd upd_ne upd_same)
variable[aD]
structure Ee(n:Nat)(Q:U3)(g:U9)(w:SG)(m:Machine)(t:Trace):Prop where
 is:∃gs sl q Y d,m=crowd gs (ah w Y d) sl/\gs[0]?=some g/\Leavers Q t gs q
 held:Held t
 hears:Deaf t 0=n
section
variable{n n':Nat}{Q:U3}{R:Machine->Trace->Prop}{g g1 child:U9}{w w1:SG}
def Ee.turn(hr:g.status=Uc)
 (H:∀a sl q c d t m,a[0]?=some g->Leavers Q t a q->Held t->Deaf t 0=n->stepT Q m=runT Q (crowd a (ah w c d) sl) 0->Runs Q m t R) {m t} (hF:Ee n Q g w m t):Runs Q m t R:=by
 obtain⟨⟨a,sl,q,c,d,rfl,A,r⟩,K,G⟩:=hF;have L:∀M a sl q c d t,sumTo a.size q=M->a[0]?=some g->Leavers Q t a q->Held t->Deaf t 0=n->Runs Q (crowd a (ah w c d) sl) t R:=by
  intro M;induction M using Nat.strongRecOn with
  |ind M Z=>
  intro a sl q c d t hM A r K G;have S:∀x∈a,awake x:=by
   intro x v;obtain⟨i,B,rfl⟩:=Uu.1 v;rcases TQ i with rfl|f
   have:a[0]=g:=by grind
   rw[this];exact awake_of (.inl hr);exact awake_of ((r.old i _ f (TL B)).status.elim .inl λx=>.inr (.inr x))
  have⟨i,x,u,s,B,v,l⟩:=crowd_pick (P:=Q) (w:=ah w c d) (sl:=sl) S ⟨0,g,A,hr⟩;have hat:(ah w c d).at u=ah w c u:=rfl;rw[hat]at l;rcases TQ i with rfl|f
  exact H a s q c u t _ A r K G l;have F:=r.old i x f B;have X:(i==0)=false:=by grind
  have N:i<a.size:=(SD.1 B).1;cases C:q i with
  |zero=>rw[C]at F;rw[F.1]at v;cases v
  |succ k=>
   rw[C]at F;rcases F with⟨hf,_⟩|⟨_,g',es,hm,D,hq'⟩
   rw[hf]at v;cases v;have W:((a.map (woken Q x g' (ah w c u))).setIfInBounds i g').size=a.size:=by simp
   have hsum:sumTo a.size (upd q i k)+(k+1)=sumTo a.size q+k:=by
    have:=sumTo_upd q k id N;simp_all
   have p:i≠0:=by omega
   refine Runs.step (l.trans (runT_crowd_go (P:=Q) (sl:=s) (i:=i) B (by rw[X];exact D (ah w c u)))) (Z (sumTo a.size (upd q i k)) (by rw[<- hM];omega) _ s (upd q i k) c u _ (by rw[W]) ?_ ?_ (K.mute (g:=i) p λI b=>by obtain⟨e,_,rfl⟩:=SK b;rfl λI b=>by obtain⟨e,he,rfl⟩:=SK b;exact touch_mute (hm e he)) ((Deaf_other t p _ λI b=>by obtain⟨e,_,rfl⟩:=SK b;rfl).trans G));rw[T5 p,Tv,A];simp[woken_run hr];refine⟨λj y E hy=> ?_,λj E=> ?_⟩;by_cases h:i=j;simp_all[TI,upd_same,Deaf_own]
   rw[T5 h,Tv]at hy;obtain⟨z,hz,rfl⟩:=Tk.1 hy;have T:=r.old j z E hz;rw[woken_quitsD T,upd_ne q k (Ne.symm h),Deaf_other t h _ λI b=>by obtain⟨e,_,rfl⟩:=SK b;rfl];omega;rw[Deaf_other t (g':=i) (by simp at E;omega) _ λI b=>by obtain⟨e,_,rfl⟩:=SK b;rfl];exact r.above j (by simpa using E)
 exact L _ a sl q c d t rfl A r K G
def Ee.go(B:g.status=Uc)(h:∀b d,∃l E,stepG Q true g (ah w b d)= .go g1 (ah w1 b l) E/\deafBehind n E=n')
 (k:∀m t,Ee n' Q g1 w1 m t->Runs Q m t R) {m t} (F:Ee n Q g w m t):Runs Q m t R:=by
 refine F.turn B λI A q b d t m r u C H c=> ?_
 have⟨l,E,G,v⟩:=h b d;refine Runs.step (c.trans (runT_crowd_go (P:=Q) (sl:=A) (i:=0) r (show stepG Q (0==0) g (ah w b d)=_ from G))) (k _ _ ⟨⟨_,A,q,b,l,rfl,by simp[(SD.1 r).1],?_⟩,C.own λx a=>by obtain⟨e,_,rfl⟩:=SK a;rfl,by rw[Deaf_own,H];omega⟩);refine⟨λj y f s=> ?_,λj f=> ?_⟩;have p:0≠j:=by omega
 rw[T5 p,Tv]at s;obtain⟨z,D,rfl⟩:=Tk.1 s;have v:=u.old j z f D;rw[woken_quitsD v,Deaf_other t (by omega) _ λx a=>by obtain⟨e,_,rfl⟩:=SK a;rfl];omega;rw[Deaf_other t (g':=0) (by grind) _ λx a=>by obtain⟨e,_,rfl⟩:=SK a;rfl];exact u.above j (by simpa using f)
end
def eL(n:Nat)(Q:U3)(R:Machine->Trace->Prop)(g:U9)(w:SG):Prop:=∀m t,Ee n Q g w m t->Runs Q m t R
section
variable{n n':Nat}{Q:U3}{R:Machine->Trace->Prop}{g g1:U9}{w w1:SG}{b:U8}{a:Act}{k:List Item}{cs:List U8}{ops:Array Oper}{i:Nat}{rest:List Nat}{o:Oper}
def ca.Nv(h:eL 0 Q R g w):ca Q R g w:=λm t c=>h m t ⟨c.is,c.held,c.hears⟩
def eL.of(h:ca Q R g w):eL 0 Q R g w:=λm t c=>h m t ⟨c.is,c.held,c.hears⟩
theorem eL.step{E}(j:g.status=Uc)(h:∀c d,stepG Q true g (ah w c d)= .go g1 (ah w1 c d) E)(e:deafBehind n E=n')(k1:eL n' Q R g1 w1):eL n Q R g w:=λm t f=>
 f.go j (λc d=>⟨d,E,h c d,e⟩) k1
def eL.ctl(h:∀w,stepG Q true g w= .go g1 w)(c:g.status=Uc)(k1:eL n Q R g1 w):eL n Q R g w:=eL.step (n':=n) c (λe d=>h _) rfl k1
def eL.value{v}(w1)(l:ops[i]?=some o)(h:Tt o (yielded ops a.tmps)=true)(f:b.kind≠.early)
 (e:∀c d,(SN a.eval o).run Q (ah w c d)=SZ (.value v) (ah w1 c d)) (j:∀c d,(SN a.eval o).events Q (ah w c d) #[]=#[]) (k1:eL n Q R (G (b.at (a.put o.dst v) (SY ops rest::k)) cs) w1):eL n Q R (G (b.at a (SY ops (i::rest)::k)) cs) w:=
 eL.step (n':=n) rfl λc d=>by rw[stepG_value l h f (e c d),listed_nil (j c d)] rfl k1
end
end
section
open Go.RowKit Go.Conc
attribute [local instance] fI
def N3:U1 Tryz.f112=some (λ_=>do mark .disable;pure Extern.Race.none_):=by kernel_rfl
def P1:U1 Tryz.f113=some (λ_=>do mark .enable;pure Extern.Race.none_):=by kernel_rfl
def Pj:U1 Tryz.f124=some (Extern.Race.marked .acquire):=by kernel_rfl
def N4:U1 Tryz.f111=some (Extern.Race.marked .releaseMerge):=by kernel_rfl
def Ph:U1 Tryz.f168=some (Extern.Atomic.casT (.int T8)):=by kernel_rfl
def Pi:U1 Tryz.f170=some (Extern.Atomic.update (Op.intArith .add) T8 true):=by kernel_rfl
noncomputable def qI(a b:Ut):Bool:=match Tryz.prog.underlying a,Tryz.prog.underlying b with|some (.pointer t),some .unsafePointer=>(Tryz.prog.info? t).map (λi=>decide (i.size=0))==some false|_,_=>false
def DZ{a b}(h:qI a b=true):∃t,Tryz.prog.underlying a=some (.pointer t)/\Tryz.prog.underlying b=some .unsafePointer/\(Tryz.prog.info? t).map (λi=>decide (i.size=0))=some false:=by
 unfold qI at h;grind
def BI{b c a v w}(e:w.cell? a=some v)(h:qI b c=true):(convert b c (Su (some a))).run Tryz.prog w=SZ (Su (some a)) w:=by
 have⟨t,d,g,f⟩:=DZ h;exact run_convert_to_unsafe d g f e
def E6{b c a v w}(i:w.cell? a=some v)(h:qI b c=true)(d):(convert b c (Su (some a))).events Tryz.prog w d=d:=by
 have⟨t,f,g,e⟩:=DZ h;exact events_convert_to_unsafe f g e i d
def Gn{b:U8}{a f e w c i rest o g x y}(l:c[i]?=some o)(m:Tt o (yielded c a.tmps)=true)(j:b.kind≠.early)(d:o.op= .call {callee:= .value (.func 170),args:=#[x,y],argTypes:=g})
 {ad} (q:a.eval x=Su (some ad)) (k:a.eval y=AS T8 (-1)) (p:w.cell? ad=some (AS T8 1)) (n:w.frozen? ad=false):
 stepG Tryz.prog true (G (b.at a (SY c (i::rest)::f)) e) w= .go (G (b.at (a.put o.dst (AS T8 0)) (SY c rest::f)) e) (w.setCell ad (AS T8 0)) #[⟨.cell ad,false,true⟩,⟨.cell ad,true,true⟩]:=by
 have h:=stepG_add_atomic (P:=Tryz.prog) (main:=true) (b:=b) (a:=a) (kk:=f) (cs:=e) (w:=w) (rest:=rest) l m j d Tryz.func170 (by kernel_rfl) (by kernel_rfl) (by kernel_rfl) T8 Pi q k p n;rw[show IntKind.i32.wrap (1+ -1)=0 from by decide]at h;exact h
def HF{R}{b:U8}{a k s l i rest o x j w}
 (z:l[i]?=some o) (C:Tt o (yielded l a.tmps)=true) (I:b.kind≠.early) (F:∀u,(SN a.eval o).run Tryz.prog u=SZ (TH 154 #[Su (some ⟨x,j,none⟩)]) u) (D:Hu Tryz.prog (SN a.eval o))
 (A:w.cell? ⟨x,j,none⟩=some (AS T8 0)) (K:w.frozen? ⟨x,j,none⟩=false)
 (H:ca Tryz.prog R (G (b.at (a.put o.dst (SX #[])) (SY l rest::k)) s) (w.setCell ⟨x,j,none⟩ (AS T8 1))):ca Tryz.prog R (G (b.at a (SY l (i::rest)::k)) s) w:=by
 intro m t E;have⟨c,r⟩:∃c,(Tryz.f154).body=some c:=⟨_,rfl⟩;refine E.enter (f:=154) (args:=#[Su (some ⟨x,j,none⟩)]) z C I D Tryz.func154 r (λe d=>F _) ?_;show ca Tryz.prog R ..;have q:(b.at a (SY l (i::rest)::k)).finish (SX #[])=b.at (a.put o.dst (SX #[])) (SY l rest::k):=by
  rw[UR,z];rfl
 rw[<- q]at H;generalize b.at a (SY l (i::rest)::k)=M at H ⊢;cases r;rw[show(Tryz.f154).ntmps=13 from Tryz.ntmps154];simp only[T6,T9,Td,Tj,Ti,SU,SS,T7,SW,Tc,Ta];refine ca.Nv ?_;refine eL.ctl (λw=>stepG_seq) rfl ?_;refine eL.ctl (λw=>stepG_region) rfl ?_;refine eL.step (n':=1) rfl (λe d=>stepG_mark0 .disable (λg h=>nomatch h) rfl rfl (by simp[base]) rfl Tryz.func112 (by kernel_rfl) (by kernel_rfl) (by kernel_rfl) N3) rfl ?_;walk_nrm
 refine eL.ctl (λw=>stepG_region_end) rfl ?_;iterate 2 (refine eL.ctl (λw=>stepG_seq) rfl ?_)
 refine eL.ctl (λw=>stepG_region) rfl ?_;iterate 3 (refine eL.value (v:=Su (some ⟨x,j,none⟩)) w rfl rfl (by simp[base]) λe d=>by first |rfl|simp[SN,go_sem,SP] λe d=>by simp[SN,go_sem,SP] ?_;walk_nrm)
 refine eL.step (n':=1) (w1:=w.setCell ⟨x,j,none⟩ (AS T8 1)) rfl (λe d=>stepG_cas_hit (v:=0) (n:=1) (ad:=⟨x,j,none⟩) rfl rfl (by simp[base]) rfl Tryz.func168 (by kernel_rfl) (by kernel_rfl) (by kernel_rfl) T8 Ph rfl rfl rfl A K) rfl ?_;walk_nrm
 have p:∀{e:Nat->Question->Nat}{d:Nat},(ah (w.setCell ⟨x,j,none⟩ (AS T8 1)) e d).cell? ⟨x,j,none⟩=some (AS T8 1):=λ{e d}=>by rw[ru];exact World.cell?_setCell_same' _ _ _ (by rw[A];rfl)
 have B:∀e d,(convert 282 146 (Su (some ⟨x,j,none⟩))).run Tryz.prog (ah (w.setCell ⟨x,j,none⟩ (AS T8 1)) e d)=SZ (Su (some ⟨x,j,none⟩)) (ah (w.setCell ⟨x,j,none⟩ (AS T8 1)) e d):=λe d=>BI p (by kernel_rfl)
 have L:∀e d y,(convert 282 146 (Su (some ⟨x,j,none⟩))).events Tryz.prog (ah (w.setCell ⟨x,j,none⟩ (AS T8 1)) e d) y=y:=λe d=>E6 p (by kernel_rfl)
 refine eL.ctl (λw=>stepG_region_end) rfl ?_;refine eL.ctl (λw=>stepG_cond (t:=true) rfl) rfl ?_;walk_nrm
 refine eL.ctl (λw=>stepG_seq) rfl ?_;refine eL.ctl (λw=>stepG_cond (t:=true) rfl) rfl ?_;walk_nrm
 refine eL.ctl (λw=>stepG_seq) rfl ?_;refine eL.ctl (λw=>stepG_region) rfl ?_;refine eL.step (n':=0) rfl (λe d=>stepG_mark0 .enable (λg h=>nomatch h) rfl rfl (by simp[base]) rfl Tryz.func113 (by kernel_rfl) (by kernel_rfl) (by kernel_rfl) P1) rfl ?_;walk_nrm
 refine eL.ctl (λw=>stepG_region_end) rfl ?_;refine eL.ctl (λw=>stepG_region) rfl ?_
 (refine eL.value (v:=Su (some ⟨x,j,none⟩)) (w.setCell ⟨x,j,none⟩ (AS T8 1)) rfl rfl (by simp[base]) λe d=>by first |rfl|simp[SN,go_sem,SP] λe d=>by simp[SN,go_sem,SP] ?_;walk_nrm)
 (refine eL.value (v:=Su (some ⟨x,j,none⟩)) (w.setCell ⟨x,j,none⟩ (AS T8 1)) rfl rfl (by simp[base]) λe d=>by simp[SN,go_sem,SP, *] λe d=>by simp[SN,go_sem,SP, *] ?_;walk_nrm)
 refine eL.step (n':=0) rfl (λe d=>stepG_markAt .acquire (λa g h=>nomatch h) rfl rfl (by simp[base]) rfl Tryz.func124 (by kernel_rfl) (by kernel_rfl) (by kernel_rfl) Pj (ad:=⟨x,j,none⟩) (by simp[SP])) rfl ?_;walk_nrm
 exact eL.ctl (λw=>stepG_region_end) rfl (eL.ctl (λw=>stepG_ret') rfl (eL.of (ca.FO rfl rfl rfl Tryz.func154 (λe d=>results_none rfl ..) H)))
def D4{R}{b:U8}{a k r l i rest o x j w}
 (y:l[i]?=some o) (B:Tt o (yielded l a.tmps)=true) (F:b.kind≠.early) (E:∀u,(SN a.eval o).run Tryz.prog u=SZ (TH 155 #[Su (some ⟨x,j,none⟩)]) u) (C:Hu Tryz.prog (SN a.eval o))
 (z:w.cell? ⟨x,j,none⟩=some (AS T8 1)) (I:w.frozen? ⟨x,j,none⟩=false)
 (H:ca Tryz.prog R (G (b.at (a.put o.dst (SX #[])) (SY l rest::k)) r) (w.setCell ⟨x,j,none⟩ (AS T8 0))):ca Tryz.prog R (G (b.at a (SY l (i::rest)::k)) r) w:=by
 intro m t D;have⟨c,q⟩:∃c,(Tryz.f155).body=some c:=⟨_,rfl⟩;refine D.enter (f:=155) (args:=#[Su (some ⟨x,j,none⟩)]) y B F C Tryz.func155 q (λe d=>E _) ?_;show ca Tryz.prog R ..;have p:(b.at a (SY l (i::rest)::k)).finish (SX #[])=b.at (a.put o.dst (SX #[])) (SY l rest::k):=by
  rw[UR,y];rfl
 rw[<- p]at H;generalize b.at a (SY l (i::rest)::k)=L at H ⊢;cases q;rw[show(Tryz.f155).ntmps=21 from Tryz.ntmps155];simp only[T6,T9,Td,Tj,Ti,SU,SS,T7,SW,Tc,Ta];have n:∀{e:Nat->Question->Nat}{d:Nat},(ah w e d).cell? ⟨x,j,none⟩=some (AS T8 1):=λ{e d}=>z
 have A:∀e d,(convert 282 146 (Su (some ⟨x,j,none⟩))).run Tryz.prog (ah w e d)=SZ (Su (some ⟨x,j,none⟩)) (ah w e d):=λe d=>BI n (by kernel_rfl)
 have K:∀e d s,(convert 282 146 (Su (some ⟨x,j,none⟩))).events Tryz.prog (ah w e d) s=s:=λe d=>E6 n (by kernel_rfl)
 refine ca.Nv ?_;refine eL.ctl (λw=>stepG_seq) rfl ?_;refine eL.ctl (λw=>stepG_cond (t:=true) rfl) rfl ?_;walk_nrm
 refine eL.ctl (λw=>stepG_seq) rfl ?_;refine eL.ctl (λw=>stepG_region) rfl ?_;iterate 3 (refine eL.value (v:=Su (some ⟨x,j,none⟩)) w rfl rfl (by simp[base]) λe d=>by first |rfl|simp[SN,go_sem,SP] λe d=>by simp[SN,go_sem,SP] ?_;walk_nrm)
 refine eL.of (ca.value (v:=AS T8 1) w rfl rfl (by simp[base]) (λc h=>by cases h) λe d=>by simp[SN,go_sem,SP,n] (ca.Nv ?_));walk_nrm
 refine eL.ctl (λw=>stepG_region_end) rfl ?_;refine eL.ctl (λw=>stepG_seq) rfl ?_;refine eL.ctl (λw=>stepG_region) rfl ?_
 (refine eL.value (v:=Su (some ⟨x,j,none⟩)) w rfl rfl (by simp[base]) λe d=>by first |rfl|simp[SN,go_sem,SP] λe d=>by simp[SN,go_sem,SP] ?_;walk_nrm)
 (refine eL.value (v:=Su (some ⟨x,j,none⟩)) w rfl rfl (by simp[base]) λe d=>by simp[SN,go_sem,SP, *] λe d=>by simp[SN,go_sem,SP, *] ?_;walk_nrm)
 refine eL.step (n':=0) rfl (λe d=>stepG_markAt .releaseMerge (λa g h=>nomatch h) rfl rfl (by simp[base]) rfl Tryz.func111 (by kernel_rfl) (by kernel_rfl) (by kernel_rfl) N4 (ad:=⟨x,j,none⟩) (by simp[SP])) rfl ?_;walk_nrm
 refine eL.ctl (λw=>stepG_region_end) rfl ?_;refine eL.ctl (λw=>stepG_region) rfl ?_;refine eL.step (n':=1) rfl (λe d=>stepG_mark0 .disable (λg h=>nomatch h) rfl rfl (by simp[base]) rfl Tryz.func112 (by kernel_rfl) (by kernel_rfl) (by kernel_rfl) N3) rfl ?_;walk_nrm
 refine eL.ctl (λw=>stepG_region_end) rfl ?_;refine eL.ctl (λw=>stepG_seq) rfl ?_;refine eL.ctl (λw=>stepG_region) rfl ?_;iterate 3 (refine eL.value (v:=Su (some ⟨x,j,none⟩)) w rfl rfl (by simp[base]) λe d=>by first |rfl|simp[SN,go_sem,SP] λe d=>by simp[SN,go_sem,SP] ?_;walk_nrm)
 refine eL.step (n':=1) (w1:=w.setCell ⟨x,j,none⟩ (AS T8 0)) rfl (λe d=>Gn (ad:=⟨x,j,none⟩) rfl rfl (by simp[base]) rfl rfl rfl z I) rfl ?_;walk_nrm
 (refine eL.value (v:=AS T8 0) (w.setCell ⟨x,j,none⟩ (AS T8 0)) rfl rfl (by simp[base]) λe d=>by first |rfl|simp[SN,go_sem,SP] λe d=>by simp[SN,go_sem,SP] ?_;walk_nrm)
 refine eL.ctl (λw=>stepG_region_end) rfl ?_;iterate 2 (refine eL.ctl (λw=>stepG_seq) rfl ?_)
 refine eL.ctl (λw=>stepG_region) rfl ?_
 (refine eL.value (v:=AS T8 0) (w.setCell ⟨x,j,none⟩ (AS T8 0)) rfl rfl (by simp[base]) λe d=>by first |rfl|simp[SN,go_sem,SP] λe d=>by simp[SN,go_sem,SP] ?_;walk_nrm)
 (refine eL.value (v:=Tg false) (w.setCell ⟨x,j,none⟩ (AS T8 0)) rfl rfl (by simp[base]) λe d=>by first |rfl|simp[SN,go_sem,SP] λe d=>by simp[SN,go_sem,SP] ?_;walk_nrm)
 refine eL.ctl (λw=>stepG_region_end) rfl ?_;refine eL.ctl (λw=>stepG_cond (t:=false) rfl) rfl ?_;refine eL.ctl (λw=>stepG_skip) rfl ?_;refine eL.ctl (λw=>stepG_region) rfl ?_;refine eL.step (n':=0) rfl (λe d=>stepG_mark0 .enable (λg h=>nomatch h) rfl rfl (by simp[base]) rfl Tryz.func113 (by kernel_rfl) (by kernel_rfl) (by kernel_rfl) P1) rfl ?_;walk_nrm
 refine eL.ctl (λw=>stepG_region_end) rfl ?_;refine eL.ctl (λw=>stepG_end) rfl ?_;exact eL.of (ca.FO rfl rfl rfl Tryz.func155 (λe d=>results_none rfl ..) H)
end
section
section
variable{P:U3}{D:dZ P}
def tR(D:dZ P)(f:FuncId)(args:Array TG)(w:SG)(R:SG->Prop):Prop:=
 ∀(c:U8)(b:List U8)(K:U9->SG->Prop),D.okF c.fn->c.mode=TD->(∀a,R a->D.H K (bO c b) a)->D.H K (bO (SR P f args .deferred) (c::b)) w
def rV{f fn c args w R}(m:D.okF f)(y:P.funcs[f]?=some fn)(B:fn.body=some c)(x:fn.results=#[])
 (h:cL D c (λe a w=>(e=Um\/e= .ret)/\a.defers=[]/\R w) {tmps:=args++Th (fn.ntmps-args.size) undef,defers:=[]} w):tR D f args w R:=λd r K k s A=>by
 let b:= {(default:U8)with fn:=f,kind:= .deferred}
 have j:SR P f args .deferred=b.at {tmps:=args++Th (fn.ntmps-args.size) undef,defers:=[]} [.code c]:=by
  grind [SR,Frame.at]
 have i:∀(l:Act)(q:SG)(g:List Item),l.defers=[]->R q->D.H K (bO {b.at l g with mode:=TD} (d::r)) q:=λl q g p n=>
  D.one (λu=>by
   have:=step_going_returned (P:=P) (fr:= {b.at l g with mode:=TD}) (c:=d) (cs:=r) (w:=u) (v:=SX #[]) rfl ⟨rfl,p,fn,y,results_none x ..⟩;rw[s]at this;have e: {d with mode:=settle TD}=d:=by rw[show settle TD=TD from rfl,<- s]
   rw[e]at this;omega) k (A _ n)
 rw[j];refine h b [] (d::r) K m (by simp[b]) λe l q z=> ?_
 have⟨t,p,n⟩:=z;rcases t with rfl|rfl
 exact D.one (λu=>step_end) m (i _ _ _ p n);exactλg=>i _ _ _ p n
def yb(D:dZ P)(R:SG->Prop):List Uf->SG->Prop
 |[],w=>R w
 |d::g,w=>∃h c f b,d.target= .fn h c/\(∀u:SG,(invoke d.target d.args).run P u=SZ (TH f b) u)/\D.okF f/\tR D f b w λe=>yb D R g e
def vl{f fn c args w R}(n:D.okF f)(N:P.funcs[f]?=some fn)(Q:fn.body=some c)(F:fn.results=#[])
 (h:cL D c (λe a w=>(e=Um\/e= .ret)/\yb D R a.defers w) {tmps:=args++Th (fn.ntmps-args.size) undef,defers:=[]} w):
 cb D f args w λe k=>e=SI (SX #[])/\R k:=λv K G=>by
 let b:= {(default:U8)with fn:=f,kind:=Tz}
 have i:SR P f args Tz=b.at {tmps:=args++Th (fn.ntmps-args.size) undef,defers:=[]} [.code c]:=by
  grind [SR,Frame.at]
 have p:∀(l:List Uf)(j:U8)(k:SG),j.mode=TD->j.defers=l->j.fn=f->j.kind=Tz->yb D R l k->D.H K (bO j v) k:=by
  intro l;induction l with
  |nil=>exactλj k m x q s C=>G _ _ _ ⟨rfl,C⟩ (by simp) q ⟨m,x,s,fn,by rw[q];omega,results_none F ..⟩
  |cons d l H=>
   intro j k m x q s ⟨T,L,g,t,z,A,B,I⟩;refine D.one (λu=>step_defer (by simp[m]) x z (A u)) (by simpa[SR]using B) (I {j with defers:=l} v K (by rw[q];omega) m λS h=>H _ _ m rfl q s h)
 rw[i];refine h b [] v K n (by simp[b]) λe M k r=> ?_
 obtain⟨E,r⟩:=r;rcases E with rfl|rfl
 exact D.one (λu=>step_end) n (p _ _ _ rfl rfl rfl rfl r);exactλy=>p _ _ _ rfl rfl rfl rfl r
end
end
section
open Go.RowKit Go.Conc
attribute [local instance] fI
def DV{h0 b w c g a v m t}(i:bg b w c)(l:rE h0 b)(h:fX Tryz.prog g (c.setCell a v) m t):pH h0 Tryz.prog g (w.setCell a v) m t:=by
 obtain⟨⟨r,n,q,e,d,rfl,f,j⟩,k,p⟩:=h;exact⟨b,⟨⟨r,n,q,_,rfl,(i.setCell a v).ah e d,f,j⟩,k,p⟩,l⟩
section
variable{h0:Array Obj}{ops:Array Oper}{i:Nat}{rest:List Nat}{o:Oper}{Q:Exit->Act->SG->Prop}{a:Act}{w:SG}{x j:Nat}
def Hy{b:U8}{k g v m}(hI:Iv (bO (b.at a (SY ops (i::rest)::k)) g) w)(n:an m):Iv (bO (b.at (a.put o.dst v) (SY ops rest::k)) g) m:=by
 have c:JG (bO (b.at a (SY ops (i::rest)::k)) g):=by
  rcases hI.2 with⟨⟨d,f,_⟩,_⟩|⟨h,_⟩
  cases f;omega
 have l:(a.put o.dst v).defers=a.defers:=by unfold Tf;split <;>rfl
 refine⟨n,.inr ⟨⟨⟨λq e=> ?_,λd f=>c.1.2 d (by have f:d∈(a.put o.dst v).defers:=f;rw[l]at f;exact f)⟩,c.2.1,nofun,nofun⟩,nofun⟩⟩;rcases SM.1 e with rfl|e
 exactλj r o p=>c.1.1 (SY ops (i::rest)) (Tl ..) j (Tm _ r) o p
 exact c.1.1 q (Tm _ e)
def F5(B:ops[i]?=some o)(q:Tt o (yielded ops a.tmps)=true)(s:∀u,(SN a.eval o).run Tryz.prog u=SZ (TH 154 #[Su (some ⟨x,j,none⟩)]) u)(y:Hu Tryz.prog (SN a.eval o))
 (A:w.cell? ⟨x,j,none⟩=some (AS T8 0)) (D:w.frozen? ⟨x,j,none⟩=false) (v:aV (br ek h0) ops Q rest (a.put o.dst (SX #[])) (w.setCell ⟨x,j,none⟩ (AS T8 1))):aV (br ek h0) ops Q (i::rest) a w:=λb k n K d h g=>by
 intro l m t z;have⟨E,F,e,f,C⟩:=z.real;exact HF B q h s y ((e.cell _).trans A) ((e.frozen _).trans D) (λp r c=>v b k n K d h g (Hy l (eO l.1 _ _)) p r (DV e f c)) m t C
def AV(B:ops[i]?=some o)(q:Tt o (yielded ops a.tmps)=true)(s:∀u,(SN a.eval o).run Tryz.prog u=SZ (TH 155 #[Su (some ⟨x,j,none⟩)]) u)(y:Hu Tryz.prog (SN a.eval o))
 (A:w.cell? ⟨x,j,none⟩=some (AS T8 1)) (D:w.frozen? ⟨x,j,none⟩=false) (v:aV (br ek h0) ops Q rest (a.put o.dst (SX #[])) (w.setCell ⟨x,j,none⟩ (AS T8 0))):aV (br ek h0) ops Q (i::rest) a w:=λb k n K d h g=>by
 intro l m t z;have⟨E,F,e,f,C⟩:=z.real;exact D4 B q h s y ((e.cell _).trans A) ((e.frozen _).trans D) (λp r c=>v b k n K d h g (Hy l (eO l.1 _ _)) p r (DV e f c)) m t C
end
def jw.set{w b}(h:jw b w)(a v):jw (b.setCell a v) (w.setCell a v):=⟨by simp[Ux,h.heap],h.os,h.out⟩
def jw.trans{a b c}(h:jw a b)(k:jw b c):jw a c:=⟨h.heap.trans k.heap,h.os.trans k.os,h.out.trans k.out⟩
def jw.cell{w w'}(h:jw w' w)(a):w'.cell? a=w.cell? a:=by simp[TX,h.heap]
def jw.frozen{w w'}(h:jw w' w)(a):w'.frozen? a=w.frozen? a:=by simp[World.frozen?,h.heap]
section
variable{h0:Array Obj}{w:SG}{x j:Nat}
def Mo(b:w.cell? ⟨x,j,none⟩=some (AS T8 0))(c:w.frozen? ⟨x,j,none⟩=false):
 cb (br ek h0) 130 #[Su (some ⟨x,j,none⟩)] w λe d=>e=SI (SX #[])/\jw d (w.setCell ⟨x,j,none⟩ (AS T8 1)):=by
 refine bu (bP (by decide)) (λd h=>nomatch h.1) (PH.func Tryz.func130 (by decide)) rfl ?_;simp only[Tryz.ntmps130,T6,T9,Td,Tj,Ti,SU,SS,T7,SW,Tc,Ta];refine ao ?_;show aV _ _ _ (U0 0 (3+1)) ..;refine bq 0 3 1 (λN f k a=> ?_) (by decide);simp only[zq1];have g:=(a.cell _).trans b;replace a:=AI a;replace b:=AI b;replace c:=AI c;go_wp2;refine f.out _ _ ?_;refine F5 (x:=x) (j:=j) (i:=3) (rest:=U0 4 0) rfl rfl (λu=> ?_) ?_ ((a.out.cell _).trans b.out) ((a.out.frozen _).trans c.out) ?_
 .simp[SN,go_sem,SP]
 .exact uV Tryz.func154 rfl _
 refine az ?_;have r:=a.out.set ⟨x,j,none⟩ (AS T8 1);exact⟨rfl,_,results_none rfl ..,rfl,r⟩
def Hm(b:w.cell? ⟨x,j,none⟩=some (AS T8 1))(c:w.frozen? ⟨x,j,none⟩=false):
 tR (br ek h0) 131 #[Su (some ⟨x,j,none⟩)] w λe=>jw e (w.setCell ⟨x,j,none⟩ (AS T8 0)):=by
 refine rV (bP (by decide)) (PH.func Tryz.func131 (by decide)) rfl rfl ?_;simp only[Tryz.ntmps131,T6,T9,Td,Tj,Ti,SU,SS,T7,SW,Tc,Ta];refine ao ?_;show aV _ _ _ (U0 0 (3+1)) ..;refine bq 0 3 1 (λN d f a=> ?_) (by decide);simp only[zq1];have g:=(a.cell _).trans b;replace a:=AI a;replace b:=AI b;replace c:=AI c;go_wp2;refine d.out _ _ ?_;refine AV (x:=x) (j:=j) (i:=3) (rest:=U0 4 0) rfl rfl (λu=> ?_) ?_ ((a.out.cell _).trans b.out) ((a.out.frozen _).trans c.out) ?_
 .simp[SN,go_sem,SP]
 .exact uV Tryz.func155 rfl _
 refine az ?_;exact⟨.inl rfl,rfl,a.out.set ⟨x,j,none⟩ (AS T8 0)⟩
end
end
structure MT where
 s:ByteArray
 f:Nat
 e:Nat
def dN(g:Nat->Nat)(p:Nat):Nat->Nat
 |0=>0
 |n+1=>(if p.testBit n then g n else 0)|||dN g p n
def iw(e b d a:Int)(c:Nat):Bool:=(if c<64 then e else if c<128 then b else if c<192 then d else a).toNat.testBit (c%64)
def wG(M:MT)(a:Bool)(i:Nat):Bool:=match a with|false=>(i==0&&M.e&&&1==0)||(M.f&&&2 !=0&&0<i&&i-1<M.s.size&&M.s.get! (i-1)==10)|true=>(i==M.s.size&&M.e&&&2==0)||(M.f&&&2 !=0&&i<M.s.size&&M.s.get! i==10)
def bS(b c:Int)(a:Nat):Nat:=if c<0/\b<=a then a else a+1
def pU(g:Nat->Nat)(a c:Int):Nat->Nat->Nat->Nat
 |0,_,_=>0
 |f+1,b,i=>(if a<=b then 1<<<i else 0)|||(if(b:Int)=c then 0 else dN (λk=>if i<k\/(b:Int)<a then pU g a c f (bS a c b) k else 0) (g i) 320)
mutual
def bv(M:MT):Nd->Nat->Nat
 | .set _ b0 b1 b2 b3,i=>if i<M.s.size&&iw b0 b1 b2 b3 (M.s.get! i).toNat then 1<<<(i+1)else 0
 | .edge _ fin,i=>if wG M fin i then 1<<<i else 0
 | .seq _ ks,i=>dL M ks i
 | .alt _ ks,i=>iK M ks i
 | .grp _ k _,i=>bv M k i
 | .rep _ k l m,i=>pU (bv M k) l m (l.toNat+400) 0 i
def dL(M:MT):List Nd->Nat->Nat
 |[],i=>1<<<i
 |k::ks,i=>dN (dL M ks) (bv M k i) 320
def iK(M:MT):List Nd->Nat->Nat
 |[],_=>0
 |k::ks,i=>bv M k i|||iK M ks i
end
def dI(M:MT)(k:Nd)(l m:Int)(a i:Nat):Nat:=pU (bv M k) l m (l.toNat+400) a i
def df(q:Nat->Bool)(p:Nat):Nat->Option Nat
 |0=>none
 |n+1=>if p.testBit n&&q n then some n else df q p n
abbrev Notes:=List (Int×Nat×Nat)
def jJ(M:MT)(k:Nd)(l m:Int)(d:Nat->Nat->Notes)(j:Nat):Nat->Nat->Nat->Notes
 |0,_,_=>[]
 |f+1,a,i=>if i<j\/(a:Int)<l then
  match df (λc=>(decide (i<c)||decide ((a:Int)<l))&& (dI M k l m (bS l m a) c).testBit j) (bv M k i) 320 with
  |some c=>d i c++jJ M k l m d j f (bS l m a) c
  |none=>jJ M k l m d j f (bS l m a) i
  else[]
mutual
def de(M:MT):Nd->Nat->Nat->Notes
 | .set ..,_,_=>[]
 | .edge ..,_,_=>[]
 | .seq _ ks,i,j=>jI M ks i j
 | .alt _ ks,i,j=>oq M ks i j
 | .grp _ k num,i,j=>(num,i,j)::de M k i j
 | .rep _ k l m,i,j=>jJ M k l m (de M k) j (l.toNat+400) 0 i
def jI(M:MT):List Nd->Nat->Nat->Notes
 |[],_,_=>[]
 |k::ks,i,j=>match df (λc=>(dL M ks c).testBit j) (bv M k i) 320 with|some c=>de M k i c++jI M ks c j|none=>jI M ks i j
def oq(M:MT):List Nd->Nat->Nat->Notes
 |[],_,_=>[]
 |k::ks,i,j=>if(bv M k i).testBit j then de M k i j else oq M ks i j
end
abbrev B4:=Int×Int×Int×Int
mutual
def bj:Nd->List B4×Bool
 | .set _ b0 b1 b2 b3=>([(b0,b1,b2,b3)],false)
 | .edge .. =>([],true)
 | .seq _ ks=>iD ks
 | .alt _ ks=>iF ks
 | .grp _ k _=>bj k
 | .rep _ k l _=>((bj k).1,(bj k).2||l==0)
def iD:List Nd->List B4×Bool
 |[]=>([],true)
 |k::ks=>if(bj k).2 then((bj k).1++(iD ks).1,(iD ks).2)else((bj k).1,false)
def iF:List Nd->List B4×Bool
 |[]=>([],false)
 |k::ks=>((bj k).1++(iF ks).1,(bj k).2||(iF ks).2)
end
def nn(a:Notes)(g:Nat):Int×Int:=a.foldl (λx n=>if n.1=(g:Int)then((n.2.1:Int),(n.2.2:Int))else x) (-1,-1)
def DR(M:MT)(b:Nd)(a:Nat)(i:Nat):Option (List (Int×Int)):=
 match df (λ_=>true) (bv M b i) 320 with
 |some j=>some ((Ub (a+1)).map (nn (((0:Int),i,j)::de M b i j)))
 |none=>none
def JU(M:MT)(a:Nd)(i:Nat):Bool:=(bj a).2||(decide (i<M.s.size)&& (bj a).1.any λb=>iw b.1 b.2.1 b.2.2.1 b.2.2.2 (M.s.get! i).toNat)
def fj(M:MT)(nd:Nd)(a:Nat):Nat->Nat->Option (List (Int×Int))
 |0,_=>none
 |f+1,i=>if JU M nd i then(match DR M nd a i with |some l=>some l|none=>fj M nd a f (i+1))else fj M nd a f (i+1)
theorem tN(i j):(1<<<i:Nat).testBit j=decide (i=j):=by
 rw[Nat.one_shiftLeft,Nat.testBit_two_pow]
theorem pd{g p n j}:(dN g p n).testBit j=true↔∃k,k<n/\p.testBit k=true/\(g k).testBit j=true:=by
 induction n with
 |zero=>simp[dN]
 |succ n a=>
  rw[dN];grind
def wF{g b p n}(h:∀k,k<n->p.testBit k=true->g k=b k):dN g p n=dN b p n:=by
 induction n with
 |zero=>rfl
 |succ n d=>
  rw[dN,dN,d λk c=>h k (Ua c)];by_cases a:p.testBit n=true;rw[if_pos a,if_pos a,h n (TE n) a];grind
def Within(M:MT)(i p:Nat):Prop:=∀j,p.testBit j=true->i<=j/\j<=M.s.size
def gC{M i}:Within M i 0:=λj h=>by simp at h
def mX{M i k}(a:i<=k)(b:k<=M.s.size):Within M i (1<<<k):=λj h=>by
 rw[tN]at h;have:=of_decide_eq_true h;omega
def ye{M i p q}(b:Within M i p)(a:Within M i q):Within M i (p|||q):=λj h=>by
 rw[U6,US]at h;exact h.elim (b j) (a j)
def tY{M i p n g}(h:∀k,p.testBit k=true->Within M i (g k)):Within M i (dN g p n):=λj c=>by
 have⟨k,_,a,b⟩:=pd.1 c;exact h k a j b
def Within.mono{M i k p}(h:Within M k p)(a:i<=k):Within M i p:=λj b=>⟨TC a (h j b).1,(h j b).2⟩
def vz{M g l m}(c:∀i,i<=M.s.size->Within M i (g i)):∀f a i,i<=M.s.size->Within M i (pU g l m f a i):=by
 intro f;induction f with
 |zero=>exactλ_ _ _=>gC
 |succ f e=>
  intro a i b;rw[pU];refine ye ?_ ?_;split <;>first |exact mX (Sx i) b|exact gC
  split <;>first |exact gC|(refine tY λk d=> ?_;split <;>first |exact(e _ k (c i b k d).2).mono (c i b k d).1|exact gC)
mutual
def bZ(M):∀j i,i<=M.s.size->Within M i (bv M j i)
 | .set _ q s p r,i,e=>by
  rw[bv];split <;>first |(rename_i h;rw[Ug,decide_eq_true_eq]at h;exact mX (by omega) h.1)|exact gC
 | .edge _ n,i,e=>by
  rw[bv];split;exact mX (Sx i) e;exact gC
 | .seq _ f,i,e=>qH M f i e
 | .alt _ f,i,e=>vA M f i e
 | .grp _ k _,i,e=>bZ M k i e
 | .rep _ k l m,i,e=>vz (λi e=>bZ M k i e) _ _ _ e
def qH(M:MT):∀(f:List Nd)(i:Nat),i<=M.s.size->Within M i (dL M f i)
 |[],i,e=>by rw[dL];exact mX (Sx i) e
 |k::f,i,e=>tY λc g=>(qH M f c (bZ M k i e c g).2).mono (bZ M k i e c g).1
def vA(M:MT):∀(f:List Nd)(i:Nat),i<=M.s.size->Within M i (iK M f i)
 |[],i,e=>by rw[iK];exact gC
 |k::f,i,e=>ye (bZ M k i e) (vA M f i e)
end
def Hn{M g}{l m:Int}(d:∀i,i<=M.s.size->Within M i (g i)):∀(f b a i:Nat),i<=M.s.size->(l-a).toNat+(M.s.size-i)<f->(l-a).toNat+(M.s.size-i)<b->pU g l m f a i=pU g l m b a i:=by
 intro f;induction f with
 |zero=>exactλ_ _ _ _ h=>absurd h (Nat.not_lt_zero _)
 |succ f r=>
  intro b a i n p e;cases b with
  |zero=>exact absurd e (Nat.not_lt_zero _)
  |succ b=>
   rw[pU,pU];by_cases c:a=m;rw[if_pos c,if_pos c];rw[if_neg c,if_neg c];refine congrArg _ (wF λk s j=> ?_);have t:=d i n k j;by_cases q:i<k\/a<l;have:(l-bS l m a).toNat+(M.s.size-k)<(l-a).toNat+(M.s.size-i):=by
    grind [bS]
   grind
   grind
def Bd{M k l m a i}(hi:i<=M.s.size)(hs:M.s.size<=300):
 dI M k l m a i=(if l<=a then 1<<<i else 0)|||if(a:Int)=m then 0 else dN (λc=>if i<c\/(a:Int)<l then dI M k l m (bS l m a) c else 0) (bv M k i) 320:=by
 have d:=λi hi=>bZ M k i hi
 unfold dI;conv=>lhs;rw[pU]
 by_cases b:a=m;rw[if_pos b,if_pos b];rw[if_neg b,if_neg b];refine congrArg _ (wF λc f e=> ?_);split;exact Hn d _ _ _ _ (d i hi c e).2 (by omega) (by omega);rfl
def yK{M a k l m i}:bv M (.rep a k l m) i=dI M k l m 0 i:=by rw[bv,dI]
def oX{q p}:∀{n},df q p n=none↔∀c,c<n->p.testBit c=true->q c=false
 |0=>by simp[df]
 |n+1=>by
  rw[df];split
  .next h=>
   grind
  .next h=>
   rw[oX];grind
def j4{q p j}:∀{n},df q p n=some j↔j<n/\p.testBit j=true/\q j=true/\∀c,c<n->j<c->p.testBit c=true->q c=false
 |0=>by simp[df]
 |n+1=>by
  rw[df];split
  .next h=>
   grind
  .next h=>
   rw[j4];grind
section
open Go.RowKit
abbrev lM:List Nat:=lH
noncomputable abbrev PM:U3:=PH
def PM.func{f fn}(a:Tryz.prog.funcs[f]?=some fn)(h:lM.contains f=true):PM.funcs[f]?=some fn:=ry a (bP h)
def fU(f:Nat->Int):Array TG:=#[AS Sw (f 0),AS Sw (f 1),AS Sw (f 2),AS Sw (f 3),AS Sw (f 4)]
abbrev cR(p:Nat):Array TG:=fU (wz p.testBit)
def ep(p:Nat):TG:=SV (cR p)
def oh{w q f i}(h:a7 w q 199 (fU f))(a:i<5):w.cell? ⟨q,i,none⟩=some (AS Sw (f i)):=by
 have:=h.cell i;rw[this];match i,a with
 |0,_=>rfl
 |1,_=>rfl
 |2,_=>rfl
 |3,_=>rfl
 |4,_=>rfl
def DI{w q f g i}(h:a7 w q 199 (fU f))(b:i<5)(a:∀j,j≠i->g j=f j):a7 (w.setCell ⟨q,i,none⟩ (AS Sw (g i))) q 199 (fU g):=by
 have:=h.bI i (AS Sw (g i));have e:(fU f).setIfInBounds i (AS Sw (g i))=fU g:=by
  match i,b with
  |0,_=>simp[fU,a 1,a 2,a 3,a 4]
  |1,_=>simp[fU,a 0,a 2,a 3,a 4]
  |2,_=>simp[fU,a 0,a 1,a 3,a 4]
  |3,_=>simp[fU,a 0,a 1,a 2,a 4]
  |4,_=>simp[fU,a 0,a 1,a 2,a 3]
 rw[e]at this;omega
def Jm(i j:Nat)(a:j<64):((64:Int)*i+j)/64=i:=by omega
def Lm(i j:Nat)(c:j<64)(h:64*i+j<1000000):bits .and SC (64*i+j) 63=j:=by
 have:=bits_mask SC 63 (by decide) λn d b=>by rw[UL];omega 6 (by decide) (64*i+j) (by omega) (by omega)
 have a:(2:Int)^6=64:=rfl;rw[a,show(64:Int)-1=63 from rfl]at this;omega
structure Kq(B:Nat)(X:List Nat)(w w':SG):Prop where
 kp:Kp B X w w'
 os:w'.os=w.os
 out:w'.output=w.output
section
variable{B B':Nat}{X X':List Nat}{w w' w2:SG}
def Kq.refl(w):Kq B X w w:=⟨.refl w,rfl,rfl⟩
def Kq.trans(h:Kq B X w w')(k:Kq B X w' w2):Kq B X w w2:=⟨h.kp.trans k.kp,k.os.trans h.os,k.out.trans h.out⟩
def Kq.mono(h:Kq B X w w')(hB:B'<=B)(hX:∀x∈X,x<B'->x∈X'):Kq B' X' w w':=⟨h.kp.mono hB hX,h.os,h.out⟩
def Kq.alloc(h:Kq B X w w')(a:B<=w.heap.size)(o):Kq B X w (w'.alloc o):=⟨h.kp.alloc a o,h.os,h.out⟩
def Kq.setCell(h:Kq B X w w'){p}(a:p.block<B->p.block∈X)(u):Kq B X w (w'.setCell p u):=⟨h.kp.setCell a u,h.os,h.out⟩
def Kq.drewN(h:Kq B X w w')(n):Kq B X w (w'.drewN n):=⟨h.kp,h.os,h.out⟩
def Kq.drew(h:Kq B X w w'):Kq B X w w'.drew:=⟨h.kp,h.os,h.out⟩
def a7.kq{g t a}(h:a7 w g t a)(c:Kq B X w w')(d:g<B)(b:g∉X):a7 w' g t a:=h.kp c.kp d b
end
def oW(q i p:Nat)(w)(y:i<320)(d:a7 w q 199 (cR p)):
 Calls PM 240 #[Su (some ⟨q,0,none⟩),AS SC i] w λe l=>e=SI (SX #[])/\a7 l q 199 (cR (p|||1<<<i))/\Kq w.heap.size [q] w l:=by
 obtain⟨i,j,c,rfl⟩:∃a j,j<64/\i=64*a+j:=⟨i/64,i%64,UQ _ (by decide),by omega⟩;have b:i<5:=by omega
 have z:∀i,w.frozen? ⟨q,i,none⟩=false:=d.frozen;have v:w.cell? ⟨q,i,none⟩=some (AS Sw (wz p.testBit i)):=oh d b;have s:=Jm i j c;have t:=Lm i j c (by omega);have f:(p|||1<<<(64*i+j)).testBit=ins p.testBit (64*i+j):=by
  funext x
  rw[U6,tN,ins];refine congrArg _ ?_;rw[Bool.eq_iff_iff,decide_eq_true_eq,beq_iff_eq];exact⟨Eq.symm,Eq.symm⟩
 have u:bits .or Sw (wz p.testBit i) (IntKind.u64.wrap (2^j))=wz (p|||1<<<(64*i+j)).testBit i:=by
  have m:(2:Int)^j=((2^j:Nat):Int):=by norm_cast
  rw[m,wraps_u64 _ (Int.natCast_nonneg _) (by exact_mod_cast Nat.pow_lt_pow_right (by decide) c),G4 p.testBit i j c,f]
 have h:=AI d;have k:=AI f;clear d f;generalize p|||1<<<(64*i+j)=r at *
 go_enter PM.func Tryz.func240 (by decide),Tryz.ntmps240
 go_wp2;go_region
 go_end0
 exact⟨rfl,DI h.out b λn g=>by rw[k.out];exact s8 p.testBit i n j c g,((Kq.refl w).setCell (p:=⟨q,i,none⟩) (λ_=>Sv.2 rfl) _).drew⟩
def oV(i p:Nat)(w)(g:i<320):
 Calls PM 133 #[ep p,AS SC i] w λe f=>e=SI (Tg (p.testBit i))/\Kq w.heap.size [] w f:=by
 obtain⟨i,j,b,rfl⟩:∃a j,j<64/\i=64*a+j:=⟨i/64,i%64,UQ _ (by decide),by omega⟩;have k:=Jm i j b;have h:=Lm i j b (by omega);have c:=G5 p.testBit i j b;have d:((2^j:Nat):Int)=2^j:=by norm_cast
 rw[d]at c;have m:(w.alloc (Sz (cR p) 199)).cell? ⟨w.heap.size,i,none⟩=some (AS Sw (wz p.testBit i)):=oh (a7.new w 199 _) (by omega);have l:=lh p.testBit i;unfold ep;go_enter PM.func Tryz.func133 (by decide),Tryz.ntmps133
 unfold cR at *;go_wp2;all_goals
  go_ret;exact⟨by simp[*],(Kq.refl w).alloc (Sx _) _⟩
def r5(q p r w)(b:a7 w q 199 (cR p)):
 Calls PM 235 #[Su (some ⟨q,0,none⟩),ep r] w λe y=>e=SI (SX #[])/\a7 y q 199 (cR (p|||r))/\Kq w.heap.size [q] w y:=by
 unfold ep;have C:=b.lt;have u:a7 (w.alloc (Sz (cR r) 199)) w.heap.size 199 (cR r):=a7.new w 199 _;have t:a7 (w.alloc (Sz (cR r) 199)) q 199 (cR p):=b.alloc _;have s:Kq w.heap.size [q] w (w.alloc (Sz (cR r) 199)):=(Kq.refl w).alloc (Sx _) _;have n:∀i,bits .or Sw (wz p.testBit i) (wz r.testBit i)=wz (p|||r).testBit i:=λi=>by
  rw[Dp,show(p|||r).testBit=λx=>p.testBit x||r.testBit x from funext λx=>U6 ..]
 replace u:=AI u;replace t:=AI t;replace s:=AI s;replace n:=AI n;go_enter PM.func Tryz.func235 (by decide),Tryz.ntmps235
 go_wp2;go_loopw [5] (λc wr=>∃k:Nat,k<=5/\c=AS SC k/\a7 wr q 199 (fU λj=>if j<k then wz (p|||r).testBit j else wz p.testBit j)/\a7 wr w.heap.size 199 (cR r)/\Kq w.heap.size [q] w wr) λc _=>5- (intOf c).toNat
 case atStart=>exact⟨0,by omega,rfl,t.out,u.out,s.out⟩
 case round=>
  obtain⟨k,B,rfl,b,A,E⟩:=hrel;have f:=AI b;have d:=AI E;by_cases h:k<5
  .have I:wr.cell? ⟨q,k,none⟩=some (AS Sw (wz p.testBit k)):=(oh b h).trans (by rw[if_neg (T4 _)]);have F:wr.cell? ⟨w.heap.size,k,none⟩=some (AS Sw (wz r.testBit k)):=oh A h;have H:∀i,wr.frozen? ⟨q,i,none⟩=false:=b.frozen;have D:=n.out k;obtain⟨z,l⟩:∃z,wz (p|||r).testBit k=z:=⟨_,rfl⟩;rw[l]at D;replace l:=AI l;go_wp2;go_region
   go_wp2;go_roundw
   case rel=>
    refine⟨k+1,by omega,by push_cast;rfl,?_,((AI A).out.far (p:=⟨q,k,none⟩) (by show w.heap.size≠q;omega) _).drew,(d.out.setCell (p:=⟨q,k,none⟩) (λ_=>Sv.2 rfl) _).drew⟩;have:=DI (g:=λj=>if j<k+1 then wz (p|||r).testBit j else wz p.testBit j) f.out h λj G=>by
     by_cases m:j<k<;>first |rw[if_pos m,if_pos (Ua m)]|rw[if_neg m,if_neg (by omega)]
    rw[if_pos (TE k),l.out]at this;exact this.drew
   case measure=>simp[intOf];omega
  .obtain rfl:k=5:=by omega
   go_wp2;go_end0
   exact⟨rfl,f.out,d.out⟩
end
section
open Go.RowKit
attribute [local go_sem] TK
def Mz{X}(p l n)(T:1<=n)(O3 H:Nat->SG->Prop)(d)(hX:∀x∈X,x<d.heap.size)
 (E:∀i W b,O3 i W->Kq W.heap.size [] W b->O3 i b) (hs:∀i W,O3 (i+1) W->p.testBit i=false->O3 i W)
 (S:∀i W,d.heap.size<W.heap.size->i<320->p.testBit i=true->O3 (i+1) W->YieldAt Tp (n-1) PM l #[AS SC i] W λe b=>e=SI (Tg true)/\O3 i b/\Kq W.heap.size X W b\/e=SI (Tg false)/\H i b)
 (h0:O3 320 d):
 CallsIn Tp n PM 95 #[ep p,.func (.yield l) #[] #[]] d λe b=>(∃v,e=SI v)/\(O3 0 b\/∃i,i<320/\p.testBit i=true/\H i b):=by
 unfold ep;refine callsIn_of_wp (PM.func Tryz.func95 (by decide)) rfl trivial ?_ rfl;simp only[Tryz.ntmps95,T6,T9,Td,Tj,Ti,SU,SS,T7,SW,Tc,Ta];gi_wp2
 gi_loopw [4] (λc wr=>∃(k:Nat)(z:Int),k<=320/\z=(k:Int)-1/\c=AS SC z/\O3 k wr/\a7 wr d.heap.size 199 (cR p)/\d.heap.size<wr.heap.size) λc _=>(intOf c+1).toNat
 case atStart=>exact⟨320,319,by omega,by omega,rfl,E _ _ _ h0 ((Kq.refl _).alloc (Sx _) _),a7.new ..,by simp⟩
 case round=>
  obtain⟨k,z,y,M,rfl,g,s,r⟩:=hrel;cases k with
  |zero=>
   have L:z<0:=by omega
   gi_wp2
   go_end0
   exact⟨⟨_,rfl⟩,.inl g⟩
  |succ i=>
   obtain rfl:z=(i:Int):=by omega
   clear M;have B:i<320:=by omega
   have c0:∀j,j<5->wr.cell? ⟨d.heap.size,j,none⟩=some (AS Sw (wz p.testBit j)):=λj g=>oh s g
   have f:=λP=>callsIn_wide (n:=n-1).2 (oV i p P B)
   unfold ep cR fU at f;replace s:=AI s;by_cases m:p.testBit i=true
   .rw[m]at f;gi_wp2_with (first |(refine⟨trivial,?_⟩;gi_at_call 133;refine(f _).mono ?_;rintro e w ⟨rfl,a⟩;have⟨fn,F,t,G,hy,R⟩:=S i w (by have:=a.kp.1;omega) B m (E _ _ _ g a))|fail)
    refine R.mono ?_;rintro e b (⟨rfl,D,y⟩|⟨rfl,q⟩)
    .gi_wp2
     go_roundw
     case rel=>
      have K:=a.kp.1;have Z:=y.kp.1;have C:i<=320:=by omega
      have A:d.heap.size<b.heap.size:=by omega
      have N:d.heap.size<w.heap.size:=by omega
      exact⟨i,(i:Int)-1,C,rfl,rfl,D,(s.out.kq a r Sy).kq y N λQ=>absurd (hX _ Q) (T4 _),A⟩
     case measure=>simp[intOf]
    .gi_wp2
     refine bodyPost_ret (results_none rfl ..) rfl ?_;exact⟨⟨_,rfl⟩,.inr ⟨i,B,m,q⟩⟩
   .rw[TV.2 m]at f;gi_wp2_with (first |(refine⟨trivial,?_⟩;gi_at_call 133;refine(f _).mono ?_;rintro e w ⟨rfl,a⟩)|fail)
    refine⟨λ_ h=>(by cases h),?_⟩;gi_wp2
    go_roundw
    case rel=>
     have K:=a.kp.1;have C:i<=320:=by omega
     have A:d.heap.size<w.heap.size:=by omega
     exact⟨i,(i:Int)-1,C,rfl,rfl,hs _ _ (E _ _ _ g a) (TV.2 m),s.out.kq a r Sy,A⟩
    case measure=>simp[intOf]
end
section
open Go.RowKit
def jY(X:List Nat)(W:SG)(O2:SG->Prop)(b:Code->SG->Prop):Exit->Act->SG->Prop
 |Um,_,a=>Kq W.heap.size X W a/\O2 a
 | .ret,_,a=>Kq W.heap.size X W a/\b .ret a
 | .exit c,_,a=>Kq W.heap.size X W a/\b (.exit c) a
 |_,_,_=>False
def Kq.put{B X w a}(h:Kq B X w a){l}(g:l<B->l∈X)(o):Kq B X w (a.putObj l o):=
 ⟨⟨by rw[show(a.putObj l o).heap.size=a.heap.size from by simp[World.putObj]];exact h.kp.1,λb f d=>by
  have c:b≠l:=λe=>d (e▸g (e▸f))
  rw[T0 c];exact h.kp.2 b f d⟩,h.os,h.out⟩
def qe{X Q a w}{p t n:Nat}{g assign body}(hn:2<=n)
 (hg:a.eval g= .func (.func 95) #[ep p] #[]) (hX:∀x∈X,x<w.heap.size)
 (I:Nat->SG->Prop) (Z:Code->Nat->SG->Prop) (hI:∀i W z,I i W->Kq w.heap.size [] W z->I i z) (D:∀c i W z,Z c i W->Kq w.heap.size [] W z->Z c i z)
 (hs:∀i W,I (i+1) W->p.testBit i=false->I i W) (h0:I 320 w) (a1:Nat->Act)
 (hassign:∀(l i:Nat) W K,K (a1 i) W->assign.wpIn (Fence.wide.inRound l) (n-1-1) PM (Exit.then K λ_ _ _=>False) {tmps:=a.tmps.setIfInBounds t (AS SC i),defers:=[]} W)
 (hbody:∀l i W,w.heap.size<W.heap.size->i<320->p.testBit i=true->I (i+1) W->body.wpIn (Fence.wide.inRound l) (n-1-1) PM (jY X W (I i) λc=>Z c i) (a1 i) W)
 (hdone:∀W,I 0 W->W.heap[w.heap.size]?=some (SQ (some []))->Q Um {a with defers:= {target:=TU w.heap.size,args:=#[]}::a.defers} W)
 (E:∀c i W,i<320->p.testBit i=true->Z c i W->W.heap[w.heap.size]?=some (SQ (some []))->c.wpIn Tp n PM Q {a with defers:= {target:=TU w.heap.size,args:=#[]}::a.defers} W):
 (Code.rangeFunc g #[t] assign body).wpIn Tp n PM Q a w:=by
 refine wpIn_rangeFunc ?_;intro fn hfn;have⟨f,j⟩:∃f:LoopState->Option Code->Loop,f=λst pe=> {state:=st,pending:=pe,fn,tmps:=a.tmps,params:=#[t],assign,body,defers:=w.heap.size}:=⟨_,rfl⟩
 have⟨A,s⟩:∃A,(w.alloc (SQ (some []))).alloc (Tx (f Tr none))=A:=⟨_,rfl⟩;have hsz:A.heap.size=w.heap.size+2:=by rw[<- s];simp
 have hL1:A.heap[w.heap.size+1]?=some (Tx (f Tr none)):=by
  rw[<- s];have:=World.alloc_heap_new (w.alloc (SQ (some []))) (Tx (f Tr none));rwa [World.size_alloc]at this
 have hK1:A.heap[w.heap.size]?=some (SQ (some [])):=by
  rw[<- s];exact(Below.heap_alloc _ _ _ (by simp)).trans (World.alloc_heap_new w _)
 refine⟨w.heap.size+1,[{target:=TU w.heap.size,args:=#[]}],A,{target:= .fn (.func 95) #[],args:=#[ep p,.func (.yield (w.heap.size+1)) #[] #[]]},A,95,
  #[ep p,.func (.yield (w.heap.size+1)) #[] #[]],A,?_,?_,?_,?_,λh=>absurd h (by simp[Tp]),?_⟩
 rw[<- s,j];exact run_enterLoop_outer ..;simp only[resolve,hg];simp[go_sem];exactλf' _=>trivial
 simp[invoke,go_sem];have B:∀{W z:SG}{b:Nat}{o:Obj},W.heap[b]?=some o->Kq W.heap.size [] W z->z.heap[b]?=some o:=λy q=>(q.kp.2 _ (SD.1 y).1 Sy).trans y
 refine(Mz (X:=(w.heap.size+1)::X) p (w.heap.size+1) (n-1) (by omega)
  (λi W=>I i W/\W.heap[w.heap.size+1]?=some (Tx (f Tr none))/\W.heap[w.heap.size]?=some (SQ (some [])))
  (λi W=>∃c,Z c i W/\W.heap[w.heap.size+1]?=some (Tx (f .done (some c)))/\W.heap[w.heap.size]?=some (SQ (some [])))
  A λx hx=>by grind
  (λi W z h q=>⟨hI i W z h.1 ((λy q=>q.mono (Ue (Nat.lt_of_succ_lt (SD.1 y).1)) λ_ h _=>h) h.2.1 q),B h.2.1 q,B h.2.2 q⟩)
  (λi W h y=>⟨hs i W h.1 y,h.2⟩) ?_ ⟨hI _ _ _ h0 (by rw[<- s];exact((Kq.refl w).alloc (Sx _) _).alloc (Sx _) _),hL1,hK1⟩).mono ?_
 rintro i W hlt L y ⟨hi1,F,q⟩;have hy:(Instr.yield (w.heap.size+1) #[AS SC i]).run PM W=SZ (.round (w.heap.size+1) fn (a.tmps.setIfInBounds t (AS SC i)) assign body) W:=by
  have:=run_yield (P:=PM) (args:=#[AS SC i]) F (by rw[j];rfl);rw[j]at this;simp_all
 refine⟨fn,_,assign,body,hy,roundIn_of_wpIn trivial (hassign _ i W _ ?_)⟩;refine⟨_,run_beginRound F (by rw[j]),?_⟩;have T:(W.putObj (w.heap.size+1) (Tx {f Tr none with state:=UG})).heap[w.heap.size+1]?=some (Tx {f Tr none with state:=UG}):=TW (SD.1 F).1;have S:(W.putObj (w.heap.size+1) (Tx {f Tr none with state:=UG})).heap[w.heap.size]?=some (SQ (some [])):=(T0 (by omega)).trans q;have m:∀(W:SG)(o:Obj),Kq w.heap.size [] W (W.putObj (w.heap.size+1) o):=λW o=>(Kq.refl W).put (λh=>absurd h (by omega)) o
 have hq2:Kq W.heap.size ((w.heap.size+1)::X) W (W.putObj (w.heap.size+1) (Tx {f Tr none with state:=UG})):=(Kq.refl W).put (λ_=>Tl) _;have hsz2:(W.putObj (w.heap.size+1) (Tx {f Tr none with state:=UG})).heap.size=W.heap.size:=by simp[World.putObj]
 have hi2:=hI _ _ _ hi1 (m W (Tx {f Tr none with state:=UG}));generalize W.putObj (w.heap.size+1) (Tx {f Tr none with state:=UG})=W2 at *;refine wpIn_mono (hbody _ i W2 (by omega) L y hi2) ?_;have C:∀(d:Option Code)(u:SG),Kq W2.heap.size X W2 u->
  (Instr.endRound (w.heap.size+1) d).run PM u=SZ (Tg d.isNone) (u.putObj (w.heap.size+1) (Tx (f (if d.isNone then Tr else .done) d)))/\
  (u.putObj (w.heap.size+1) (Tx (f (if d.isNone then Tr else .done) d))).heap[w.heap.size+1]?=some (Tx (f (if d.isNone then Tr else .done) d))/\
  (u.putObj (w.heap.size+1) (Tx (f (if d.isNone then Tr else .done) d))).heap[w.heap.size]?=some (SQ (some []))/\
  Kq W.heap.size ((w.heap.size+1)::X) W (u.putObj (w.heap.size+1) (Tx (f (if d.isNone then Tr else .done) d))):=λd u k=>by
  have H:=(k.kp.2 _ (SD.1 T).1 λh=>absurd (hX _ h) (by omega)).trans T;have:=run_endRound (P:=PM) d H;rw[j]at this ⊢;exact⟨this,TW (SD.1 H).1,(T0 (by omega)).trans ((k.kp.2 _ (SD.1 S).1 λh=>absurd (hX _ h) (by omega)).trans S),(hq2.trans (k.mono (by omega) λx hx _=>Tm _ hx)).put (λ_=>Tl) _⟩
 rintro e a3 u G;cases e with
 |normal=>
  have⟨k,r⟩:=G;have⟨N,R,M,h4⟩:=C none u k;exact⟨_,_,N,.inl ⟨rfl,⟨hI _ _ _ r (m ..),R,M⟩,h4⟩⟩
 |ret=>
  have⟨k,r⟩:=G;have⟨N,R,M,h4⟩:=C (some .ret) u k;exact⟨_,_,N,.inr ⟨rfl,_,D _ _ _ _ r (m ..),R,M⟩⟩
 |exit id=>
  have⟨k,r⟩:=G;have⟨N,R,M,h4⟩:=C (some (.exit id)) u k;exact⟨_,_,N,.inr ⟨rfl,_,D _ _ _ _ r (m ..),R,M⟩⟩
 |goto t=>exact G.elim
 |panic ch=>exact G.elim
 |outgrown=>exact G.elim
 rintro e W2 ⟨⟨v,rfl⟩,(⟨L,F,q⟩|⟨i,L,y,c,hx,F,q⟩)⟩;exact⟨none,_,by have:=run_endLoop (P:=PM) F (by rw[j];simp);rw[j]at this;exact this,hdone _ (hI _ _ _ L ((Kq.refl _).put (λh=>absurd h (by omega)) _)) ((T0 (by omega)).trans q)⟩;exact⟨some c,_,by have:=run_endLoop (P:=PM) F (by rw[j];simp);rw[j]at this;exact this,E c i _ L y (D _ _ _ _ hx ((Kq.refl _).put (λh=>absurd h (by omega)) _)) ((T0 (by omega)).trans q)⟩
def kV(a b c:Int):TG:=SV #[AS SC a,AS SC b,AS SC c]
def I64(a:Int):Prop:=(Lit.int SC a).wf=true
def uU:WideMaps.KeyLaw PM 327:=deep_law_laid (m:=2) (by kernel_rfl) (by decide) (by rw[show PM.types.size=346 from by kernel_rfl];decide) (by kernel_rfl) (by kernel_rfl)
def Bg:PM.underlying 327=Tryz.prog.underlying 327:=congrFun (aK ..) _
def Pv:PM.underlying 3=some (.int SC):=(congrFun (aK ..) _).trans Tryz.underlying3
def ra:PM.underlying 193=some (.map 327 199):=(congrFun (aK ..) _).trans Tryz.underlying193
def Fh{a b c}(j:I64 a)(p:I64 b)(q:I64 c):∃l,keyOf PM 327 (kV a b c)=some l:=by
 have h:PM.keyType 327=true:=by kernel_rfl
 have m:PM.types.size=346:=by kernel_rfl
 have d:PM.cellsOf 327=3:=by kernel_rfl
 have f:PM.cellsOf 3=1:=by kernel_rfl
 have i:∀v:TG,v=kV a b c->v.formed PM 327=true:=by
  rintro v rfl;show(match PM.underlying 327 with |some (.struct _)|some (.array ..)=> #[AS SC a,AS SC b,AS SC c].size==PM.cellsOf 327|_=>false)=true;rw[Bg,Tryz.underlying327,d];rfl
 unfold keyOf;rw[Bg,Tryz.underlying327];rw[h,i _ rfl,m];simp only[Bool.and_self,if_true];have e:(kV a b c).cells.toList=[AS SC a,AS SC b,AS SC c]:=rfl;have g:∀(n:Nat)(x:Int),I64 x->PM.keyLits (n+1) 3 [AS SC x]=some [.int SC x]:=λn x k=>by
  rw[Program.keyLits.eq_def];dsimp only;rw[Pv];dsimp only;rw[if_pos ⟨rfl,k⟩]
 rw[e,Program.keyLits.eq_def];dsimp only;rw[Bg,Tryz.underlying327];simp[d,f,g _ _ j,g _ _ p,g _ _ q]
def C7(d:Array MapEntry):Prop:=∀e∈d.toList,∃a b c,I64 a/\I64 b/\I64 c/\e.key=kV a b c
def Hl{w r clock es a b c}(k:w.heap[r]?=some (Uj es clock))(m:C7 es)(n:I64 a)(g:I64 b)(t:I64 c):
 ((TS 193 (.map (some r)) (kV a b c) true).run PM w=SZ (SX #[ep 0,Tg false]) w/\∀e∈es.toList,e.key≠kV a b c)\/∃e∈es.toList,e.key=kV a b c/\(TS 193 (.map (some r)) (kV a b c) true).run PM w=SZ (SX #[e.val,Tg true]) w:=by
 have⟨l,i⟩:=Fh n g t;have u:(zeroValue 199).run PM w=SZ (ep 0) w:=by kernel_rfl
 rcases uU.find w i es.toList λe s=>by have⟨a,b,c,f,d,h,q⟩:=m e s;rw[q];exact Fh f d h with⟨f,d⟩|⟨j,p,f,d,h⟩
 exact .inl ⟨by simp[TS,run_underlying ra,Tw k,uU.check w _ i,f,u],d⟩;exact .inr ⟨p,List.mem_of_getElem? d,h,by simp[TS,run_underlying ra,Tw k,uU.check w _ i,f]⟩
def JS{w r d h a b c v}(t:w.heap[r]?=some (Uj h d))(C:C7 h)(y:I64 a)(q:I64 b)(z:I64 c):
 ∃m f,(Ui 193 (.map (some r)) (kV a b c) v).run PM w=SZ () (w.putObj r (Uj m f))/\∀e∈m.toList,e∈h.toList\/e.key=kV a b c/\e.val=v:=by
 have⟨l,n⟩:=Fh y q z;have g:∀o,(setObj r o).run PM w=SZ () (w.putObj r o):=λo=>(MapKept.run_setObj_map o t).trans rfl
 rcases uU.find w n h.toList λe p=>by have⟨a,b,c,k,s,u,x⟩:=C e p;rw[x];exact Fh k s u with⟨k,s⟩|⟨j,B,k,s,u⟩
 refine⟨h.push {key:=kV a b c,val:=v,born:=d},d+1,by simp[Ui,run_underlying ra,Tw t,uU.check w _ n,k,g],λe p=> ?_⟩;grind
 have A:h[j]?=some B:=by rw[<- Uv];omega
 refine⟨h.modify j λe=> {e with key:=kV a b c,val:=v},d,by simp[Ui,run_underlying ra,Tw t,uU.check w _ n,k,A,u,uU.stays w n,g],λe p=> ?_⟩;have⟨i,D⟩:=List.mem_iff_getElem?.1 p<;>grind
end
section
def Nd.id:Nd->Int
 | .set i _ _ _ _=>i
 | .edge i _=>i
 | .seq i _=>i
 | .alt i _=>i
 | .grp i _ _=>i
 | .rep i _ _ _=>i
mutual
def subs:Nd->List Nd
 | .set i a b c d=>[.set i a b c d]
 | .edge i f=>[.edge i f]
 | .seq i ks=>.seq i ks::gJ ks
 | .alt i ks=>.alt i ks::gJ ks
 | .grp i k n=>.grp i k n::subs k
 | .rep i k l m=>.rep i k l m::subs k
def gJ:List Nd->List Nd
 |[]=>[]
 |k::ks=>subs k++gJ ks
end
def Bt(b:Int):Prop:=0<=b/\b<18446744073709551616
mutual
def be(G lo hi:Int):Nd->Prop
 | .set i a b c d=>lo<i/\i<=hi/\Bt a/\Bt b/\Bt c/\Bt d
 | .edge i _=>lo<i/\i<=hi
 | .seq i ks=>lo<i/\bV G i hi ks
 | .alt i ks=>lo<i/\bV G i hi ks
 | .grp i k n=>lo<i/\0<n/\n<=G/\be G i hi k
 | .rep i k l m=>i<=hi/\0<=l/\l<=21/\m<=21/\be G lo (i-1) k
def bV(G lo hi:Int):List Nd->Prop
 |[]=>lo<=hi
 |k::ks=>∃mid,be G lo mid k/\bV G mid hi ks
end
mutual
def be.mono{G g lo hi c}(e:G<=g)(f:hi<=c):∀l,be G lo hi l->be g lo c l
 | .set ..,h=>by grind [be]
 | .edge ..,h=>by grind [be]
 | .seq _ d,h=>⟨h.1,bV.mono e f d h.2⟩
 | .alt _ d,h=>⟨h.1,bV.mono e f d h.2⟩
 | .grp _ k _,h=>by simp[be]at h ⊢;exact⟨h.1,h.2.1,by omega,be.mono e f k h.2.2.2⟩
 | .rep i k ..,h=>by simp[be]at h ⊢;exact⟨by omega,h.2.1,h.2.2.1,h.2.2.2.1,be.mono e (SL _) k h.2.2.2.2⟩
def bV.mono{G g lo hi c:Int}(e:G<=g)(f:hi<=c):∀d,bV G lo hi d->bV g lo c d
 |[],h=>by grind [bV]
 |k::d,h=>by
  have⟨j,m,n⟩:=h;exact⟨j,be.mono e (SL _) k m,bV.mono e f d n⟩
end
def be.low{G lo b hi}(d:b<=lo):∀c,be G lo hi c->be G b hi c
 | .set ..,h=>by grind [be]
 | .edge ..,h=>by grind [be]
 | .seq ..,h=>by grind [be]
 | .alt ..,h=>by grind [be]
 | .grp ..,h=>by grind [be]
 | .rep _ k ..,h=>⟨h.1,h.2.1,h.2.2.1,h.2.2.2.1,be.low d k h.2.2.2.2⟩
def bV.push{G lo b hi k}:∀{d},bV G lo b d->be G b hi k->bV G lo hi (d++[k])
 |[],h,c=>⟨hi,be.low h k c,SL _⟩
 |x::d,h,c=>by
  have⟨m,e,f⟩:=h;exact⟨m,e,bV.push f c⟩
mutual
def be.lt{G lo hi}:∀f,be G lo hi f->lo<hi
 | .set ..,h=>by simp[be]at h;omega
 | .edge ..,h=>by simp[be]at h;omega
 | .seq _ c,h=>by simp[be]at h;have:=bV.le c h.2;omega
 | .alt _ c,h=>by simp[be]at h;have:=bV.le c h.2;omega
 | .grp _ k _,h=>by simp[be]at h;have:=be.lt k h.2.2.2;omega
 | .rep _ k ..,h=>by simp[be]at h;have:=be.lt k h.2.2.2.2;omega
def bV.le{G lo hi:Int}:∀c,bV G lo hi c->lo+c.length<=hi
 |[],h=>by simp_all[bV]
 |k::c,h=>by
  have⟨g,d,e⟩:=h;have:=be.lt k d;have:=bV.le c e;grind
end
mutual
def be.ids{G lo hi}:∀j,be G lo hi j->∀a∈subs j,lo<a.id/\a.id<=hi
 | .set ..,h,a,b=>by simp[subs]at h b;subst b;exact⟨h.1,h.2.1⟩
 | .edge ..,h,a,b=>by simp[subs]at h b;subst b;exact h
 | .seq i e,h,a,b=>by
  simp[be,subs]at h b;have f:=bV.le e h.2;rcases b with rfl|b
  simp[Nd.id];omega;have:=bV.ids e h.2 a b;omega
 | .alt i e,h,a,b=>by
  simp[be,subs]at h b;have f:=bV.le e h.2;rcases b with rfl|b
  simp[Nd.id];omega;have:=bV.ids e h.2 a b;omega
 | .grp i k _,h,a,b=>by
  simp[be,subs]at h b;have f:=be.lt k h.2.2.2;rcases b with rfl|b
  simp[Nd.id];omega;have:=be.ids k h.2.2.2 a b;omega
 | .rep i k ..,h,a,b=>by
  simp[be,subs]at h b;have f:=be.lt k h.2.2.2.2;rcases b with rfl|b
  simp[Nd.id];omega;have:=be.ids k h.2.2.2.2 a b;omega
def bV.ids{G lo hi:Int}:∀e,bV G lo hi e->∀a∈gJ e,lo<a.id/\a.id<=hi
 |[],h,a,b=>by simp[gJ]at b
 |k::e,h,a,b=>by
  simp[gJ]at h b;have⟨l,g,f⟩:=h;have m:=be.lt k g;have n:=bV.le e f;rcases b with b|b
  have:=be.ids k g a b;omega;have:=bV.ids e f a b;omega
end
mutual
def be.one{G lo hi}:∀m,be G lo hi m->∀a∈subs m,∀b∈subs m,a.id=b.id->a=b
 | .set ..,h,a,c,b,d,e=>by simp_all[subs]
 | .edge ..,h,a,c,b,d,e=>by simp_all[subs]
 | .seq i j,h,a,c,b,d,e=>by
  simp[subs]at h c d;rcases c with rfl|c<;>rcases d with rfl|d<;>first |rfl|(have:=bV.ids j h.2 b d;change i=b.id at e;omega)|(have:=bV.ids j h.2 a c;change a.id=i at e;omega)|exact bV.one j h.2 a c b d e
 | .alt i j,h,a,c,b,d,e=>by
  simp[subs]at h c d;rcases c with rfl|c<;>rcases d with rfl|d<;>first |rfl|(have:=bV.ids j h.2 b d;change i=b.id at e;omega)|(have:=bV.ids j h.2 a c;change a.id=i at e;omega)|exact bV.one j h.2 a c b d e
 | .grp i k _,h,a,c,b,d,e=>by
  simp[subs]at h c d;rcases c with rfl|c<;>rcases d with rfl|d<;>first |rfl|(have:=be.ids k h.2.2.2 b d;change i=b.id at e;omega)|(have:=be.ids k h.2.2.2 a c;change a.id=i at e;omega)|exact be.one k h.2.2.2 a c b d e
 | .rep i k ..,h,a,c,b,d,e=>by
  simp[subs]at h c d;rcases c with rfl|c<;>rcases d with rfl|d<;>first |rfl|(have:=be.ids k h.2.2.2.2 b d;change i=b.id at e;omega)|(have:=be.ids k h.2.2.2.2 a c;change a.id=i at e;omega)|exact be.one k h.2.2.2.2 a c b d e
def bV.one{G lo hi:Int}:∀j,bV G lo hi j->∀a∈gJ j,∀b∈gJ j,a.id=b.id->a=b
 |[],h,a,c,b,d,e=>by simp[gJ]at c
 |k::j,h,a,c,b,d,e=>by
  simp[gJ]at h c d;have⟨p,n,l⟩:=h;rcases c with c|c<;>rcases d with d|d<;>first |exact be.one k n a c b d e|(have:=be.ids k n a c;have:=bV.ids j l b d;omega)|(have:=be.ids k n b d;have:=bV.ids j l a c;omega)|exact bV.one j l a c b d e
end
mutual
def be.sub{G lo hi}:∀m,be G lo hi m->∀a∈subs m,∃l h,lo<=l/\h<=hi/\be G l h a
 | .set ..,h,a,b=>by grind [subs,Sv]
 | .edge ..,h,a,b=>by grind [subs,Sv]
 | .seq i e,h,a,b=>by
  simp only[subs,SM]at b;rcases b with rfl|b<;>first |exact⟨_,_,SL _,SL _,h⟩|(simp only[be]at h;have⟨l,u,f,g,j⟩:=bV.sub e h.2 a b<;>grind)
 | .alt i e,h,a,b=>by
  simp only[subs,SM]at b;rcases b with rfl|b<;>first |exact⟨_,_,SL _,SL _,h⟩|(simp only[be]at h;have⟨l,u,f,g,j⟩:=bV.sub e h.2 a b<;>grind)
 | .grp i k _,h,a,b=>by
  simp only[subs,SM]at b;rcases b with rfl|b<;>first |exact⟨_,_,SL _,SL _,h⟩|(simp only[be]at h;have⟨l,u,f,g,j⟩:=be.sub k h.2.2.2 a b<;>grind)
 | .rep i k ..,h,a,b=>by
  simp only[subs,SM]at b;rcases b with rfl|b<;>first |exact⟨_,_,SL _,SL _,h⟩|(simp[be]at h;have⟨l,u,f,g,j⟩:=be.sub k h.2.2.2.2 a b<;>grind)
def bV.sub{G lo hi:Int}:∀e,bV G lo hi e->∀a∈gJ e,∃l h,lo<=l/\h<=hi/\be G l h a
 |[],h,a,b=>by simp[gJ]at b
 |k::e,h,a,b=>by
  simp[bV,gJ,List.mem_append]at h b;have⟨q,f,g⟩:=h;have:=be.lt k f;have:=bV.le e g;rcases b with b|b
  have⟨l,u,j,p,n⟩:=be.sub k f a b<;>grind;have⟨l,u,j,p,n⟩:=bV.sub e g a b<;>grind
end
structure xf(t:Tok):Prop where
 b0:Bt t.b0
 b1:Bt t.b1
 b2:Bt t.b2
 b3:Bt t.b3
 l0:0<=t.least
 l1:t.least<=21
 m1:t.most<=21
def xf.plain{k a b}:xf ⟨k,a,0,0,0,0,0,0,b⟩:=by constructor<;>simp[Bt]
def xf.set{a S}:xf (iI a S):=⟨lh S 0,lh S 1,lh S 2,lh S 3,by simp[iI],by simp[iI],by simp[iI]⟩
def xf.rep{a l m b}(c:0<=l)(d:l<=21)(e:m<=21):xf (od a l m b):=⟨by simp[od,Bt],by simp[od,Bt],by simp[od,Bt],by simp[od,Bt],c,d,e⟩
def qK(e b l d c):∀f first S p x,jk e b l d c f first S p=some x->xf x.t
 |0,_,_,_,_,h=>by cases h
 |f+1,first,S,p,x,h=>by
  unfold jk at h;split at h;cases h;exact .plain;split at h;cases h;exact .set;split at h;split at h<;>first |(cases h;exact .plain)|exact qK e b l d c f _ _ _ _ h
  split at h;split at h<;>first |(cases h;exact .plain)|exact qK e b l d c f _ _ _ _ h
  exact qK e b l d c f _ _ _ _ h
def Ep(c p rest):xf (dS c p rest).t:=by
 unfold dS;split;exact .rep (by omega) (by omega) (by omega);split;exact .rep (by omega) (by omega) (by omega);split;exact .rep (by omega) (by omega) (by omega);unfold dU;have a:=λl=>Mh l
 split;exact .rep (by simp) (by simp) (by simp);dsimp only;generalize Lib.cut .. =c;have b:=a c.1;split;exact .rep (by simp) (by omega) (by grind);split;exact .rep (by simp) (by omega) (by simp);exact .rep (by simp) (by omega) (by grind)
def zW{c b l p x}(a:eB c b l p=some x):xf x.t:=by
 unfold eB at a;split at a;cases a;exact .plain;split at a;cases a;exact .plain;split at a;cases a;exact Ep ..;split at a;exact qK _ _ _ _ _ _ _ _ _ _ a;split at a;cases a;exact .set;split at a;split at a;cases a;exact .plain;split at a;cases a;exact .plain;split at a;cases a;exact .plain;cases a;exact .set;cases a;exact .set
section
variable{ln fold:Bool}{l:List UInt8}
def qi{p x}(g:p<=l.length)(f:eB ln fold l p=some x)(h0:x.t.kind≠0)(a:x.wr=none\/x.t.kind≠7/\x.t.kind≠8):p<x.p/\x.p<=l.length:=by
 have⟨y,j,k,d,e,b⟩:=ib ln fold l p g;cases f.symm.trans j;refine⟨d ?_,e⟩;cases i:x.more;have c:x.t.bad=false:=by
  rcases a with a|a
  simp[b.bad,a];cases c:x.t.bad<;>first |rfl|rcases b.bk c with h|h<;>omega
 rcases b.last i with h|h<;>grind
 rfl
def pC(l:List UInt8)(s:pD)(c:Int)(W:Int->Int->Nd->Prop):Option (g8 Nd)->Prop
 |some (.ok a b)=>s.p<=b.p/\b.p<=l.length/\b.n+c<=s.n+3*((b.p:Int)-s.p)/\s.g<=b.g/\(s.g<=9->b.g<=9)/\W b.g b.n a
 |_=>True
def qX{s c c' W d x f}(n:pC l s c W x)
 (m:∀a b,s.p<=b.p->b.p<=l.length->b.n+c<=s.n+3*((b.p:Int)-s.p)->s.g<=b.g->(s.g<=9->b.g<=9)->W b.g b.n a->pC l s c' d (f a b)):pC l s c' d (mb x f):=by
 cases x with
 |none=>trivial
 |some r=>
  cases r with
  |ok a b=>have⟨e,k,h,i,g,j⟩:=n;exact m a b e k h i g j
  |err=>trivial
def pC.from_{s b c c' W W' x}(h:pC l b c W x)(q:s.p<=b.p)(m:b.n+c'<=s.n+3*((b.p:Int)-s.p)+c)(n:s.g<=b.g)(d:s.g<=9->b.g<=9)
 (j:∀G hi a,b.g<=G->W G hi a->W' G hi a):pC l s c' W' x:=by
 cases x with
 |none=>trivial
 |some r=>
  cases r with
  |ok a t=>have⟨k,g,p,e,i,f⟩:=h;exact⟨by omega,g,by omega,by omega,λh=>i (d h),j _ _ _ e f⟩
  |err=>trivial
def Nn(f):(∀d s,s.p<=l.length->0<=s.g->pC l s 0 (λG hi=>be G s.n hi) (qY ln fold l f d s))/\
 (∀d id g s,s.p<=l.length->0<=s.g->bV s.g id s.n g->pC l s 1 (λG hi=>be G (id-1) hi) (lV ln fold l f d id g s))/\
 (∀d s,s.p<=l.length->0<=s.g->pC l s 1 (λG hi=>be G s.n hi) (sL ln fold l f d s))/\
 (∀d id g s,s.p<=l.length->0<=s.g->bV s.g id s.n g->pC l s (if g.length=0 then 2 else 0) (λG hi=>be G (id-1) hi) (lU ln fold l f d id g s))/\
 (∀d s,s.p<=l.length->0<=s.g->(∀x,eB ln fold l s.p=some x->x.t.kind≠0)->pC l s 2 (λG hi=>be G s.n hi) (oe ln fold l f d s))/\
 (∀k s lo,s.p<=l.length->0<=s.g->be s.g lo s.n k->pC l s 0 (λG hi=>be G lo hi) (iC ln fold l f k s))/\
 (∀d s,s.p<=l.length->0<=s.g->(∀x,eB ln fold l s.p=some x->x.t.kind≠0)->pC l s 2 (λG hi=>be G s.n hi) (oU ln fold l f d s))/\
 ∀d s,s.p<=l.length->0<=s.g->(∀x,eB ln fold l s.p=some x->x.t.kind=4)->pC l s 2 (λG hi=>be G s.n hi) (og ln fold l f d s):=by
 induction f with
 |zero=>exact⟨λ_ _ _ _=>trivial,λ_ _ _ _ _ _ _=>trivial,λ_ _ _ _=>trivial,λ_ _ _ _ _ _ _=>trivial,λ_ _ _ _ _=>trivial,λ_ _ _ _ _ _=>trivial,λ_ _ _ _ _=>trivial,λ_ _ _ _ _=>trivial⟩
 |succ f W=>
  obtain⟨N,I,S,K,X,L,T,M⟩:=W;refine⟨λd s e j=> ?_,λd id g s e j w=> ?_,λd s e j=> ?_,λd id g s e j w=> ?_,λd s e j z=> ?_,λk s lo e j w=> ?_,λd s e j z=> ?_,λd s e j z=> ?_⟩
  .unfold qY;refine(I d (s.n+1) [] ⟨s.p,s.n+1,s.g⟩ e j (by simp[bV])).from_ (Sx _) (by simp) (SL _) id λG hi a _ h=> ?_
   grind
  .unfold lV;refine qX (S d s e j) λk p r n B m u t=> ?_
   have D:bV p.g id p.n (g++[k]):=(bV.mono m (SL _) g w).push t;split;trivial;next x i=>
   split
   .next h=>
    have⟨Z,C⟩:=qi n i (by omega) (.inr (by omega));exact(I d id (g++[k]) ⟨x.p,p.n,p.g⟩ C (by grind) D).from_ (by grind) (by grind) m u λ_ _ _ _ h=>h
   .exact⟨r,n,B,m,u,by grind [be]⟩
  .unfold sL;exact(K d (s.n+1) [] ⟨s.p,s.n+1,s.g⟩ e j (by simp[bV])).from_ (Sx _) (by simp;omega) (SL _) id λG hi a _ h=>be.low (by omega) a h
  .unfold lU;have⟨c,F⟩:∃c,(if g.length=0 then(2:Int)else 0)=c:=⟨_,rfl⟩;rw[F];split;trivial;next x i=>
   split;split;trivial;split <;>first |trivial|next h=>exact⟨Sx _,e,by rw[if_neg h]at F;omega,SL _,λh=>h,by simp only[be];exact⟨by omega,w⟩⟩
   next z=>
   split <;>first |trivial|(refine qX (X d s e j λy A=>by cases i.symm.trans A<;>omega) λk p r n B m u t=> ?_;refine(K d id (g++[k]) p n (by omega) ((bV.mono m (SL _) g w).push t)).from_ r ?_ m u λ_ _ _ _ h=>h;rw[if_neg (by simp:¬ (g++[k]).length=0)];split at F<;>omega)
  .unfold oe;exact qX (T d s e j z) λk p r n B m u t=>(L k p s.n n (by omega) t).from_ r (by omega) m u λ_ _ _ _ h=>h
  .unfold iC;split;trivial;next x i=>
   split
   .split;trivial;next Z E=>
    have⟨C,v⟩:=qi e i (by omega) (.inl E);have q:=zW i;refine(L (.rep (s.n+1) k x.t.least x.t.most) ⟨x.p,s.n+1,s.g⟩ lo v j ?_).from_ (by dsimp only;omega) (by dsimp only;omega) (SL _) id λ_ _ _ _ h=>h
    simp only[be];exact⟨SL _,q.l0,q.l1,q.m1,by rw[show s.n+1-1=s.n from by omega];omega⟩
   .exact⟨Sx _,e,by omega,SL _,id,w⟩
  .unfold oU;split;trivial;next x i=>
   split;trivial;next E=>
   split;next m=>exact M d s e j λy A=>by cases i.symm.trans A;exact m
   have⟨C,v⟩:=qi e i (z x i) (.inl E);have q:=zW i;split;exact⟨by dsimp only;omega,v,by dsimp only;omega,SL _,id,by simp only[be];omega⟩;split <;>first |exact⟨by dsimp only;omega,v,by dsimp only;omega,SL _,id,by simp only[be];omega⟩|exact⟨by dsimp only;omega,v,by dsimp only;omega,SL _,id,by simp only[be];exact⟨by omega,by omega,q.b0,q.b1,q.b2,q.b3⟩⟩
  .unfold og;split;trivial;next x i=>
   split;trivial;next Q=>
   have R:=z x i;have⟨C,v⟩:=qi e i (by omega) (.inr (by omega));refine qX ((N (d+1) ⟨x.p,s.n+1,s.g+1⟩ v (by dsimp only;omega)).from_ (s:=s) (c':= -1+3) (W':=λG hi a=>s.g+1<=G/\be G (s.n+1) hi a) (by dsimp only;omega) (by dsimp only;omega) (by dsimp only;omega) (by dsimp only;omega) λG hi a r n=>⟨r,n⟩) λk p r n B m u t=> ?_
   split;trivial;next y A=>
   split
   .next h=>
    have⟨P,H⟩:=qi n A (by omega) (.inr (by omega));exact⟨by dsimp only;omega,H,by dsimp only;omega,m,u,by simp only[be];exact⟨by omega,by omega,t.1,t.2⟩⟩
   .trivial
end
structure je(nd:Nd)(G:Int):Prop where
 g0:0<=G
 g9:G<=9
 w:∃hi,hi<=400/\be G 0 hi nd
def N9{ln fold l c a}(i:l.length<=120)(h:xP ln fold l=some (.ok c a)):je c a.g:=by
 have:=(Nn (ln:=ln) (fold:=fold) (l:=l) (deep+8)).1 0 ⟨0,0,0⟩ (TZ _) (SL _);unfold xP at h;rw[h]at this;have⟨g,j,f,b,e,d⟩:=this;dsimp only at g f b e d;exact⟨b,e (by omega),a.n,by omega,d⟩
end
section
open Go.RowKit
structure ME where
 M:MT
 R:Nd
 m:Nat
 r:Nat
 sp:TG
 S:Nat->Prop
structure fu(E:ME):Prop where
 size:E.M.s.size<=300
 f:E.M.f<256
 e:E.M.e<256
 one:∀a∈subs E.R,∀b∈subs E.R,a.id=b.id->a=b
 id:∀a∈subs E.R,I64 a.id
 rep:∀i k l m,Nd.rep i k l m∈subs E.R->0<=l/\l<1000000/\m<1000000
 kids:∀i ks,Nd.seq i ks∈subs E.R->ks.length<1000000
 away:¬ E.S E.r
 low:∀b,E.S b->b<E.m
def Says(M:MT):Nd->Nat->Nat->Nat->Prop
 | .seq _ a,d,i,p=>p=dL M (a.drop d) i
 | .alt _ a,d,i,p=>p=iK M a i
 | .rep _ k l m,d,i,p=>p=dI M k l m d i
 |_,_,_,_=>False
def Says.one{M a d i p q}(h:Says M a d i p)(k:Says M a d i q):p=q:=by
 cases a<;>first |exact h.trans k.symm|exact h.elim
def C6(E:ME)(b:Array MapEntry):Prop:=∀e∈b.toList,∃a∈subs E.R,∃d i p:Nat,d<3000000/\i<=300/\e.key=kV a.id d i/\e.val=ep p/\Says E.M a d i p
structure cI(E:ME)(w:SG):Prop where
 blk:a7 w E.m 195 #[Uo E.M.s,AS .u8 E.M.f,AS .u8 E.M.e,.map (some E.r),E.sp]
 map:∃es clock,w.heap[E.r]?=some (Uj es clock)/\C6 E es
 root:∃v,Repr w E.S v E.R
def p9{n:Nat}(h:n<3000000):I64 n:=by
 have a:IntKind.i64.min= -9223372036854775808:=rfl;have b:IntKind.i64.max=9223372036854775807:=rfl;show(decide (IntKind.i64.min<=n)&&decide (n<=IntKind.i64.max))=true;rw[Ug,decide_eq_true_eq,decide_eq_true_eq];omega
def C6.keys{E a}(g:fu E)(h:C6 E a):C7 a:=λe f=>by
 have⟨j,k,d,i,p,b,l,c,_⟩:=h e f;exact⟨_,_,_,g.id j k,p9 b,p9 (by omega),c⟩
def cI.kq{E w w'}(h:cI E w)(d:Kq w.heap.size [] w w'):cI E w':=by
 have⟨g,a,e,f⟩:=h.map;have⟨v,i⟩:=h.root;exact⟨h.blk.kq d h.blk.lt Sy,⟨g,a,(d.kp.2 _ (SD.1 e).1 Sy).trans e,f⟩,v,i.keep λb _ c=>d.kp.2 b c Sy⟩
def xQ:(PM.info? 199).map (·.size)=some 5:=by kernel_rfl
def uQ:∃n e,PM.underlying 199=some (.array n e):=⟨_,_,(congrFun (aK ..) _).trans Tryz.underlying199⟩
def cO{fn p}(h:fn.results=#[.cell p 199]){R a w g b f e c i}(l:a.tmps.getD p undef=Su (some ⟨g,0,none⟩))(j:a7 w g 199 #[b,f,e,c,i])(k:a.defers=[])
 (m:R (SI (SV #[b,f,e,c,i])) w):bodyPost PM fn R .ret a w:=by
 have⟨n,d,q⟩:=uQ;exact bodyPost_ret (results_cell_row h a.tmps w g _ _ _ _ l j q rfl xQ) k m
def dc{w g q d c e a b}(h:a7 w g 199 #[d,c,e,a,b]):
 a7 (((((w.setCell ⟨g,0,none⟩ (AS Sw (wz q.testBit 0))).setCell ⟨g,1,none⟩ (AS Sw (wz q.testBit 1))).setCell ⟨g,2,none⟩ (AS Sw (wz q.testBit 2))).setCell ⟨g,3,none⟩ (AS Sw (wz q.testBit 3))).setCell ⟨g,4,none⟩ (AS Sw (wz q.testBit 4))) g 199 (cR q):=by
 have:=((((h.bI 0 (AS Sw (wz q.testBit 0))).bI 1 (AS Sw (wz q.testBit 1))).bI 2 (AS Sw (wz q.testBit 2))).bI 3 (AS Sw (wz q.testBit 3))).bI 4 (AS Sw (wz q.testBit 4));simp[List.setIfInBounds_toArray]at this;exact this
def ba{w}{g q B:Nat}{X c}(h:Kq B X c w)(d:g<B->g∈X):
 Kq B X c (((((w.setCell ⟨g,0,none⟩ (AS Sw (wz q.testBit 0))).setCell ⟨g,1,none⟩ (AS Sw (wz q.testBit 1))).setCell ⟨g,2,none⟩ (AS Sw (wz q.testBit 2))).setCell ⟨g,3,none⟩ (AS Sw (wz q.testBit 3))).setCell ⟨g,4,none⟩ (AS Sw (wz q.testBit 4))):=by
 have a:∀i,(⟨g,i,none⟩:Addr).block<B->(⟨g,i,none⟩:Addr).block∈X:=λi b=>d b
 exact((((h.setCell (a 0) _).setCell (a 1) _).setCell (a 2) _).setCell (a 3) _).setCell (a 4) _
def cI.hZ{E w w'}(l:fu E)(h:cI E w){X}(hX:∀x∈X,x≠E.m/\x≠E.r/\¬ E.S x)(d:Kq w.heap.size X w w'):cI E w':=by
 have⟨j,a,f,k⟩:=h.map;have⟨v,g⟩:=h.root;exact⟨h.blk.kq d h.blk.lt λc=>(hX _ c).1 rfl,⟨j,a,(d.kp.2 _ (SD.1 f).1 λc=>(hX _ c).2.1 rfl).trans f,k⟩,v,g.keep λb i e=>d.kp.2 b e λc=>(hX _ c).2.2 i⟩
def y7{E}(T:fu E){I}(hn:I∈subs E.R){d i p}(hd:d<3000000)(hi:i<=300)(hp:Says E.M I d i p)(B:Nat)(cap w)
 (hcall:∀args w,(U7 B args).run PM w=SZ (TH B args) w)
 (hM:cI E w) (hw:∀w1,Kq w.heap.size [] w w1->cI E w1->Calls PM B cap w1 λe w'=>e=SI (ep p)/\cI E w'/\Kq w1.heap.size [E.r] w1 w'):
 Calls PM 233 #[Su (some ⟨E.m,0,none⟩),kV I.id d i,.func (.func B) #[] cap] w λe w'=>e=SI (ep p)/\cI E w'/\Kq w.heap.size [E.r] w w':=by
 have⟨es,n,hm,Z⟩:=hM.map;have hid:=T.id I hn;have f:(∀w:SG,w.heap[E.r]?=some (Uj es n)->(TS 193 (.map (some E.r)) (kV I.id d i) true).run PM w=SZ (SX #[ep 0,Tg false]) w)\/
  ∀w:SG,w.heap[E.r]?=some (Uj es n)->(TS 193 (.map (some E.r)) (kV I.id d i) true).run PM w=SZ (SX #[ep p,Tg true]) w:=by
  have hl:=λ(w:SG) R=>Hl (w:=w) (r:=E.r) (es:=es) (clock:=n) R (Z.keys T) hid (p9 hd) (p9 (by omega:i<3000000))
  by_cases G:∃e∈es.toList,e.key=kV I.id d i
  .have⟨e,he,hek⟩:=G;refine .inr λw R=> ?_
   rcases hl w R with⟨_,h⟩|⟨e1,h1,h2,h3⟩
   .exact absurd hek (h e he)
   .have⟨nd',hn',d',i',p',_,_,hk,hv,hs⟩:=Z e1 h1;rw[hk]at h2;have h4:nd'.id=I.id/\(d':Int)=d/\(i':Int)=i:=by simpa[kV]using h2
    obtain rfl:=T.one nd' hn' I hn h4.1;obtain rfl:d'=d:=by omega
    obtain rfl:i'=i:=by omega
    rw[h3,hv,hs.one hp]
  .refine .inl λw R=> ?_
   rcases hl w R with⟨h,_⟩|⟨e1,h1,h2,h3⟩
   .exact h
   .exact absurd ⟨e1,h1,h2⟩ G
 generalize hia:I.id=a at *;replace hia:=AI hia;unfold kV;go_enter PM.func Tryz.func233 (by decide),Tryz.ntmps233
 go_wp2;have k1:Kq w.heap.size [] w ((w.alloc (Sz #[AS SC a,AS SC d,AS SC i] 327)).alloc (Sz #[AS Sw 0,AS Sw 0,AS Sw 0,AS Sw 0,AS Sw 0] 199)):=((Kq.refl w).alloc (Sx _) _).alloc (Sx _) _;have b1:a7 ((w.alloc (Sz #[AS SC a,AS SC d,AS SC i] 327)).alloc (Sz #[AS Sw 0,AS Sw 0,AS Sw 0,AS Sw 0,AS Sw 0] 199)) w.heap.size 327 #[AS SC a,AS SC d,AS SC i]:=(a7.new w 327 _).alloc _;have b2:a7 ((w.alloc (Sz #[AS SC a,AS SC d,AS SC i] 327)).alloc (Sz #[AS Sw 0,AS Sw 0,AS Sw 0,AS Sw 0,AS Sw 0] 199)) (w.heap.size+1) 199 #[AS Sw 0,AS Sw 0,AS Sw 0,AS Sw 0,AS Sw 0]:=a7.new2 ..;have hsz:((w.alloc (Sz #[AS SC a,AS SC d,AS SC i] 327)).alloc (Sz #[AS Sw 0,AS Sw 0,AS Sw 0,AS Sw 0,AS Sw 0] 199)).heap.size=w.heap.size+2:=by simp
 have F:=hM.kq k1;have D:=(k1.kp.2 _ (SD.1 hm).1 Sy).trans hm;generalize (w.alloc (Sz #[AS SC a,AS SC d,AS SC i] 327)).alloc (Sz #[AS Sw 0,AS Sw 0,AS Sw 0,AS Sw 0,AS Sw 0] 199)=k at *;have c3:k.cell? ⟨E.m,3,none⟩=some (.map (some E.r)):=F.blk.cell 3;have q0:k.cell? ⟨w.heap.size,0,none⟩=some (AS SC a):=b1.cell 0;have q1:k.cell? ⟨w.heap.size,1,none⟩=some (AS SC d):=b1.cell 1;have q2:k.cell? ⟨w.heap.size,2,none⟩=some (AS SC i):=b1.cell 2;have hlt:=F.blk.lt;have hm2:(k.alloc (Sz #[AS Sw 0,AS Sw 0,AS Sw 0,AS Sw 0,AS Sw 0] 199)).heap[E.r]?=some (Uj es n):=(Below.heap_alloc _ _ _ (SD.1 D).1).trans D;have hlt2:w.heap.size<k.heap.size:=b1.lt;replace F:=AI F;replace D:=AI D;replace hM:=AI hM;replace hm:=AI hm;replace k1:=AI k1;replace b1:=AI b1;replace b2:=AI b2;replace hsz:=AI hsz;replace Z:=AI Z;replace hw:=AI hw;rcases f with f|f
 .have l1:=f k.drew D.out;have l2:=f (k.alloc (Sz #[AS Sw 0,AS Sw 0,AS Sw 0,AS Sw 0,AS Sw 0] 199)).drew hm2;unfold kV ep cR fU at l1 l2;go_region
  all_goals
   go_wp2;have m:Kq k.heap.size [] k (k.alloc (Sz #[AS Sw (wz (SF 0) 0),AS Sw (wz (SF 0) 1),AS Sw (wz (SF 0) 2),AS Sw (wz (SF 0) 3),AS Sw (wz (SF 0) 4)] 199)).drew:=((Kq.refl _).alloc (Sx _) _).drew;generalize (k.alloc (Sz #[AS Sw (wz (SF 0) 0),AS Sw (wz (SF 0) 1),AS Sw (wz (SF 0) 2),AS Sw (wz (SF 0) 3),AS Sw (wz (SF 0) 4)] 199)).drew=WX at m ⊢;have kx:Kq w.heap.size [] w WX:=k1.out.trans (m.mono k1.out.kp.1 λ_ h _=>h);refine(hw.out WX kx (F.out.kq m)).mono ?_;rintro e s ⟨rfl,hM4,k4⟩;have hsx:k.heap.size<=WX.heap.size:=m.kp.1;have hne:∀b,w.heap.size<=b->b∉[E.r]:=λb R G=>by
    obtain rfl:=Sv.1 G;have:=(SD.1 hm.out).1;omega
   have Q:=(b1.out.kq m b1.out.lt Sy).kq k4 (Tu b1.out.lt hsx) (hne _ (Sx _));have S:=(b2.out.kq m b2.out.lt Sy).kq k4 (Tu b2.out.lt hsx) (hne _ (UH _));have P:Kq w.heap.size [E.r] w s:=(kx.mono (Sx _) nofun).trans (k4.mono kx.kp.1 λ_ h _=>h);have⟨es4,clock4,hm4,C⟩:=hM4.map;replace hM4:=AI hM4;replace hm4:=AI hm4;replace C:=AI C;replace P:=AI P;replace Q:=AI Q;replace S:=AI S;unfold ep cR fU;go_wp2;have W:Kq s.heap.size [] s (s.alloc (Sz #[AS Sw (wz p.testBit 0),AS Sw (wz p.testBit 1),AS Sw (wz p.testBit 2),AS Sw (wz p.testBit 3),AS Sw (wz p.testBit 4)] 199)):=(Kq.refl _).alloc (Sx _) _;have L:a7 (s.alloc (Sz #[AS Sw (wz p.testBit 0),AS Sw (wz p.testBit 1),AS Sw (wz p.testBit 2),AS Sw (wz p.testBit 3),AS Sw (wz p.testBit 4)] 199)) s.heap.size 199 (cR p):=a7.new s 199 _;generalize s.alloc (Sz #[AS Sw (wz p.testBit 0),AS Sw (wz p.testBit 1),AS Sw (wz p.testBit 2),AS Sw (wz p.testBit 3),AS Sw (wz p.testBit 4)] 199)=y at W L ⊢;have K:=(W.kp.2 _ (SD.1 hm4.out).1 Sy).trans hm4.out;have A:=hM4.out.kq W;have⟨H,g,hput,N⟩:=JS (w:=y.drew) (v:=SV #[AS Sw (wz p.testBit 0),AS Sw (wz p.testBit 1),AS Sw (wz p.testBit 2),AS Sw (wz p.testBit 3),AS Sw (wz p.testBit 4)]) K (C.out.keys T) hid (p9 hd) (p9 (by omega:i<3000000));replace Q:=Q.out.kq W Q.out.lt Sy;replace S:=S.out.kq W S.out.lt Sy;have g0:y.cell? ⟨w.heap.size,0,none⟩=some (AS SC a):=Q.cell 0;have g1:y.cell? ⟨w.heap.size,1,none⟩=some (AS SC d):=Q.cell 1;have g2:y.cell? ⟨w.heap.size,2,none⟩=some (AS SC i):=Q.cell 2;have g3:y.cell? ⟨E.m,3,none⟩=some (.map (some E.r)):=A.blk.cell 3;have p0:y.cell? ⟨s.heap.size,0,none⟩=some (AS Sw (wz p.testBit 0)):=L.cell 0;have p1:y.cell? ⟨s.heap.size,1,none⟩=some (AS Sw (wz p.testBit 1)):=L.cell 1;have p2:y.cell? ⟨s.heap.size,2,none⟩=some (AS Sw (wz p.testBit 2)):=L.cell 2;have p3:y.cell? ⟨s.heap.size,3,none⟩=some (AS Sw (wz p.testBit 3)):=L.cell 3;have p4:y.cell? ⟨s.heap.size,4,none⟩=some (AS Sw (wz p.testBit 4)):=L.cell 4;replace A:=AI A;replace K:=AI K;replace W:=AI W;replace Q:=AI Q;replace S:=AI S;replace L:=AI L;replace N:=AI N;unfold kV at hput;go_region
   have k6:Kq y.heap.size [E.r] y (y.drew.putObj E.r (Uj H g)):=((Kq.refl _).drew).put (λ_=>Sv.2 rfl) _;have hm6:(y.drew.putObj E.r (Uj H g)).heap[E.r]?=some (Uj H g):=TW (SD.1 K.out).1;generalize y.drew.putObj E.r (Uj H g)=l at k6 hm6 ⊢;have hmr:∀b t c,a7 y b t c->b∉[E.r]:=λb t c R G=>by
    obtain rfl:=Sv.1 G;exact absurd (R.symm.trans K.out) (by simp)
   have M:cI E l:=by
    have⟨v,hv⟩:=A.out.root;refine⟨A.out.blk.kq k6 A.out.blk.lt (hmr _ _ _ A.out.blk),⟨H,g,hm6,λe he=> ?_⟩,v,hv.keep λb R hlt=>k6.kp.2 b hlt λG=> ?_⟩
    .rcases N.out e he with h|⟨h1,h2⟩
     .exact C.out e h
     .exact⟨I,hn,d,i,p,hd,hi,by rw[h1,hia.out],h2,hp⟩
    .obtain rfl:=Sv.1 G;exact T.away R
   have q:=S.out.kq k6 S.out.lt (hmr _ _ _ S.out);have u:=L.out.kq k6 L.out.lt (hmr _ _ _ L.out);have z:Kq w.heap.size [E.r] w l:=(P.out.trans (W.out.mono P.out.kp.1 nofun)).trans (k6.mono (TC P.out.kp.1 W.out.kp.1) λ_ h _=>h);replace M:=AI M;replace z:=AI z;have f7:∀j,l.frozen? ⟨w.heap.size+1,j,none⟩=false:=q.frozen;have p0:l.cell? ⟨s.heap.size,0,none⟩=some (AS Sw (wz p.testBit 0)):=u.cell 0;have p1:l.cell? ⟨s.heap.size,1,none⟩=some (AS Sw (wz p.testBit 1)):=u.cell 1;have p2:l.cell? ⟨s.heap.size,2,none⟩=some (AS Sw (wz p.testBit 2)):=u.cell 2;have p3:l.cell? ⟨s.heap.size,3,none⟩=some (AS Sw (wz p.testBit 3)):=u.cell 3;have p4:l.cell? ⟨s.heap.size,4,none⟩=some (AS Sw (wz p.testBit 4)):=u.cell 4;have r0:l.cell? ⟨w.heap.size+1,0,none⟩=some (AS Sw 0):=q.cell 0;have r1:l.cell? ⟨w.heap.size+1,1,none⟩=some (AS Sw 0):=q.cell 1;have r2:l.cell? ⟨w.heap.size+1,2,none⟩=some (AS Sw 0):=q.cell 2;have r3:l.cell? ⟨w.heap.size+1,3,none⟩=some (AS Sw 0):=q.cell 3;have r4:l.cell? ⟨w.heap.size+1,4,none⟩=some (AS Sw 0):=q.cell 4;replace q:=AI q;replace u:=AI u;go_wp2;have hlo:=hM.out.blk.lt;have hlr:=(SD.1 hm.out).1;refine cO rfl rfl (dc q.out) rfl ⟨rfl,M.out.hZ T (X:=[w.heap.size+1]) (λx G=> ?_) (ba (Kq.refl _) λ_=>Sv.2 rfl),ba z.out λh=>absurd h (by omega)⟩;obtain rfl:=Sv.1 G;exact⟨by omega,by omega,λh=>by have:=T.low _ h;omega⟩
 .have l1:=f k.drew D.out;have l2:=f (k.alloc (Sz #[AS Sw 0,AS Sw 0,AS Sw 0,AS Sw 0,AS Sw 0] 199)).drew hm2;unfold kV ep cR fU at l1 l2;go_region
  all_goals
   have m:Kq k.heap.size [] k (k.alloc (Sz #[AS Sw (wz p.testBit 0),AS Sw (wz p.testBit 1),AS Sw (wz p.testBit 2),AS Sw (wz p.testBit 3),AS Sw (wz p.testBit 4)] 199)).drew:=((Kq.refl _).alloc (Sx _) _).drew;have u:a7 (k.alloc (Sz #[AS Sw (wz p.testBit 0),AS Sw (wz p.testBit 1),AS Sw (wz p.testBit 2),AS Sw (wz p.testBit 3),AS Sw (wz p.testBit 4)] 199)).drew k.heap.size 199 (cR p):=a7.new k 199 _;generalize (k.alloc (Sz #[AS Sw (wz p.testBit 0),AS Sw (wz p.testBit 1),AS Sw (wz p.testBit 2),AS Sw (wz p.testBit 3),AS Sw (wz p.testBit 4)] 199)).drew=l at m u ⊢;have M:=AI (F.out.kq m);have z:Kq w.heap.size [E.r] w l:=(k1.out.trans (m.mono k1.out.kp.1 λ_ h _=>h)).mono (Sx _) nofun;replace z:=AI z;have q:=b2.out.kq m b2.out.lt Sy;have f7:∀j,l.frozen? ⟨w.heap.size+1,j,none⟩=false:=q.frozen;have p0:l.cell? ⟨k.heap.size,0,none⟩=some (AS Sw (wz p.testBit 0)):=u.cell 0;have p1:l.cell? ⟨k.heap.size,1,none⟩=some (AS Sw (wz p.testBit 1)):=u.cell 1;have p2:l.cell? ⟨k.heap.size,2,none⟩=some (AS Sw (wz p.testBit 2)):=u.cell 2;have p3:l.cell? ⟨k.heap.size,3,none⟩=some (AS Sw (wz p.testBit 3)):=u.cell 3;have p4:l.cell? ⟨k.heap.size,4,none⟩=some (AS Sw (wz p.testBit 4)):=u.cell 4;have r0:l.cell? ⟨w.heap.size+1,0,none⟩=some (AS Sw 0):=q.cell 0;have r1:l.cell? ⟨w.heap.size+1,1,none⟩=some (AS Sw 0):=q.cell 1;have r2:l.cell? ⟨w.heap.size+1,2,none⟩=some (AS Sw 0):=q.cell 2;have r3:l.cell? ⟨w.heap.size+1,3,none⟩=some (AS Sw 0):=q.cell 3;have r4:l.cell? ⟨w.heap.size+1,4,none⟩=some (AS Sw 0):=q.cell 4;replace q:=AI q;replace u:=AI u;go_wp2;have hlo:=hM.out.blk.lt;have hlr:=(SD.1 hm.out).1;refine cO rfl rfl (dc q.out) rfl ⟨rfl,M.out.hZ T (X:=[w.heap.size+1]) (λx G=> ?_) (ba (Kq.refl _) λ_=>Sv.2 rfl),ba z.out λh=>absurd h (by omega)⟩;obtain rfl:=Sv.1 G;exact⟨by omega,by omega,λh=>by have:=T.low _ h;omega⟩
def Lk{e g d f}(h0:0<=e/\e<18446744073709551616)(m:0<=g/\g<18446744073709551616)(n:0<=d/\d<18446744073709551616)(l:0<=f/\f<18446744073709551616):
 ∃S,(∀c,c<256->S c=iw e g d f c)/\e=wz S 0/\g=wz S 1/\d=wz S 2/\f=wz S 3:=by
 have a:∀(k:Nat)(b:Int),0<=b/\b<18446744073709551616->(∀j,j<64->b.toNat.testBit j=iw e g d f (64*k+j))->b=wz (iw e g d f) k:=λk b p h=>by
  have:=oN (iw e g d f) k b.toNat (by omega) h;unfold wz;omega
 refine⟨iw e g d f,λ_ _=>rfl,a 0 e h0 λj i=> ?_,a 1 g m λj i=> ?_,a 2 d n λj i=> ?_,a 3 f l λj i=> ?_⟩;unfold iw;rw[if_pos (by omega),show(64*0+j)%64=j from by omega];unfold iw;rw[if_neg (by omega),if_pos (by omega),show(64*1+j)%64=j from by omega];unfold iw;rw[if_neg (by omega),if_neg (by omega),if_pos (by omega),show(64*2+j)%64=j from by omega];unfold iw;rw[if_neg (by omega),if_neg (by omega),if_neg (by omega),show(64*3+j)%64=j from by omega]
def u8_and63:∀n:Nat,n<256->bits .and .u8 (n:Int) 63=((n%64:Nat):Int):=by decide+kernel
def BU(S)(c:Nat)(g:c<256)(w):
 Calls PM 66 #[kL S,AS .u8 c] w λe h=>e=SI (Tg (S c))/\Kq w.heap.size [] w h:=by
 obtain⟨i,j,b,rfl⟩:∃a j,j<64/\c=64*a+j:=⟨c/64,c%64,UQ _ (by decide),by omega⟩;have l:=Jm i j b;have n:bits .and .u8 (64*i+j:Int) 63=j:=by
  have:=u8_and63 (64*i+j) g;rw[show(64*i+j)%64=j from by omega]at this;push_cast at this
  exact this
 have d:=G5 S i j b;have f:((2^j:Nat):Int)=2^j:=by norm_cast
 rw[f]at d;have k:(w.alloc (Sz (words S) 77)).cell? ⟨w.heap.size,i,none⟩=some (AS Sw (wz S i)):=eu (a7.new w 77 _) (by omega);have m:=lh S i;unfold kL;go_enter PM.func Tryz.func66 (by decide),Tryz.ntmps66
 unfold words at *;go_wp2;all_goals
  go_ret;exact⟨by simp[*],(Kq.refl w).alloc (Sx _) _⟩
def dz:cR 0=#[AS Sw 0,AS Sw 0,AS Sw 0,AS Sw 0,AS Sw 0]:=by
 have:SF 0=co:=funext λx=>Nat.zero_testBit x
 simp_all[qd,fU]
def iH(E:ME)(i p:Nat)(w:SG)(e:Ending)(a:SG):Prop:=e=SI (ep p)/\cI E a/\Kq w.heap.size [E.r] w a
def CL{E}(B:fu E){id I H G K q i w}(h0:0<=I/\I<18446744073709551616)(h1:0<=H/\H<18446744073709551616)(h2:0<=G/\G<18446744073709551616)(h3:0<=K/\K<18446744073709551616)
 (D:cI E w) (P:a7 w q 298 #[AS SC id,AS Sw I,AS Sw H,AS Sw G,AS Sw K]) (hi:i<=E.M.s.size):
 Calls PM 251 #[Su (some ⟨q,0,none⟩),Su (some ⟨E.m,0,none⟩),AS SC i] w (iH E i (bv E.M (.set id I H G K) i) w):=by
 rw[bv];obtain⟨S,hS,rfl,rfl,rfl,rfl⟩:=Lk h0 h1 h2 h3;have hsz:=B.size;have hlm:=D.blk.lt;have L:=P.lt;have Z:=dz;have n:Kq w.heap.size [] w (w.alloc (Sz #[AS Sw 0,AS Sw 0,AS Sw 0,AS Sw 0,AS Sw 0] 199)):=(Kq.refl w).alloc (Sx _) _;have z:a7 (w.alloc (Sz #[AS Sw 0,AS Sw 0,AS Sw 0,AS Sw 0,AS Sw 0] 199)) w.heap.size 199 (cR 0):=by rw[Z];exact a7.new w 199 _
 have d:=D.kq n;have a:=P.kq n L Sy;have hlr:=(SD.1 D.map.choose_spec.choose_spec.1).1;have l:Hid (w.heap.size≠E.m/\w.heap.size≠E.r/\¬ E.S w.heap.size):=AI ⟨by omega,by omega,λh=>by have:=B.low _ h;omega⟩;replace D:=AI D;replace n:=AI n;replace z:=AI z;by_cases k:i<E.M.s.size
 .have hg:E.M.s.get! i=E.M.s[i]:=by
   show E.M.s.data[i]! =_;rw[getElem!_pos E.M.s.data i k];rfl
  have M:=E.M.s[i].toNat_lt;rw[hg,<- hS _ M];have A:=BU S E.M.s[i].toNat M;unfold kL at A;generalize s:E.M.s[i].toNat=c at A M ⊢;replace s:=AI s;by_cases N:S c=true
  .rw[N]at A;rw[if_pos (by simp[k,N])];go_enter PM.func Tryz.func251 (by decide),Tryz.ntmps251
   go_wp2;generalize w.alloc (Sz #[AS Sw 0,AS Sw 0,AS Sw 0,AS Sw 0,AS Sw 0] 199)=b at *;have m:=AI d.blk;replace a:=AI a;replace d:=AI d;have c0:b.cell? ⟨E.m,0,none⟩=some (Uo E.M.s):=m.out.cell 0;have s1:b.cell? ⟨q,1,none⟩=some (AS Sw (wz S 0)):=a.out.cell 1;have R:b.cell? ⟨q,2,none⟩=some (AS Sw (wz S 1)):=a.out.cell 2;have s3:b.cell? ⟨q,3,none⟩=some (AS Sw (wz S 2)):=a.out.cell 3;have s4:b.cell? ⟨q,4,none⟩=some (AS Sw (wz S 3)):=a.out.cell 4;go_still_tail 18,by kernel_rfl
   change wpList _ _ _ _ _ b.drew;rw[s.out]at *;go_wp2_with (first |(go_at_call 66;refine(A _).mono ?_;rintro e p ⟨rfl,g⟩)|fail)
   replace g:Kq b.heap.size [] b p:=⟨g.kp,g.os,g.out⟩;have n2:=z.out.kq g z.out.lt Sy;have hA:=oW w.heap.size (i+1) 0 p (by omega) n2;rw[show((i+1:Nat):Int)=(i:Int)+1 from by push_cast;rfl,Tq]at hA;refine hA.mono ?_;rintro e y ⟨rfl,f,k3⟩;have kk:Kq w.heap.size [E.r] w y:=((n.out.trans (g.mono n.out.kp.1 nofun)).mono (Sx _) nofun).trans (k3.mono (TC n.out.kp.1 g.kp.1) λx r k=>absurd k (by rw[Sv.1 r];exact T4 _));have v:=(d.out.kq g).hZ B (X:=[w.heap.size]) (λx r=>by rw[Sv.1 r];exact l.out) k3;replace v:=AI v;replace f:=AI f;have C:=AI kk;have fz:∀j,y.frozen? ⟨w.heap.size,j,none⟩=false:=f.out.frozen;have r0:y.cell? ⟨w.heap.size,0,none⟩=some (AS Sw (wz (1<<<(i+1)).testBit 0)):=f.out.cell 0;have r1:y.cell? ⟨w.heap.size,1,none⟩=some (AS Sw (wz (1<<<(i+1)).testBit 1)):=f.out.cell 1;have r2:y.cell? ⟨w.heap.size,2,none⟩=some (AS Sw (wz (1<<<(i+1)).testBit 2)):=f.out.cell 2;have r3:y.cell? ⟨w.heap.size,3,none⟩=some (AS Sw (wz (1<<<(i+1)).testBit 3)):=f.out.cell 3;have r4:y.cell? ⟨w.heap.size,4,none⟩=some (AS Sw (wz (1<<<(i+1)).testBit 4)):=f.out.cell 4;go_wp2;refine cO rfl rfl (dc f.out) rfl ⟨rfl,v.out.hZ B (X:=[w.heap.size]) (λx r=> ?_) (ba (Kq.refl _) λ_=>Sv.2 rfl),ba C.out λh=>absurd h (by omega)⟩;obtain rfl:=Sv.1 r;exact l.out
  .have F:S c=false:=by simpa using N
   rw[F]at A;rw[if_neg (by simp[F])];go_enter PM.func Tryz.func251 (by decide),Tryz.ntmps251
   go_wp2;generalize w.alloc (Sz #[AS Sw 0,AS Sw 0,AS Sw 0,AS Sw 0,AS Sw 0] 199)=b at *;have m:=AI d.blk;replace a:=AI a;replace d:=AI d;have c0:b.cell? ⟨E.m,0,none⟩=some (Uo E.M.s):=m.out.cell 0;have s1:b.cell? ⟨q,1,none⟩=some (AS Sw (wz S 0)):=a.out.cell 1;have R:b.cell? ⟨q,2,none⟩=some (AS Sw (wz S 1)):=a.out.cell 2;have s3:b.cell? ⟨q,3,none⟩=some (AS Sw (wz S 2)):=a.out.cell 3;have s4:b.cell? ⟨q,4,none⟩=some (AS Sw (wz S 3)):=a.out.cell 4;go_still_tail 18,by kernel_rfl
   change wpList _ _ _ _ _ b.drew;rw[s.out]at *;go_wp2_with (first |(go_at_call 66;refine(A _).mono ?_;rintro e p ⟨rfl,g⟩;replace g:Kq b.heap.size [] b p:=⟨g.kp,g.os,g.out⟩;have f:=AI (z.out.kq g z.out.lt Sy);have v:=AI (d.out.kq g);have C:=AI ((n.out.trans (g.mono n.out.kp.1 nofun)).mono (Sx _) nofun:Kq w.heap.size [E.r] w p);have fz:∀j,p.frozen? ⟨w.heap.size,j,none⟩=false:=f.out.frozen;have r0:p.cell? ⟨w.heap.size,0,none⟩=some (AS Sw (wz (SF 0) 0)):=f.out.cell 0;have r1:p.cell? ⟨w.heap.size,1,none⟩=some (AS Sw (wz (SF 0) 1)):=f.out.cell 1;have r2:p.cell? ⟨w.heap.size,2,none⟩=some (AS Sw (wz (SF 0) 2)):=f.out.cell 2;have r3:p.cell? ⟨w.heap.size,3,none⟩=some (AS Sw (wz (SF 0) 3)):=f.out.cell 3;have r4:p.cell? ⟨w.heap.size,4,none⟩=some (AS Sw (wz (SF 0) 4)):=f.out.cell 4;clear g)|fail)
   refine cO rfl rfl (dc f.out) rfl ⟨rfl,v.out.hZ B (X:=[w.heap.size]) (λx r=> ?_) (ba (Kq.refl _) λ_=>Sv.2 rfl),ba C.out λh=>absurd h (by omega)⟩;obtain rfl:=Sv.1 r;exact l.out
 .rw[if_neg (by simp[k])];have hd1:decide (i<E.M.s.size)=false:=by simpa using k
  have hd2:decide ((i:Int)<(E.M.s.size:Int))=false:=by simpa using k
  have hd3:¬ (i:Int)<(E.M.s.size:Int):=by omega
  go_enter PM.func Tryz.func251 (by decide),Tryz.ntmps251
  go_wp2;generalize w.alloc (Sz #[AS Sw 0,AS Sw 0,AS Sw 0,AS Sw 0,AS Sw 0] 199)=b at *;have m:=AI d.blk;replace a:=AI a;replace d:=AI d;have c0:b.cell? ⟨E.m,0,none⟩=some (Uo E.M.s):=m.out.cell 0;have s1:b.cell? ⟨q,1,none⟩=some (AS Sw (wz S 0)):=a.out.cell 1;have R:b.cell? ⟨q,2,none⟩=some (AS Sw (wz S 1)):=a.out.cell 2;have s3:b.cell? ⟨q,3,none⟩=some (AS Sw (wz S 2)):=a.out.cell 3;have s4:b.cell? ⟨q,4,none⟩=some (AS Sw (wz S 3)):=a.out.cell 4;go_quiet (fail)
  have Q:Kq b.heap.size [] b (b.drewN nq):=(Kq.refl _).drewN _;have t:a7 (b.drewN nq) w.heap.size 199 (cR 0):=z.out;generalize b.drewN nq=u at *;have fz:∀j,u.frozen? ⟨w.heap.size,j,none⟩=false:=t.frozen;have r0:u.cell? ⟨w.heap.size,0,none⟩=some (AS Sw (wz (SF 0) 0)):=t.cell 0;have r1:u.cell? ⟨w.heap.size,1,none⟩=some (AS Sw (wz (SF 0) 1)):=t.cell 1;have r2:u.cell? ⟨w.heap.size,2,none⟩=some (AS Sw (wz (SF 0) 2)):=t.cell 2;have r3:u.cell? ⟨w.heap.size,3,none⟩=some (AS Sw (wz (SF 0) 3)):=t.cell 3;have r4:u.cell? ⟨w.heap.size,4,none⟩=some (AS Sw (wz (SF 0) 4)):=t.cell 4;have v:=AI (d.out.kq Q);have C:=AI ((n.out.trans (Q.mono n.out.kp.1 nofun)).mono (Sx _) nofun:Kq w.heap.size [E.r] w u);have f:=AI t;go_wp2;refine cO rfl rfl (dc f.out) rfl ⟨rfl,v.out.hZ B (X:=[w.heap.size]) (λx r=> ?_) (ba (Kq.refl _) λ_=>Sv.2 rfl),ba C.out λh=>absurd h (by omega)⟩;obtain rfl:=Sv.1 r;exact l.out
theorem JR:∀n,n<256->(n&&&2==0)=decide (n/2%2=0):=by decide+kernel
theorem Hi:∀n,n<256->(n&&&2 !=0)=decide (n/2%2=1):=by decide+kernel
def get_at(s:ByteArray)(i:Nat)(h):s.get! i=s[i]:=by
 show s.data[i]! =_;rw[getElem!_pos s.data i h];rfl
def FE{M i}(b:M.f<256)(a:M.e<256)(c:i<=M.s.size):wG M false i=(decide (i=0)&&decide (M.e%2=0)||decide (M.f/2%2=1)&&decide (0<i)&&M.s.get! (i-1)==10):=by
 grind [Hi,wG]
def Ks{M i}(b:M.f<256)(a:M.e<256)(c:i<=M.s.size):wG M true i=(decide (i=M.s.size)&&decide (M.e/2%2=0)||decide (M.f/2%2=1)&&decide (i<M.s.size)&&M.s.get! i==10):=by
 grind [JR,wG]
def BF{E}(p:fu E){id H q i w}(Q:cI E w)(S:a7 w q 295 #[AS SC id,Tg H])(hi:i<=E.M.s.size):
 Calls PM 248 #[Su (some ⟨q,0,none⟩),Su (some ⟨E.m,0,none⟩),AS SC i] w (iH E i (bv E.M (.edge id H) i) w):=by
 rw[bv];have hsz:=p.size;have hlm:=Q.blk.lt;have hlq:=S.lt;have Z:=dz;have m:Kq w.heap.size [] w (w.alloc (Sz #[AS Sw 0,AS Sw 0,AS Sw 0,AS Sw 0,AS Sw 0] 199)):=(Kq.refl w).alloc (Sx _) _;have t:a7 (w.alloc (Sz #[AS Sw 0,AS Sw 0,AS Sw 0,AS Sw 0,AS Sw 0] 199)) w.heap.size 199 (cR 0):=by rw[Z];exact a7.new w 199 _
 clear Z;have g:=AI (Q.kq m);have hB1:=AI (S.kq m hlq Sy);have hlr:=(SD.1 Q.map.choose_spec.choose_spec.1).1;have c:Hid (w.heap.size≠E.m/\w.heap.size≠E.r/\¬ E.S w.heap.size):=AI ⟨by omega,by omega,λh=>by have:=p.low _ h;omega⟩;have T:bits .and .u8 (E.M.e:Int) 1=if E.M.e%2=1 then 1 else 0:=Dr _ p.e
 have R:bits .and .u8 (E.M.e:Int) 2=if E.M.e/2%2=1 then 2 else 0:=tA _ p.e
 have G:bits .and .u8 (E.M.f:Int) 2=if E.M.f/2%2=1 then 2 else 0:=tA _ p.f
 have L:=FE p.f p.e hi;have K:=Ks p.f p.e hi;have M:=AI Q;have hB':=AI S;clear hlr Q S;replace m:=AI m;replace t:=AI t;have c0:w.cell? ⟨E.m,0,none⟩=some (Uo E.M.s):=M.out.blk.cell 0;have c1:w.cell? ⟨E.m,1,none⟩=some (AS .u8 E.M.f):=M.out.blk.cell 1;have c2:w.cell? ⟨E.m,2,none⟩=some (AS .u8 E.M.e):=M.out.blk.cell 2;have s1:w.cell? ⟨q,1,none⟩=some (Tg H):=hB'.out.cell 1;have v:∀N,a7 N w.heap.size 199 (cR 0)->Calls PM 240 #[Su (some ⟨w.heap.size,0,none⟩),AS SC i] N λe w'=>e=SI (SX #[])/\a7 w' w.heap.size 199 (cR (1<<<i))/\Kq N.heap.size [w.heap.size] N w':=λN a=>by
  have:=oW w.heap.size i 0 N (by omega) a;rw[Tq]at this;exact this
 have hff:=p.f;have hee:=p.e;replace c:=c;cases H
 .clear K R;rw[L];clear L;by_cases k:i=0
  .have a0:((i:Int)==0)=true:=by simp[k]
   have g0:decide (0<=(i:Int)-1)=false:=by simp[k]
   have g1:decide (1<=(i:Int))=false:=by simp[k]
   by_cases F:E.M.e%2=1
   .rw[if_pos F]at T;rw[if_neg (by simp;omega)];clear F k;by_cases f:E.M.f/2%2=1
    .rw[if_pos f]at G;clear f;go_enter PM.func Tryz.func248 (by decide),Tryz.ntmps248
     go_wp2_with (first |(go_at_call 240;refine(v _ t.out).mono ?_;rintro e b ⟨rfl,a,n⟩;have D:∀j,b.frozen? ⟨w.heap.size,j,none⟩=false:=a.frozen;have y:b.cell? ⟨w.heap.size,0,none⟩=some (.int .u64 (wz (1<<<i).testBit 0)):=a.cell 0;have C:b.cell? ⟨w.heap.size,1,none⟩=some (.int .u64 (wz (1<<<i).testBit 1)):=a.cell 1;have A:b.cell? ⟨w.heap.size,2,none⟩=some (.int .u64 (wz (1<<<i).testBit 2)):=a.cell 2;have z:b.cell? ⟨w.heap.size,3,none⟩=some (.int .u64 (wz (1<<<i).testBit 3)):=a.cell 3;have B:b.cell? ⟨w.heap.size,4,none⟩=some (.int .u64 (wz (1<<<i).testBit 4)):=a.cell 4;have d:=AI a;clear a)|fail)
     refine cO rfl rfl (a7.new w 199 _) rfl ⟨by rw[show ep 0=SV (cR 0)from rfl,dz],g.out,m.out.mono (Sx _) nofun⟩
    .rw[if_neg f]at G;clear f;go_enter PM.func Tryz.func248 (by decide),Tryz.ntmps248
     go_wp2_with (first |(go_at_call 240;refine(v _ t.out).mono ?_;rintro e b ⟨rfl,a,n⟩;have D:∀j,b.frozen? ⟨w.heap.size,j,none⟩=false:=a.frozen;have y:b.cell? ⟨w.heap.size,0,none⟩=some (.int .u64 (wz (1<<<i).testBit 0)):=a.cell 0;have C:b.cell? ⟨w.heap.size,1,none⟩=some (.int .u64 (wz (1<<<i).testBit 1)):=a.cell 1;have A:b.cell? ⟨w.heap.size,2,none⟩=some (.int .u64 (wz (1<<<i).testBit 2)):=a.cell 2;have z:b.cell? ⟨w.heap.size,3,none⟩=some (.int .u64 (wz (1<<<i).testBit 3)):=a.cell 3;have B:b.cell? ⟨w.heap.size,4,none⟩=some (.int .u64 (wz (1<<<i).testBit 4)):=a.cell 4;have d:=AI a;clear a)|fail)
     refine cO rfl rfl (a7.new w 199 _) rfl ⟨by rw[show ep 0=SV (cR 0)from rfl,dz],g.out,m.out.mono (Sx _) nofun⟩
   .rw[if_neg F]at T;rw[if_pos (by simp;omega)];clear F G k;go_enter PM.func Tryz.func248 (by decide),Tryz.ntmps248
    go_wp2_with (first |(go_at_call 240;refine(v _ t.out).mono ?_;rintro e b ⟨rfl,a,n⟩;have D:∀j,b.frozen? ⟨w.heap.size,j,none⟩=false:=a.frozen;have y:b.cell? ⟨w.heap.size,0,none⟩=some (AS Sw (wz (1<<<i).testBit 0)):=a.cell 0;have C:b.cell? ⟨w.heap.size,1,none⟩=some (AS Sw (wz (1<<<i).testBit 1)):=a.cell 1;have A:b.cell? ⟨w.heap.size,2,none⟩=some (AS Sw (wz (1<<<i).testBit 2)):=a.cell 2;have z:b.cell? ⟨w.heap.size,3,none⟩=some (AS Sw (wz (1<<<i).testBit 3)):=a.cell 3;have B:b.cell? ⟨w.heap.size,4,none⟩=some (AS Sw (wz (1<<<i).testBit 4)):=a.cell 4;have d:=AI a;clear a)|fail)
    refine cO rfl rfl (dc d.out) rfl ⟨rfl,(g.out.hZ p (X:=[w.heap.size]) (λx l=>by obtain rfl:=Sv.1 l;exact c.out) n).hZ p (X:=[w.heap.size]) (λx l=>by obtain rfl:=Sv.1 l;exact c.out) (ba (Kq.refl _) λ_=>Sv.2 rfl),ba ((m.out.mono (Sx _) nofun).trans (n.mono m.out.kp.1 λx l r=>absurd r (by rw[Sv.1 l];exact T4 _))) λh=>absurd h (by omega)⟩
  .have a0:((i:Int)==0)=false:=by simp[k]
   have⟨j,hj⟩:∃j,i=j+1:=⟨i-1,by omega⟩;have hje:(i:Int)-1=(j:Int):=by omega
   have I:j<E.M.s.size:=by omega
   have P:E.M.s.get! (i-1)=E.M.s[j]:=by rw[show i-1=j from by omega];exact get_at _ _ I
   have hc8:=E.M.s[j].toNat_lt;rw[P];have s:0<i:=by omega
   replace hj:=AI hj;clear P T;by_cases f:E.M.f/2%2=1
   .rw[if_pos f]at G;by_cases u:E.M.s[j]=10
    .have W:((E.M.s[j].toNat:Int)==10)=true:=by rw[u];rfl
     rw[if_pos (by rw[u];simp[f,s])];clear f k u s;go_enter PM.func Tryz.func248 (by decide),Tryz.ntmps248
     go_wp2_with (first |(go_at_call 240;refine(v _ t.out).mono ?_;rintro e b ⟨rfl,a,n⟩;have D:∀j,b.frozen? ⟨w.heap.size,j,none⟩=false:=a.frozen;have y:b.cell? ⟨w.heap.size,0,none⟩=some (AS Sw (wz (1<<<i).testBit 0)):=a.cell 0;have C:b.cell? ⟨w.heap.size,1,none⟩=some (AS Sw (wz (1<<<i).testBit 1)):=a.cell 1;have A:b.cell? ⟨w.heap.size,2,none⟩=some (AS Sw (wz (1<<<i).testBit 2)):=a.cell 2;have z:b.cell? ⟨w.heap.size,3,none⟩=some (AS Sw (wz (1<<<i).testBit 3)):=a.cell 3;have B:b.cell? ⟨w.heap.size,4,none⟩=some (AS Sw (wz (1<<<i).testBit 4)):=a.cell 4;have d:=AI a;clear a)|fail)
     refine cO rfl rfl (dc d.out) rfl ⟨rfl,(g.out.hZ p (X:=[w.heap.size]) (λx l=>by obtain rfl:=Sv.1 l;exact c.out) n).hZ p (X:=[w.heap.size]) (λx l=>by obtain rfl:=Sv.1 l;exact c.out) (ba (Kq.refl _) λ_=>Sv.2 rfl),ba ((m.out.mono (Sx _) nofun).trans (n.mono m.out.kp.1 λx l r=>absurd r (by rw[Sv.1 l];exact T4 _))) λh=>absurd h (by omega)⟩
    .have W:((E.M.s[j].toNat:Int)==10)=false:=by
      rw[beq_eq_false_iff_ne];intro h;exact u (UM.1 (by have h10:(10:UInt8).toNat=10:=rfl;omega))
     rw[if_neg (by simp[k,u])];clear f k u s;go_enter PM.func Tryz.func248 (by decide),Tryz.ntmps248
     go_wp2_with (first |(go_at_call 240;refine(v _ t.out).mono ?_;rintro e b ⟨rfl,a,n⟩;have D:∀j,b.frozen? ⟨w.heap.size,j,none⟩=false:=a.frozen;have y:b.cell? ⟨w.heap.size,0,none⟩=some (.int .u64 (wz (1<<<i).testBit 0)):=a.cell 0;have C:b.cell? ⟨w.heap.size,1,none⟩=some (.int .u64 (wz (1<<<i).testBit 1)):=a.cell 1;have A:b.cell? ⟨w.heap.size,2,none⟩=some (.int .u64 (wz (1<<<i).testBit 2)):=a.cell 2;have z:b.cell? ⟨w.heap.size,3,none⟩=some (.int .u64 (wz (1<<<i).testBit 3)):=a.cell 3;have B:b.cell? ⟨w.heap.size,4,none⟩=some (.int .u64 (wz (1<<<i).testBit 4)):=a.cell 4;have d:=AI a;clear a)|fail)
     refine cO rfl rfl (a7.new w 199 _) rfl ⟨by rw[show ep 0=SV (cR 0)from rfl,dz],g.out,m.out.mono (Sx _) nofun⟩
   .rw[if_neg f]at G;rw[if_neg (by simp[k,f])];clear f k s;go_enter PM.func Tryz.func248 (by decide),Tryz.ntmps248
    go_wp2_with (first |(go_at_call 240;refine(v _ t.out).mono ?_;rintro e b ⟨rfl,a,n⟩;have D:∀j,b.frozen? ⟨w.heap.size,j,none⟩=false:=a.frozen;have y:b.cell? ⟨w.heap.size,0,none⟩=some (.int .u64 (wz (1<<<i).testBit 0)):=a.cell 0;have C:b.cell? ⟨w.heap.size,1,none⟩=some (.int .u64 (wz (1<<<i).testBit 1)):=a.cell 1;have A:b.cell? ⟨w.heap.size,2,none⟩=some (.int .u64 (wz (1<<<i).testBit 2)):=a.cell 2;have z:b.cell? ⟨w.heap.size,3,none⟩=some (.int .u64 (wz (1<<<i).testBit 3)):=a.cell 3;have B:b.cell? ⟨w.heap.size,4,none⟩=some (.int .u64 (wz (1<<<i).testBit 4)):=a.cell 4;have d:=AI a;clear a)|fail)
    refine cO rfl rfl (a7.new w 199 _) rfl ⟨by rw[show ep 0=SV (cR 0)from rfl,dz],g.out,m.out.mono (Sx _) nofun⟩
 .clear L T;rw[K];clear K;by_cases k:i=E.M.s.size
  .have a0:((i:Int)==(E.M.s.size:Int))=true:=by simp[k]
   have l0:decide (i<E.M.s.size)=false:=by simp[k]
   by_cases F:E.M.e/2%2=1
   .rw[if_pos F]at R;rw[if_neg (by simp[k,F])];clear F k;by_cases f:E.M.f/2%2=1
    .rw[if_pos f]at G;clear f;go_enter PM.func Tryz.func248 (by decide),Tryz.ntmps248
     go_wp2_with (first |(go_at_call 240;refine(v _ t.out).mono ?_;rintro e b ⟨rfl,a,n⟩;have D:∀j,b.frozen? ⟨w.heap.size,j,none⟩=false:=a.frozen;have y:b.cell? ⟨w.heap.size,0,none⟩=some (.int .u64 (wz (1<<<i).testBit 0)):=a.cell 0;have C:b.cell? ⟨w.heap.size,1,none⟩=some (.int .u64 (wz (1<<<i).testBit 1)):=a.cell 1;have A:b.cell? ⟨w.heap.size,2,none⟩=some (.int .u64 (wz (1<<<i).testBit 2)):=a.cell 2;have z:b.cell? ⟨w.heap.size,3,none⟩=some (.int .u64 (wz (1<<<i).testBit 3)):=a.cell 3;have B:b.cell? ⟨w.heap.size,4,none⟩=some (.int .u64 (wz (1<<<i).testBit 4)):=a.cell 4;have d:=AI a;clear a)|fail)
     refine cO rfl rfl (a7.new w 199 _) rfl ⟨by rw[show ep 0=SV (cR 0)from rfl,dz],g.out,m.out.mono (Sx _) nofun⟩
    .rw[if_neg f]at G;clear f;go_enter PM.func Tryz.func248 (by decide),Tryz.ntmps248
     go_wp2_with (first |(go_at_call 240;refine(v _ t.out).mono ?_;rintro e b ⟨rfl,a,n⟩;have D:∀j,b.frozen? ⟨w.heap.size,j,none⟩=false:=a.frozen;have y:b.cell? ⟨w.heap.size,0,none⟩=some (.int .u64 (wz (1<<<i).testBit 0)):=a.cell 0;have C:b.cell? ⟨w.heap.size,1,none⟩=some (.int .u64 (wz (1<<<i).testBit 1)):=a.cell 1;have A:b.cell? ⟨w.heap.size,2,none⟩=some (.int .u64 (wz (1<<<i).testBit 2)):=a.cell 2;have z:b.cell? ⟨w.heap.size,3,none⟩=some (.int .u64 (wz (1<<<i).testBit 3)):=a.cell 3;have B:b.cell? ⟨w.heap.size,4,none⟩=some (.int .u64 (wz (1<<<i).testBit 4)):=a.cell 4;have d:=AI a;clear a)|fail)
     refine cO rfl rfl (a7.new w 199 _) rfl ⟨by rw[show ep 0=SV (cR 0)from rfl,dz],g.out,m.out.mono (Sx _) nofun⟩
   .rw[if_neg F]at R;rw[if_pos (by simp[k];omega)];clear F G k l0;go_enter PM.func Tryz.func248 (by decide),Tryz.ntmps248
    go_wp2_with (first |(go_at_call 240;refine(v _ t.out).mono ?_;rintro e b ⟨rfl,a,n⟩;have D:∀j,b.frozen? ⟨w.heap.size,j,none⟩=false:=a.frozen;have y:b.cell? ⟨w.heap.size,0,none⟩=some (AS Sw (wz (1<<<i).testBit 0)):=a.cell 0;have C:b.cell? ⟨w.heap.size,1,none⟩=some (AS Sw (wz (1<<<i).testBit 1)):=a.cell 1;have A:b.cell? ⟨w.heap.size,2,none⟩=some (AS Sw (wz (1<<<i).testBit 2)):=a.cell 2;have z:b.cell? ⟨w.heap.size,3,none⟩=some (AS Sw (wz (1<<<i).testBit 3)):=a.cell 3;have B:b.cell? ⟨w.heap.size,4,none⟩=some (AS Sw (wz (1<<<i).testBit 4)):=a.cell 4;have d:=AI a;clear a)|fail)
    refine cO rfl rfl (dc d.out) rfl ⟨rfl,(g.out.hZ p (X:=[w.heap.size]) (λx l=>by obtain rfl:=Sv.1 l;exact c.out) n).hZ p (X:=[w.heap.size]) (λx l=>by obtain rfl:=Sv.1 l;exact c.out) (ba (Kq.refl _) λ_=>Sv.2 rfl),ba ((m.out.mono (Sx _) nofun).trans (n.mono m.out.kp.1 λx l r=>absurd r (by rw[Sv.1 l];exact T4 _))) λh=>absurd h (by omega)⟩
  .have a0:((i:Int)==(E.M.s.size:Int))=false:=by simp;omega
   have I:i<E.M.s.size:=by omega
   have P:E.M.s.get! i=E.M.s[i]:=get_at _ _ I;have hc8:=E.M.s[i].toNat_lt;rw[P];clear P R;by_cases f:E.M.f/2%2=1
   .rw[if_pos f]at G;by_cases u:E.M.s[i]=10
    .have W:((E.M.s[i].toNat:Int)==10)=true:=by rw[u];rfl
     rw[if_pos (by rw[u];simp[f,I])];clear f k u;go_enter PM.func Tryz.func248 (by decide),Tryz.ntmps248
     go_wp2_with (first |(go_at_call 240;refine(v _ t.out).mono ?_;rintro e b ⟨rfl,a,n⟩;have D:∀j,b.frozen? ⟨w.heap.size,j,none⟩=false:=a.frozen;have y:b.cell? ⟨w.heap.size,0,none⟩=some (AS Sw (wz (1<<<i).testBit 0)):=a.cell 0;have C:b.cell? ⟨w.heap.size,1,none⟩=some (AS Sw (wz (1<<<i).testBit 1)):=a.cell 1;have A:b.cell? ⟨w.heap.size,2,none⟩=some (AS Sw (wz (1<<<i).testBit 2)):=a.cell 2;have z:b.cell? ⟨w.heap.size,3,none⟩=some (AS Sw (wz (1<<<i).testBit 3)):=a.cell 3;have B:b.cell? ⟨w.heap.size,4,none⟩=some (AS Sw (wz (1<<<i).testBit 4)):=a.cell 4;have d:=AI a;clear a)|fail)
     refine cO rfl rfl (dc d.out) rfl ⟨rfl,(g.out.hZ p (X:=[w.heap.size]) (λx l=>by obtain rfl:=Sv.1 l;exact c.out) n).hZ p (X:=[w.heap.size]) (λx l=>by obtain rfl:=Sv.1 l;exact c.out) (ba (Kq.refl _) λ_=>Sv.2 rfl),ba ((m.out.mono (Sx _) nofun).trans (n.mono m.out.kp.1 λx l r=>absurd r (by rw[Sv.1 l];exact T4 _))) λh=>absurd h (by omega)⟩
    .have W:((E.M.s[i].toNat:Int)==10)=false:=by
      rw[beq_eq_false_iff_ne];intro h;exact u (UM.1 (by have h10:(10:UInt8).toNat=10:=rfl;omega))
     rw[if_neg (by simp[k,u])];clear f k u;go_enter PM.func Tryz.func248 (by decide),Tryz.ntmps248
     go_wp2_with (first |(go_at_call 240;refine(v _ t.out).mono ?_;rintro e b ⟨rfl,a,n⟩;have D:∀j,b.frozen? ⟨w.heap.size,j,none⟩=false:=a.frozen;have y:b.cell? ⟨w.heap.size,0,none⟩=some (.int .u64 (wz (1<<<i).testBit 0)):=a.cell 0;have C:b.cell? ⟨w.heap.size,1,none⟩=some (.int .u64 (wz (1<<<i).testBit 1)):=a.cell 1;have A:b.cell? ⟨w.heap.size,2,none⟩=some (.int .u64 (wz (1<<<i).testBit 2)):=a.cell 2;have z:b.cell? ⟨w.heap.size,3,none⟩=some (.int .u64 (wz (1<<<i).testBit 3)):=a.cell 3;have B:b.cell? ⟨w.heap.size,4,none⟩=some (.int .u64 (wz (1<<<i).testBit 4)):=a.cell 4;have d:=AI a;clear a)|fail)
     refine cO rfl rfl (a7.new w 199 _) rfl ⟨by rw[show ep 0=SV (cR 0)from rfl,dz],g.out,m.out.mono (Sx _) nofun⟩
   .rw[if_neg f]at G;rw[if_neg (by simp[k,f])];clear f k;go_enter PM.func Tryz.func248 (by decide),Tryz.ntmps248
    go_wp2_with (first |(go_at_call 240;refine(v _ t.out).mono ?_;rintro e b ⟨rfl,a,n⟩;have D:∀j,b.frozen? ⟨w.heap.size,j,none⟩=false:=a.frozen;have y:b.cell? ⟨w.heap.size,0,none⟩=some (.int .u64 (wz (1<<<i).testBit 0)):=a.cell 0;have C:b.cell? ⟨w.heap.size,1,none⟩=some (.int .u64 (wz (1<<<i).testBit 1)):=a.cell 1;have A:b.cell? ⟨w.heap.size,2,none⟩=some (.int .u64 (wz (1<<<i).testBit 2)):=a.cell 2;have z:b.cell? ⟨w.heap.size,3,none⟩=some (.int .u64 (wz (1<<<i).testBit 3)):=a.cell 3;have B:b.cell? ⟨w.heap.size,4,none⟩=some (.int .u64 (wz (1<<<i).testBit 4)):=a.cell 4;have d:=AI a;clear a)|fail)
    refine cO rfl rfl (a7.new w 199 _) rfl ⟨by rw[show ep 0=SV (cR 0)from rfl,dz],g.out,m.out.mono (Sx _) nofun⟩
def bn:Nd->Ut
 | .set .. =>296
 | .edge .. =>293
 | .seq .. =>259
 | .alt .. =>221
 | .grp .. =>301
 | .rep .. =>277
def mq:Nd->Nat
 | .set .. =>251
 | .edge .. =>248
 | .seq .. =>236
 | .alt .. =>229
 | .grp .. =>254
 | .rep .. =>242
def ed{w S v a}(h:Repr w S v a):∃q,v=SH (bn a) (Su (some ⟨q,0,none⟩)):=by cases h<;>exact⟨_,rfl⟩
def fN(b a w):(method 446 (bn b) (Su (some a)) "posix/tree.ends").run PM w=SZ (mq b,Su (some a)) w:=by cases b<;>kernel_rfl
def gu(b a w):(nilAhead 446 (bn b) (Su (some a)) "posix/tree.ends").run PM w=SZ (some false) w:=by cases b<;>kernel_rfl
def i9(a args w):(U7 (mq a) args).run PM w=SZ (TH (mq a) args) w:=by cases a<;>simp[mq,go_sem]
def gy(E:ME)(a:Nd):Prop:=∀(w:SG)(q i:Nat),cI E w->Repr w E.S (SH (bn a) (Su (some ⟨q,0,none⟩))) a->i<=E.M.s.size->Calls PM (mq a) #[Su (some ⟨q,0,none⟩),Su (some ⟨E.m,0,none⟩),AS SC i] w (iH E i (bv E.M a i) w)
def Db{E}(z:fu E){D v k}(m:gy E k):gy E (.grp D k v):=by
 intro w q i u g C;cases g with
 |grp M y g=>
 obtain⟨p,rfl⟩:=ed g;have h1:=fN k ⟨p,0,none⟩;have S:=gu k ⟨p,0,none⟩;have h3:=i9 k;have H:=y.lt;have L:w.cell? ⟨q,1,none⟩=some (SH (bn k) (Su (some ⟨p,0,none⟩))):=y.cell 1;have d:Kq w.heap.size [] w (w.alloc (Sz #[AS Sw 0,AS Sw 0,AS Sw 0,AS Sw 0,AS Sw 0] 199)):=(Kq.refl w).alloc (Sx _) _;have l:a7 (w.alloc (Sz #[AS Sw 0,AS Sw 0,AS Sw 0,AS Sw 0,AS Sw 0] 199)) w.heap.size 199 #[AS Sw 0,AS Sw 0,AS Sw 0,AS Sw 0,AS Sw 0]:=a7.new w 199 _;have B:=(SD.1 u.map.choose_spec.choose_spec.1).1;have G:=u.blk.lt;have c:Hid (w.heap.size≠E.m/\w.heap.size≠E.r/\¬ E.S w.heap.size):=AI ⟨by omega,by omega,λh=>by have:=z.low _ h;omega⟩;have r:=m _ p i (u.kq d) (g.keep λb a n=>d.kp.2 b n Sy) C;rw[bv];show Calls PM 254 ..;replace r:=AI r;replace d:=AI d;replace l:=AI l;generalize mq k=R at *;generalize bn k=I at *;generalize bv E.M k i=P at *;go_enter PM.func Tryz.func254 (by decide),Tryz.ntmps254
 go_wp2;refine r.out.mono ?_;rintro e f ⟨rfl,s,A⟩;have a:=l.out.kq A l.out.lt λt=>c.out.2.1 (Sv.1 t)
 have m:=AI ((d.out.mono (Sx _) nofun:Kq w.heap.size [E.r] w _).trans (A.mono d.out.kp.1 λ_ h _=>h));have F:=AI s;have Z:∀j,f.frozen? ⟨w.heap.size,j,none⟩=false:=a.frozen;have K:f.cell? ⟨w.heap.size,0,none⟩=some (AS Sw 0):=a.cell 0;have T:f.cell? ⟨w.heap.size,1,none⟩=some (AS Sw 0):=a.cell 1;have N:f.cell? ⟨w.heap.size,2,none⟩=some (AS Sw 0):=a.cell 2;have W:f.cell? ⟨w.heap.size,3,none⟩=some (AS Sw 0):=a.cell 3;have Q:f.cell? ⟨w.heap.size,4,none⟩=some (AS Sw 0):=a.cell 4;replace a:=AI a;unfold ep cR fU;go_wp2;refine cO rfl rfl (dc a.out) rfl ⟨rfl,F.out.hZ z (X:=[w.heap.size]) (λx t=> ?_) (ba (Kq.refl _) λ_=>Sv.2 rfl),ba m.out λh=>absurd h (by omega)⟩;obtain rfl:=Sv.1 t;exact c.out
end
section
open Go.RowKit
attribute [local go_sem] TK
structure Caps(w:SG)(g1 g2 g3 g4:Nat)(t:Ut)(q m d i:Nat):Prop where
 b1:a7 w g1 t #[Su (some ⟨q,0,none⟩)]
 b2:a7 w g2 3 #[AS SC d]
 b3:a7 w g3 142 #[Su (some ⟨m,0,none⟩)]
 b4:a7 w g4 3 #[AS SC i]
def Caps.kq{w w' B X c f e j t q m d i}(h:Caps w c f e j t q m d i)(b:Kq B X w w')(a:∀g∈[c,f,e,j],g<B/\g∉X):Caps w' c f e j t q m d i:=
 ⟨h.b1.kq b (a _ (by simp)).1 (a _ (by simp)).2,h.b2.kq b (a _ (by simp)).1 (a _ (by simp)).2,h.b3.kq b (a _ (by simp)).1 (a _ (by simp)).2,h.b4.kq b (a _ (by simp)).1 (a _ (by simp)).2⟩
def Caps.lt{w a c e f t q m d i}(h:Caps w a c e f t q m d i):∀g∈[a,c,e,f],g<w.heap.size:=λg b=>by
 simp[SM]at b;rcases b with rfl|rfl|rfl|rfl<;>first |exact h.b1.lt|exact h.b2.lt|exact h.b3.lt|exact h.b4.lt
def o7{w f c}{d:Nat}{v}(h:w.ownsRow 0 62 1 f c.length c)(e:c[d]?=some v):∃g b a,f=TN (some ⟨g,0,none⟩) c.length b/\a7 w g 62 a/\a[d]?=some v:=by
 obtain⟨l,⟨rfl,p⟩|⟨g,b,a,rfl,n,j,q,m,r,k⟩⟩:=h<;>first |(have:=(Tn.1 e).1;omega)|(refine⟨g,b,a,rfl,j,?_⟩;have i:=(Tn.1 e).1;rw[<- k,List.getElem?_take_of_lt (by omega)]at e;rw[<- Uv];omega)
structure EB(E:ME)(nd:Nd)(tq:Ut)(q g1 g2 g3 g4 d i:Nat)(w0 W:SG):Prop where
 mem:cI E W
 rep:Repr W E.S (SH tq (Su (some ⟨q,0,none⟩))) nd
 caps:Caps W g1 g2 g3 g4 tq q E.m d i
 kq:Kq w0.heap.size [E.r] w0 W
 lt:∀g∈[g1,g2,g3,g4],g<w0.heap.size/\g≠E.r
 new:E.m<w0.heap.size/\E.r<w0.heap.size/\∀b,E.S b->b<w0.heap.size
def EB.start{E}(x:fu E){r l q m n p u d i w}(f:cI E w)(y:Repr w E.S (SH l (Su (some ⟨q,0,none⟩))) r)(a:Caps w m n p u l q E.m d i):EB E r l q m n p u d i w w:=by
 have⟨z,j,s,_⟩:=f.map;refine⟨f,y,a,.refl _,λg k=>⟨a.lt g k,?_⟩,f.blk.lt,(SD.1 s).1,λb v=>Nat.lt_trans (x.low b v) f.blk.lt⟩;rintro rfl;have e:∀{t c},¬ a7 w E.r t c:=λ{t c} h=>absurd (h.symm.trans s) (by simp)
 simp[SM]at k;rcases k with h|h|h|h<;>first |exact e (h▸a.b1)|exact e (h▸a.b2)|exact e (h▸a.b3)|exact e (h▸a.b4)
section
variable{E:ME}{nd:Nd}{tq:Ut}{q g1 g2 g3 g4 d i:Nat}{w0 W W':SG}
def EB.own(h:EB E nd tq q g1 g2 g3 g4 d i w0 W){B X}(m:w0.heap.size<=B)(hX:∀x∈X,w0.heap.size<=x)(r:Kq B X W W'):EB E nd tq q g1 g2 g3 g4 d i w0 W':=by
 have j:=h.new;have l:∀b,b<w0.heap.size->W'.heap[b]?=W.heap[b]?:=λb e=>r.kp.2 b (by omega) λn=>by have:=hX b n;omega
 have f:∀{b t c},b<w0.heap.size->a7 W b t c->a7 W' b t c:=λe m=>(l _ e).trans m
 have⟨s,a,w,y⟩:=h.mem.map;have⟨v,z⟩:=h.mem.root;have k:=λg u=>(h.lt g u).1
 exact⟨⟨f j.1 h.mem.blk,⟨s,a,(l _ j.2.1).trans w,y⟩,v,z.keep λb e _=>l b (j.2.2 b e)⟩,h.rep.keep λb e _=>l b (j.2.2 b e),
  ⟨f (k _ (by simp)) h.caps.b1,f (k _ (by simp)) h.caps.b2,f (k _ (by simp)) h.caps.b3,f (k _ (by simp)) h.caps.b4⟩,h.kq.trans (r.mono m λx n p=>absurd p (Nat.not_lt.2 (hX x n))),h.lt,j⟩
def EB.asked(m:fu E)(h:EB E nd tq q g1 g2 g3 g4 d i w0 W)(k:cI E W')(e:Kq W.heap.size [E.r] W W'):EB E nd tq q g1 g2 g3 g4 d i w0 W':=by
 have j:=h.kq.kp.1;refine⟨k,h.rep.keep λb l c=>e.kp.2 b c λa=>m.away (Sv.1 a▸l),h.caps.kq e λg f=>⟨Tu (h.lt g f).1 j,λa=>(h.lt g f).2 (Sv.1 a)⟩,h.kq.trans (e.mono j λ_ h _=>h),h.lt,h.new⟩
def EB.old(c:fu E)(h:EB E nd tq q g1 g2 g3 g4 d i w0 W):∀b,E.S b->W.heap[b]?=w0.heap[b]?:=λb a=>h.kq.kp.2 b (h.new.2.2 b a) λe=>c.away (Sv.1 e▸a)
def EB.stay(h:EB E nd tq q g1 g2 g3 g4 d i w0 W){b t c}(e:a7 W b t c)(a:w0.heap.size<=b)(f:Kq W.heap.size [E.r] W W'):a7 W' b t c:=e.kq f e.lt λg=>by
 have:=h.new.2.1;rw[Sv.1 g]at a;omega
end
def Ax{fn p n D g P R a W}(h:fn.results=#[.cell p 199])(j:a.tmps.getD p undef=Su (some ⟨g,0,none⟩))(c:a7 W g 199 (cR P))
 (i:a.defers=[{target:=TU D,args:=#[]}]) (d:W.heap[D]?=some (SQ (some []))) (l:a7 (W.putObj D (SQ none)) g 199 (cR P)->R (SI (ep P)) (W.putObj D (SQ none))):bodyPostM Tp n PM fn R .ret a W:=by
 show LeavesInM ..;rw[i];refine⟨by simp,.inl ⟨D,_,rfl,run_takeDeferred d,?_⟩⟩;have b:a7 (W.putObj D (SQ none)) g 199 (cR P):=(T0 (by rintro rfl;exact absurd (c.symm.trans d) (by simp))).trans c;have⟨k,e,f⟩:=uQ;exact⟨_,results_cell_row h a.tmps _ g _ _ _ _ j b f rfl xQ,l b⟩
def At{E}(hE:fu E){N u d i q g1 T S g4 w k}(hd:u[d]?=some k)(hk:gy E k)
 (hn:Nd.seq N u∈subs E.R) (hi:i<=E.M.s.size) (hM:cI E w) (hR:Repr w E.S (SH 259 (Su (some ⟨q,0,none⟩))) (.seq N u)) (hc:Caps w g1 T S g4 259 q E.m d i)
 (hr:∀w1 c,cI E w1->Repr w1 E.S (SH 259 (Su (some ⟨q,0,none⟩))) (.seq N u)->c<=E.M.s.size->Calls PM 239 #[Su (some ⟨q,0,none⟩),Su (some ⟨E.m,0,none⟩),AS SC ((d+1:Nat):Int),AS SC c] w1 (iH E c (dL E.M (u.drop (d+1)) c) w1)):
 Calls PM 241 #[Su (some ⟨g1,0,none⟩),Su (some ⟨T,0,none⟩),Su (some ⟨S,0,none⟩),Su (some ⟨g4,0,none⟩)] w (iH E i (dL E.M (u.drop d) i) w):=by
 refine callsIn_wide (n:=4).1 (callsIn_of_wp_marks (PM.func Tryz.func241 (by decide)) rfl trivial ?_ rfl);simp only[Tryz.ntmps241,T6,T9,Td,Tj,Ti,SU,SS,T7,SW,Tc,Ta];refine wpIn_wide.2 ?_;have⟨sl,G,hB,hrow,hS,hlen,hkid⟩:∃sl G,a7 w q 260 #[.int .i64 N,sl]/\w.ownsRow 0 62 1 sl G.length G/\(∀b,sl.ownBlock=some b->E.S b)/\G.length=u.length/\∀(i:Nat) v k,G[i]?=some v->u[i]?=some k->Repr w E.S v k:=by
  cases hR with
  |seq a b c d e f=>exact⟨_,_,b,c,d,e,f⟩
 have hdl:=(Tn.1 hd).1;have hP:dL E.M (u.drop d) i=dN (dL E.M (u.drop (d+1))) (bv E.M k i) 320:=by
  rw[SO hdl,dL,(Tn.1 hd).2]
 rw[hP];have hvd:G[d]?=some G[d]:=SE (by omega);obtain⟨g,cap,cur,rfl,hG,I⟩:=o7 hrow hvd;have M:=hkid d _ _ hvd hd;have⟨p,hp⟩:=ed M;rw[hp]at I M;have Z:Kq w.heap.size [] w (w.alloc (Sz #[AS Sw 0,AS Sw 0,AS Sw 0,AS Sw 0,AS Sw 0] 199)):=(Kq.refl w).alloc (Sx _) _;have Q:a7 (w.alloc (Sz #[AS Sw 0,AS Sw 0,AS Sw 0,AS Sw 0,AS Sw 0] 199)) w.heap.size 199 (cR 0):=by rw[dz];exact a7.new w 199 _
 have h1:=fN k ⟨p,0,none⟩;have h2:=gu k ⟨p,0,none⟩;have h3:=i9 k;have A:=(EB.start hE hM hR hc).own (X:=[]) (Sx _) (λ_ h=>nomatch h) Z;go_wp2;generalize w.alloc (Sz #[AS Sw 0,AS Sw 0,AS Sw 0,AS Sw 0,AS Sw 0] 199)=D at Z Q A ⊢;have R:=M.keep (w':=D) λb _ hlt=>Z.kp.2 b hlt Sy
 have hB1:=hB.kq Z hB.lt Sy;have hG1:=hG.kq Z hG.lt Sy;have v1:D.cell? ⟨g1,0,none⟩=some (Su (some ⟨q,0,none⟩)):=A.caps.b1.cell 0;have v2:D.cell? ⟨T,0,none⟩=some (AS SC d):=A.caps.b2.cell 0;have v3:D.cell? ⟨S,0,none⟩=some (Su (some ⟨E.m,0,none⟩)):=A.caps.b3.cell 0;have v4:D.cell? ⟨g4,0,none⟩=some (AS SC i):=A.caps.b4.cell 0;have v5:D.cell? ⟨q,1,none⟩=some (TN (some ⟨g,0,none⟩) G.length cap):=hB1.cell 1;have v6:D.cell? ⟨g,d,none⟩=some (SH (bn k) (Su (some ⟨p,0,none⟩))):=(hG1.cell d).trans I;have hdv:d<G.length:=by omega
 have hC:=hk D.drew p i (A.mem.kq (Kq.refl _).drew) (R.keep λ_ _ _=>rfl) hi;replace A:=A.own (X:=[]) (Sx _) (λ_ h=>nomatch h) (Kq.refl _).drew;replace Q:a7 D.drew w.heap.size 199 (cR 0):=Q;replace hC:=AI hC;replace A:=AI A;replace Q:=AI Q;replace hr:=AI hr;have hks:=hE.kids N u hn;go_still_tail 9,by kernel_rfl
 change wpList _ _ _ _ _ D.drew;go_wp2;refine hC.out.mono ?_;rintro e w2 ⟨rfl,L,F⟩;have E2:=AI (A.out.asked hE L F);have n2:=AI (A.out.stay Q.out (Sx _) F);go_wp2;have hw:=AI (bZ E.M k i hi);refine wpIn_wide (n:=4).1 (qe (X:=[E.r,w.heap.size]) (t:=17) (p:=bv E.M k i) (by decide) rfl ?hX
  (λj W=>EB E (.seq N u) 259 q g1 T S g4 d i w W/\∃r,a7 W w.heap.size 199 (cR r)/\r|||dN (dL E.M (u.drop (d+1))) (bv E.M k i) j=dN (dL E.M (u.drop (d+1))) (bv E.M k i) 320)
  (λ_ _ _=>False) ?hI (λ_ _ _ _ h _=>h) ?hs ?h0 ?a1 ?hassign ?hbody ?hdone λ_ _ _ _ _ h=>h.elim)
 case hassign=>
  intro l j W K hK;gi_wp2
  exact hK
 case hX=>
  intro x z;have:=E2.out.new;have:=n2.out.lt;have:=E2.out.kq.kp.1;simp only[SM,Sy,or_false]at z;rcases z with rfl|rfl<;>omega
 case hI=>
  rintro j W W' ⟨m,r,y,s⟩ hk;have h2:=n2.out.lt;exact⟨m.own (X:=[]) (Ue h2) (λ_ h=>nomatch h) hk,r,y.kq hk h2 Sy,s⟩
 case hs=>
  rintro j W ⟨m,r,y,s⟩ C;refine⟨m,r,y,?_⟩;rw[<- s,dN,if_neg (by rw[C];simp),Tq]
 case h0=>exact⟨E2.out,0,n2.out,by rw[Tq]⟩
 case hdone=>
  rintro W ⟨m,r,y,s⟩ hK;have hlt2:=n2.out.lt;rw[dN,Uk]at s;subst s;have C:=AI y;have hE3:=AI m;generalize dN (dL E.M (u.drop (d+1))) (bv E.M k i) 320=P at *;have fz:∀j,W.frozen? ⟨w.heap.size,j,none⟩=false:=C.out.frozen;have r0:W.cell? ⟨w.heap.size,0,none⟩=some (AS Sw (wz P.testBit 0)):=C.out.cell 0;have r1:W.cell? ⟨w.heap.size,1,none⟩=some (AS Sw (wz P.testBit 1)):=C.out.cell 1;have r2:W.cell? ⟨w.heap.size,2,none⟩=some (AS Sw (wz P.testBit 2)):=C.out.cell 2;have r3:W.cell? ⟨w.heap.size,3,none⟩=some (AS Sw (wz P.testBit 3)):=C.out.cell 3;have r4:W.cell? ⟨w.heap.size,4,none⟩=some (AS Sw (wz P.testBit 4)):=C.out.cell 4;replace hK:=AI hK;go_wp2;have b5:=dc (q:=P) C.out;have kf:=ba (q:=P) (g:=w.heap.size) (Kq.refl (B:=w2.heap.size+1) (X:=[w.heap.size]) W) λ_=>Sv.2 rfl
  generalize Ux .. =WF at b5 kf ⊢;have hD:=(kf.kp.2 w2.heap.size (TE _) λz=>by have:=Sv.1 z;omega).trans hK.out;refine Ax rfl rfl b5 rfl hD λhg=> ?_
  have E4:=hE3.out.own (X:=[w.heap.size]) E2.out.kq.kp.1 (λx z=>by rw[Sv.1 z];exact Sx _) ((kf.mono (UH _) λ_ h _=>h).put (l:=w2.heap.size) (λh=>absurd h (T4 _)) (SQ none));exact⟨rfl,E4.mem,E4.kq⟩
 case hbody=>
  rintro l j W hlt hj C ⟨m,r,y,s⟩;have hjs:=(hw.out j C).2;have hH:=hr.out W j m.mem m.rep hjs;rw[show((d+1:Nat):Int)=(d:Int)+1 from by push_cast;rfl]at hH;replace hH:=AI hH;have H:=AI m;have hr1':=AI y;have v1:W.cell? ⟨g1,0,none⟩=some (Su (some ⟨q,0,none⟩)):=m.caps.b1.cell 0;have v2:W.cell? ⟨T,0,none⟩=some (AS SC d):=m.caps.b2.cell 0;have v3:W.cell? ⟨S,0,none⟩=some (Su (some ⟨E.m,0,none⟩)):=m.caps.b3.cell 0;gi_wp2
  refine⟨trivial,(U5 l (callsIn_wide.2 hH.out)).mono ?_⟩;rintro e W2 ⟨rfl,L,F⟩;have E3:=AI (H.out.asked hE L F);have n3:=AI (H.out.stay hr1'.out (Sx _) F);have hJ:=r5 w.heap.size r (dL E.M (u.drop (d+1)) j) W2 n3.out;replace hJ:=AI hJ;replace F:=AI F;gi_wp2
  refine⟨trivial,(U5 l (callsIn_wide.2 hJ.out)).mono ?_⟩;rintro e W3 ⟨rfl,b3,k3⟩;have z1:=n2.out.lt;have z2:=F.out.kp.1;replace k3:=AI k3;replace b3:=AI b3;gi_wp2
  refine⟨(F.out.mono (Sx _) λx z _=>by simp at z ⊢;exact .inl z).trans (k3.out.mono z2 λx z _=>by simp at z ⊢;exact .inr z),E3.out.own (X:=[w.heap.size]) (by have:=E3.out.kq.kp.1;exact this) (λx z=>by rw[Sv.1 z];exact Sx _) k3.out,_,b3.out,?_⟩;rw[<- s,dN,if_pos C,Uz]
end
section
open Go.RowKit
abbrev fY:Array TG:=#[AS Sw 0,AS Sw 0,AS Sw 0,AS Sw 0,AS Sw 0]
def KL(w t q m d i):
 Caps (((((w.alloc (Sz #[Su (some ⟨q,0,none⟩)] t)).alloc (Sz #[Su (some ⟨m,0,none⟩)] 142)).alloc (Sz #[AS SC d] 3)).alloc (Sz #[AS SC i] 3)).alloc (Sz fY 199)) w.heap.size (w.heap.size+1+1) (w.heap.size+1) (w.heap.size+1+1+1) t q m d i/\
 a7 (((((w.alloc (Sz #[Su (some ⟨q,0,none⟩)] t)).alloc (Sz #[Su (some ⟨m,0,none⟩)] 142)).alloc (Sz #[AS SC d] 3)).alloc (Sz #[AS SC i] 3)).alloc (Sz fY 199)) (w.heap.size+1+1+1+1) 199 (cR 0)/\
 Kq w.heap.size [] w (((((w.alloc (Sz #[Su (some ⟨q,0,none⟩)] t)).alloc (Sz #[Su (some ⟨m,0,none⟩)] 142)).alloc (Sz #[AS SC d] 3)).alloc (Sz #[AS SC i] 3)).alloc (Sz fY 199)):=by
 have a:∀(W:SG)(o:Obj){b:Nat}{t c},a7 W b t c->a7 (W.alloc o) b t c:=λW o{b t c} h=>h.alloc o
 have e:∀(W:SG)(t c)(n:Nat),W.heap.size=n->a7 (W.alloc (Sz c t)) n t c:=λW t c n h=>h▸a7.new W t c
 refine⟨⟨a _ _ (a _ _ (a _ _ (a _ _ (a7.new w t _)))),a _ _ (a _ _ (e _ _ _ _ (by simp))),a _ _ (a _ _ (a _ _ (e _ _ _ _ (by simp)))),a _ _ (e _ _ _ _ (by simp))⟩,?_,(((((Kq.refl w).alloc (Sx _) _).alloc (by simp) _).alloc (by simp) _).alloc (by simp) _).alloc (by simp) _⟩;simp[dz, *]
def KS(E:ME)(b:Int)(a:List Nd)(d:Nat):Prop:=∀(w:SG)(q i:Nat),cI E w->Repr w E.S (SH 259 (Su (some ⟨q,0,none⟩))) (.seq b a)->i<=E.M.s.size->
 Calls PM 239 #[Su (some ⟨q,0,none⟩),Su (some ⟨E.m,0,none⟩),AS SC d,AS SC i] w (iH E i (dL E.M (a.drop d) i) w)
def cI.fresh{E w}(e:fu E)(c:cI E w):E.m<w.heap.size/\E.r<w.heap.size/\∀b,E.S b->b<w.heap.size:=by
 have⟨f,a,h,_⟩:=c.map;exact⟨c.blk.lt,(SD.1 h).1,λb d=>Nat.lt_trans (e.low b d) c.blk.lt⟩
def nH{w:SG}{d c}(h:w.ownsRow 0 62 1 d c.length c):∃a b,d=TN a c.length b:=by
 obtain⟨f,⟨rfl,i⟩|⟨g,b,e,rfl,_⟩⟩:=h<;>simp_all
def ul{E}(B:fu E){id s}(hk:∀k∈s,gy E k)(hn:Nd.seq id s∈subs E.R)(n):∀d,s.length-d=n->d<=s.length->KS E id s d:=by
 induction n with
 |zero=>
  intro d hd hdl w q i hM hR hi;obtain rfl:d=s.length:=by omega
  obtain⟨sl,vs,hB,D,A⟩:∃sl vs,a7 w q 260 #[AS SC id,sl]/\w.ownsRow 0 62 1 sl vs.length vs/\vs.length=s.length:=by
   cases hR with
   |seq a b c d e f=>exact⟨_,_,b,c,e⟩
  obtain⟨g,cap,rfl⟩:=nH D;have hks:=B.kids id s hn;rw[A]at hB;have hP:dL E.M (s.drop s.length) i=1<<<i:=by rw[TF,dL]
  rw[hP];obtain⟨t,y,p⟩:=KL w 259 q E.m s.length i;go_enter PM.func Tryz.func239 (by decide),Tryz.ntmps239
  go_wp2;generalize TJ .. =l at t y p ⊢;have m:=hM.kq p;have hB1:=hB.kq p hB.lt Sy;have fr:=hM.fresh B;have v1:l.cell? ⟨w.heap.size,0,none⟩=some (Su (some ⟨q,0,none⟩)):=t.b1.cell 0;have v2:l.cell? ⟨w.heap.size+1+1,0,none⟩=some (AS SC s.length):=t.b2.cell 0;have v4:l.cell? ⟨w.heap.size+1+1+1,0,none⟩=some (AS SC i):=t.b4.cell 0;have v5:l.cell? ⟨q,1,none⟩=some (TN g s.length cap):=hB1.cell 1;replace y:=AI y;replace p:=AI p;replace m:=AI m;go_quiet (fail)
  replace v1:=show(l.drewN nq).cell? _=_ from v1;replace v2:=show(l.drewN nq).cell? _=_ from v2;replace v4:=show(l.drewN nq).cell? _=_ from v4;replace v5:=show(l.drewN nq).cell? _=_ from v5;replace y:=AI (show a7 (l.drewN nq) .. from y.out);replace m:=AI (m.out.kq ((Kq.refl _).drewN nq));replace p:=AI (p.out.drewN nq);generalize l.drewN nq=W2 at *;have hsz:=B.size;have hA:=oW (w.heap.size+1+1+1+1) i 0 W2 (by omega) y.out;rw[Tq]at hA;replace hA:=AI hA;go_wp2_with (first |(go_at_call 240;refine hA.out.mono ?_;rintro e w3 ⟨rfl,u,k3⟩;replace u:=AI u;have hk:=AI ((p.out.mono (Sx _) nofun:Kq w.heap.size [E.r] w W2).trans (k3.mono p.out.kp.1 λx hx v=>absurd v (by rw[Sv.1 hx];omega)));have hm:=AI (m.out.hZ B (X:=[w.heap.size+1+1+1+1]) (λx hx=>by rw[Sv.1 hx];exact⟨by omega,by omega,λh=>by have:=fr.2.2 _ h;omega⟩) k3);have fz:∀j,w3.frozen? ⟨w.heap.size+1+1+1+1,j,none⟩=false:=u.out.frozen;have r0:w3.cell? ⟨w.heap.size+1+1+1+1,0,none⟩=some (AS Sw (wz (1<<<i).testBit 0)):=u.out.cell 0;have r1:w3.cell? ⟨w.heap.size+1+1+1+1,1,none⟩=some (AS Sw (wz (1<<<i).testBit 1)):=u.out.cell 1;have r2:w3.cell? ⟨w.heap.size+1+1+1+1,2,none⟩=some (AS Sw (wz (1<<<i).testBit 2)):=u.out.cell 2;have r3:w3.cell? ⟨w.heap.size+1+1+1+1,3,none⟩=some (AS Sw (wz (1<<<i).testBit 3)):=u.out.cell 3;have r4:w3.cell? ⟨w.heap.size+1+1+1+1,4,none⟩=some (AS Sw (wz (1<<<i).testBit 4)):=u.out.cell 4)|fail)
  refine cO rfl rfl (dc u.out) rfl ⟨rfl,hm.out.hZ B (X:=[w.heap.size+1+1+1+1]) (λx hx=> ?_) (ba (Kq.refl _) λ_=>Sv.2 rfl),ba hk.out λh=>absurd h (by omega)⟩;obtain rfl:=Sv.1 hx;exact⟨by omega,by omega,λh=>by have:=fr.2.2 _ h;omega⟩
 |succ n ih=>
  intro d hd hdl w q i hM hR hi;have v:d<s.length:=by omega
  have hr:=ih (d+1) (by omega) (by omega);have⟨sl,vs,hB,D,A⟩:∃sl vs,a7 w q 260 #[.int .i64 id,sl]/\w.ownsRow 0 62 1 sl vs.length vs/\vs.length=s.length:=by
   cases hR with
   |seq a b c d e f=>exact⟨_,_,b,c,e⟩
  obtain⟨g,cap,cur,rfl,_,_⟩:=o7 D (SE (by omega:d<vs.length));have hks:=B.kids id s hn;have hne:((d:Int)==(s.length:Int))=false:=by simp;omega
  rw[A]at hB;have⟨t,y,p⟩:=KL w 259 q E.m d i;go_enter PM.func Tryz.func239 (by decide),Tryz.ntmps239
  go_wp2;generalize TJ .. =l at t y p ⊢;have m:=hM.kq p;have C:=hR.keep (w':=l) λb _ v=>p.kp.2 b v Sy
  have hB1:=hB.kq p hB.lt Sy;have fr:=hM.fresh B;have v1:l.cell? ⟨w.heap.size,0,none⟩=some (Su (some ⟨q,0,none⟩)):=t.b1.cell 0;have v2:l.cell? ⟨w.heap.size+1+1,0,none⟩=some (AS SC d):=t.b2.cell 0;have v3:l.cell? ⟨w.heap.size+1,0,none⟩=some (Su (some ⟨E.m,0,none⟩)):=t.b3.cell 0;have v4:l.cell? ⟨w.heap.size+1+1+1,0,none⟩=some (AS SC i):=t.b4.cell 0;have v5:l.cell? ⟨q,1,none⟩=some (TN (some ⟨g,0,none⟩) s.length cap):=hB1.cell 1;have v6:l.cell? ⟨q,0,none⟩=some (AS SC id):=hB1.cell 0;replace t:=AI t;replace y:=AI y;replace p:=AI p;replace m:=AI m;replace C:=AI C;replace hr:=AI hr;go_quiet (fail)
  replace v1:=show(l.drewN nq).cell? _=_ from v1;replace v2:=show(l.drewN nq).cell? _=_ from v2;replace v3:=show(l.drewN nq).cell? _=_ from v3;replace v4:=show(l.drewN nq).cell? _=_ from v4;replace v5:=show(l.drewN nq).cell? _=_ from v5;replace v6:=show(l.drewN nq).cell? _=_ from v6;replace y:=AI (show a7 (l.drewN nq) .. from y.out);replace m:=AI (m.out.kq ((Kq.refl _).drewN nq));replace C:=AI (C.out.keep (w':=l.drewN nq) λ_ _ _=>rfl);replace p:=AI (p.out.drewN nq);replace t:=AI (t.out.kq ((Kq.refl l).drewN nq) λg hg=>⟨t.out.lt g hg,Sy⟩);generalize l.drewN nq=W2 at *;go_wp2;go_still_tail 10,by kernel_rfl
  change wpList _ _ _ _ _ W2.drew;go_wp2;have hcall:∀z w,(U7 241 z).run PM w=SZ (TH 241 z) w:=λz w=>PH.call z w rfl
  have hz:=p.out.kp.1;refine(y7 B hn (d:=d) (i:=i) (by omega) (by have:=B.size;omega) rfl 241 _ W2.drew hcall (m.out.kq (Kq.refl _).drew) λw1 kw hMw=> ?_).mono ?_
  .refine At B (SE v) (hk _ (Te v)) hn hi hMw (C.out.keep λb _ v=>kw.kp.2 b v Sy) ((t.out.kq (Kq.refl W2).drew λg hg=>⟨t.out.lt g hg,Sy⟩).kq kw λg hg=>⟨t.out.lt g hg,Sy⟩) λw2 c hm hr' hcs=> ?_
   exact hr.out w2 q c hm hr' hcs
  .rintro e w4 ⟨rfl,hM4,k4⟩;have k4':Kq W2.heap.size [E.r] W2 w4:=⟨k4.kp,k4.os,k4.out⟩;have u:=AI (y.out.kq k4' y.out.lt λhx=>by have:=Sv.1 hx;omega);have hk:=AI ((p.out.mono (Sx _) nofun:Kq w.heap.size [E.r] w W2).trans (k4'.mono hz λ_ h _=>h));have hm:=AI hM4;generalize dL E.M (s.drop d) i=P at *;have fz:∀j,w4.frozen? ⟨w.heap.size+1+1+1+1,j,none⟩=false:=u.out.frozen;have r0:w4.cell? ⟨w.heap.size+1+1+1+1,0,none⟩=some (AS Sw (wz (SF 0) 0)):=u.out.cell 0;have r1:w4.cell? ⟨w.heap.size+1+1+1+1,1,none⟩=some (AS Sw (wz (SF 0) 1)):=u.out.cell 1;have r2:w4.cell? ⟨w.heap.size+1+1+1+1,2,none⟩=some (AS Sw (wz (SF 0) 2)):=u.out.cell 2;have r3:w4.cell? ⟨w.heap.size+1+1+1+1,3,none⟩=some (AS Sw (wz (SF 0) 3)):=u.out.cell 3;have r4:w4.cell? ⟨w.heap.size+1+1+1+1,4,none⟩=some (AS Sw (wz (SF 0) 4)):=u.out.cell 4;unfold ep cR fU;go_wp2;refine cO rfl rfl (dc u.out) rfl ⟨rfl,hm.out.hZ B (X:=[w.heap.size+1+1+1+1]) (λx hx=> ?_) (ba (Kq.refl _) λ_=>Sv.2 rfl),ba hk.out λh=>absurd h (by omega)⟩;obtain rfl:=Sv.1 hx;exact⟨by omega,by omega,λh=>by have:=fr.2.2 _ h;omega⟩
end
section
open Go.RowKit
attribute [local go_sem] TK
def CN{E}(r:fu E){t l}(hs:KS E t l 0):gy E (.seq t l):=by
 intro w q i s v y;rw[bv];show Calls PM 236 ..;have c:Kq w.heap.size [] w (w.alloc (Sz fY 199)):=(Kq.refl w).alloc (Sx _) _;have g:a7 (w.alloc (Sz fY 199)) w.heap.size 199 (cR 0):=by rw[dz];exact a7.new w 199 _
 have u:=s.fresh r;have f:=hs _ q i (s.kq c) (v.keep λb a n=>c.kp.2 b n Sy) y;rw[Tb]at f;replace f:=AI f;replace c:=AI c;replace g:=AI g;generalize dL E.M l i=P at *;go_enter PM.func Tryz.func236 (by decide),Tryz.ntmps236
 go_wp2;refine f.out.mono ?_;rintro e d ⟨rfl,m,p⟩;have a:=AI (g.out.kq p g.out.lt λk=>by have:=Sv.1 k;omega);have z:∀j,d.frozen? ⟨w.heap.size,j,none⟩=false:=a.out.frozen;have B:d.cell? ⟨w.heap.size,0,none⟩=some (AS Sw (wz (SF 0) 0)):=a.out.cell 0;have A:d.cell? ⟨w.heap.size,1,none⟩=some (AS Sw (wz (SF 0) 1)):=a.out.cell 1;have C:d.cell? ⟨w.heap.size,2,none⟩=some (AS Sw (wz (SF 0) 2)):=a.out.cell 2;have F:d.cell? ⟨w.heap.size,3,none⟩=some (AS Sw (wz (SF 0) 3)):=a.out.cell 3;have D:d.cell? ⟨w.heap.size,4,none⟩=some (AS Sw (wz (SF 0) 4)):=a.out.cell 4;unfold ep cR fU;go_wp2;refine cO rfl rfl (dc a.out) rfl ⟨rfl,(AI m).out.hZ r (X:=[w.heap.size]) (λx k=> ?_) (ba (Kq.refl _) λ_=>Sv.2 rfl),ba (AI ((c.out.mono (Sx _) nofun:Kq w.heap.size [E.r] w _).trans (p.mono c.out.kp.1 λ_ h _=>h))).out λh=>absurd h (by omega)⟩;obtain rfl:=Sv.1 k;exact⟨by omega,by omega,λh=>by have:=u.2.2 _ h;omega⟩
structure nD(w:SG)(g1 g2 g3:Nat)(t:Ut)(q m i:Nat):Prop where
 b1:a7 w g1 t #[Su (some ⟨q,0,none⟩)]
 b2:a7 w g2 142 #[Su (some ⟨m,0,none⟩)]
 b3:a7 w g3 3 #[AS SC i]
def nD.caps{w b c a t q m i}(h:nD w b c a t q m i):Caps w b a c a t q m i i:=⟨h.b1,h.b3,h.b2,h.b3⟩
def Ho{M}{a:List Nd}{n i}(h):iK M (a.drop n) i=bv M a[n] i|||iK M (a.drop (n+1)) i:=by rw[SO h,iK]
def C0{E}(F:fu E){id l i q g1 g2 g3 w}(hk:∀k∈l,gy E k)
 (hn:Nd.alt id l∈subs E.R) (hlen:l.length<1000000) (hi:i<=E.M.s.size) (hM:cI E w) (hR:Repr w E.S (SH 221 (Su (some ⟨q,0,none⟩))) (.alt id l)) (hc:nD w g1 g2 g3 221 q E.m i):
 Calls PM 234 #[Su (some ⟨g1,0,none⟩),Su (some ⟨g2,0,none⟩),Su (some ⟨g3,0,none⟩)] w (iH E i (iK E.M l i) w):=by
 obtain⟨sl,D,hB,t,hS,hvl,y⟩:∃sl D,a7 w q 227 #[AS SC id,sl]/\w.ownsRow 0 62 1 sl D.length D/\(∀b,sl.ownBlock=some b->E.S b)/\D.length=l.length/\∀(i:Nat) v k,D[i]?=some v->l[i]?=some k->Repr w E.S v k:=by
  cases hR with
  |alt a b c d e f=>exact⟨_,_,b,c,d,e,f⟩
 obtain⟨sa,cap,rfl⟩:=nH t;rw[hvl]at hB;have k1:Kq w.heap.size [] w (w.alloc (Sz fY 199)):=(Kq.refl w).alloc (Sx _) _;have n1:a7 (w.alloc (Sz fY 199)) w.heap.size 199 (cR 0):=by rw[dz];exact a7.new w 199 _
 have E1:=(EB.start F hM hR hc.caps).own (X:=[]) (Sx _) (λ_ h=>nomatch h) k1;have hB1:=hB.kq k1 hB.lt Sy;have v1:(w.alloc (Sz fY 199)).cell? ⟨g1,0,none⟩=some (Su (some ⟨q,0,none⟩)):=E1.caps.b1.cell 0;have v5:(w.alloc (Sz fY 199)).cell? ⟨q,1,none⟩=some (TN sa l.length cap):=hB1.cell 1;replace E1:=AI E1;replace n1:=AI n1;replace y:=AI y;replace t:=AI t;replace hk:=AI hk;go_enter PM.func Tryz.func234 (by decide),Tryz.ntmps234
 go_wp2;generalize w.alloc (Sz fY 199)=W1 at n1 E1 v1 v5 ⊢;go_loopw [11] (λc wr=>∃n:Nat,n<=l.length/\c=AS SC n/\EB E (.alt id l) 221 q g1 g3 g2 g3 i i w wr/\∃r,a7 wr w.heap.size 199 (cR r)/\r|||iK E.M (l.drop n) i=iK E.M l i) λc _=>l.length- (intOf c).toNat
 case atStart=>exact⟨0,TZ _,rfl,E1.out,0,n1.out,by rw[Tq,Tb]⟩
 case round=>
  obtain⟨n,hnl,rfl,m,r,hr1,u⟩:=hrel;have E2:=AI m;have n2:=AI hr1;by_cases C:n<l.length
  .have⟨g,cap',cur,he,hG,A⟩:=o7 t.out (SE (by omega:n<D.length));cases he;have hSg:=hS g rfl;have hG2:a7 wr g 62 cur:=(m.old F g hSg).trans hG;have B:=(y.out n _ _ (SE (by omega)) (SE C)).keep (w':=wr) λb z _=>m.old F b z
   have⟨p,hp⟩:=ed B;rw[hp]at A B;have hC:=hk.out l[n] (Te C) wr p i m.mem B hi;rw[Ho C]at u;have h1:=fN l[n] ⟨p,0,none⟩;have h2:=gu l[n] ⟨p,0,none⟩;have h3:=i9 l[n];have v2:wr.cell? ⟨g2,0,none⟩=some (Su (some ⟨E.m,0,none⟩)):=m.caps.b3.cell 0;have v3:wr.cell? ⟨g3,0,none⟩=some (AS SC i):=m.caps.b4.cell 0;have v6:wr.cell? ⟨g,n,none⟩=some (SH (bn l[n]) (Su (some ⟨p,0,none⟩))):=(hG2.cell n).trans A;replace hC:=AI hC;replace u:=AI u;generalize mq l[n]=fk at *;generalize bn l[n]=tk at *;generalize bv E.M l[n] i=P at *;go_wp2;refine hC.out.mono ?_;rintro e w3 ⟨rfl,hM3,k3⟩;have E3:=AI (E2.out.asked F hM3 k3);have n3:=AI (E2.out.stay n2.out (Sx _) k3);have hJ:=AI (r5 w.heap.size r P w3 n3.out);go_wp2;refine hJ.out.mono ?_;rintro e w4 ⟨rfl,b4,k4⟩;have E4:=AI (E3.out.own (X:=[w.heap.size]) E3.out.kq.kp.1 (λx hx=>by rw[Sv.1 hx];exact Sx _) k4);replace b4:=AI b4;go_wp2;go_roundw
   case rel=>
    refine⟨n+1,by omega,by push_cast;rfl,E4.out,_,b4.out,?_⟩;rw[<- u.out,Uz]
   case measure=>simp[intOf];omega
  .obtain rfl:n=l.length:=by omega
   rw[TF,iK,Uk]at u;subst u;have z:=n2;have hm:=AI m.mem;have hk':=AI m.kq;have fr:=m.new;have hnew:Hid (w.heap.size≠E.m/\w.heap.size≠E.r/\¬ E.S w.heap.size):=AI ⟨by omega,by omega,λh=>by have:=fr.2.2 _ h;omega⟩;have hk:=hk';generalize iK E.M l i=P at *;have fz:∀j,wr.frozen? ⟨w.heap.size,j,none⟩=false:=z.out.frozen;have r0:wr.cell? ⟨w.heap.size,0,none⟩=some (AS Sw (wz (P).testBit 0)):=z.out.cell 0;have r1:wr.cell? ⟨w.heap.size,1,none⟩=some (AS Sw (wz (P).testBit 1)):=z.out.cell 1;have r2:wr.cell? ⟨w.heap.size,2,none⟩=some (AS Sw (wz (P).testBit 2)):=z.out.cell 2;have r3:wr.cell? ⟨w.heap.size,3,none⟩=some (AS Sw (wz (P).testBit 3)):=z.out.cell 3;have r4:wr.cell? ⟨w.heap.size,4,none⟩=some (AS Sw (wz (P).testBit 4)):=z.out.cell 4;go_wp2;refine cO rfl rfl (dc z.out) rfl ⟨rfl,hm.out.hZ F (X:=[w.heap.size]) (λx hx=> ?_) (ba (Kq.refl _) λ_=>Sv.2 rfl),ba hk.out λh=>absurd h (by omega)⟩;obtain rfl:=Sv.1 hx;exact hnew.out
def PG(w t q m i):
 nD ((((w.alloc (Sz #[Su (some ⟨q,0,none⟩)] t)).alloc (Sz #[Su (some ⟨m,0,none⟩)] 142)).alloc (Sz #[AS SC i] 3)).alloc (Sz fY 199)) w.heap.size (w.heap.size+1) (w.heap.size+1+1) t q m i/\
 a7 ((((w.alloc (Sz #[Su (some ⟨q,0,none⟩)] t)).alloc (Sz #[Su (some ⟨m,0,none⟩)] 142)).alloc (Sz #[AS SC i] 3)).alloc (Sz fY 199)) (w.heap.size+1+1+1) 199 (cR 0)/\
 Kq w.heap.size [] w ((((w.alloc (Sz #[Su (some ⟨q,0,none⟩)] t)).alloc (Sz #[Su (some ⟨m,0,none⟩)] 142)).alloc (Sz #[AS SC i] 3)).alloc (Sz fY 199)):=by
 have a:∀(W:SG)(o:Obj){b:Nat}{t c},a7 W b t c->a7 (W.alloc o) b t c:=λW o{b t c} h=>h.alloc o
 have d:∀(W:SG)(t c)(n:Nat),W.heap.size=n->a7 (W.alloc (Sz c t)) n t c:=λW t c n h=>h▸a7.new W t c
 refine⟨⟨a _ _ (a _ _ (a _ _ (a7.new w t _))),a _ _ (a _ _ (d _ _ _ _ (by simp))),a _ _ (d _ _ _ _ (by simp))⟩,?_,((((Kq.refl w).alloc (Sx _) _).alloc (by simp) _).alloc (by simp) _).alloc (by simp) _⟩;simp[dz, *]
def nD.kq{w w' B X b c d t q m i}(h:nD w b c d t q m i)(e:Kq B X w w')(a:∀g∈[b,c,d],g<B/\g∉X):nD w' b c d t q m i:=
 ⟨h.b1.kq e (a _ (by simp)).1 (a _ (by simp)).2,h.b2.kq e (a _ (by simp)).1 (a _ (by simp)).2,h.b3.kq e (a _ (by simp)).1 (a _ (by simp)).2⟩
def nD.lt{w a c d t q m i}(h:nD w a c d t q m i):∀g∈[a,c,d],g<w.heap.size:=λg b=>by
 simp[SM]at b;rcases b with rfl|rfl|rfl
 exact h.b1.lt;exact h.b2.lt;exact h.b3.lt
def Do{E}(F:fu E){G A}(M:∀k∈A,gy E k)(S:Nd.alt G A∈subs E.R)(C:A.length<1000000):gy E (.alt G A):=by
 intro w q i Z hR hi;rw[bv];show Calls PM 229 ..;have⟨R,W⟩:∃R,a7 w q 227 #[.int .i64 G,R]:=by
  cases hR with
  |alt a b c d e f=>exact⟨_,b⟩
 have⟨n,B,r⟩:=PG w 221 q E.m i;go_enter PM.func Tryz.func229 (by decide),Tryz.ntmps229
 go_wp2;generalize TJ .. =m at n B r ⊢;have y:=Z.kq r;have t:=hR.keep (w':=m) λb _ u=>r.kp.2 b u Sy
 have Q:=W.kq r W.lt Sy;have fr:=Z.fresh F;have v1:m.cell? ⟨w.heap.size,0,none⟩=some (Su (some ⟨q,0,none⟩)):=n.b1.cell 0;have v3:m.cell? ⟨w.heap.size+1,0,none⟩=some (Su (some ⟨E.m,0,none⟩)):=n.b2.cell 0;have v4:m.cell? ⟨w.heap.size+1+1,0,none⟩=some (AS SC i):=n.b3.cell 0;have v6:m.cell? ⟨q,0,none⟩=some (AS SC G):=Q.cell 0;replace n:=AI n;replace B:=AI B;replace r:=AI r;replace y:=AI y;replace t:=AI t;go_still_tail 9,by kernel_rfl
 change wpList _ _ _ _ _ m.drew;go_wp2;have z:∀l w,(U7 234 l).run PM w=SZ (TH 234 l) w:=λl w=>PH.call l w rfl
 have hz:=r.out.kp.1;refine(y7 F S (d:=0) (i:=i) (p:=iK E.M A i) (by omega) (by have:=F.size;omega) rfl 234 _ m.drew z (y.out.kq (Kq.refl _).drew) λw1 T I=> ?_).mono ?_
 .exact C0 F M S C hi I (t.out.keep λb _ u=>T.kp.2 b u Sy) ((n.out.kq (Kq.refl m).drew λg H=>⟨n.out.lt g H,Sy⟩).kq T λg H=>⟨n.out.lt g H,Sy⟩)
 .rintro e s ⟨rfl,N,K⟩;have D:Kq m.heap.size [E.r] m s:=⟨K.kp,K.os,K.out⟩;have v:=AI (B.out.kq D B.out.lt λL=>by have:=Sv.1 L;omega);have M:=AI ((r.out.mono (Sx _) nofun:Kq w.heap.size [E.r] w m).trans (D.mono hz λ_ h _=>h));have hm:=AI N;generalize iK E.M A i=P at *;have fz:∀j,s.frozen? ⟨w.heap.size+1+1+1,j,none⟩=false:=v.out.frozen;have r0:s.cell? ⟨w.heap.size+1+1+1,0,none⟩=some (AS Sw (wz (SF 0) 0)):=v.out.cell 0;have r1:s.cell? ⟨w.heap.size+1+1+1,1,none⟩=some (AS Sw (wz (SF 0) 1)):=v.out.cell 1;have r2:s.cell? ⟨w.heap.size+1+1+1,2,none⟩=some (AS Sw (wz (SF 0) 2)):=v.out.cell 2;have r3:s.cell? ⟨w.heap.size+1+1+1,3,none⟩=some (AS Sw (wz (SF 0) 3)):=v.out.cell 3;have r4:s.cell? ⟨w.heap.size+1+1+1,4,none⟩=some (AS Sw (wz (SF 0) 4)):=v.out.cell 4;unfold ep cR fU;go_wp2;refine cO rfl rfl (dc v.out) rfl ⟨rfl,hm.out.hZ F (X:=[w.heap.size+1+1+1]) (λx L=> ?_) (ba (Kq.refl _) λ_=>Sv.2 rfl),ba M.out λh=>absurd h (by omega)⟩;obtain rfl:=Sv.1 L;exact⟨by omega,by omega,λh=>by have:=fr.2.2 _ h;omega⟩
end
section
section
variable{P:U3}{ops:Array Oper}{Q:Exit->Act->SG->Prop}{md:Region.Mode}{l n:Nat}
def Ox{o:Oper}{a w K}(i:∀c,o.op≠.defer c)(h:o.wp P a w K Q):o.wpIn (Fence.wide.inRound l) n P a w K Q:=by
 refine⟨λ_ _=>trivial,?_⟩;rw[Oper.semAt_plain _ _ _ i];unfold Oper.wp at h;generalize (SN a.eval o).run P w=r at h ⊢;cases r with
 |ok x g=>
  cases x;case value v=>exact h
  case skip=>exact h
  case defer d=>exact h
  case enter f b=>exact⟨λh=>by simp[Tp]at h,U5 l ((callsIn_wide.2 h).mono λe m j=>by cases e<;>exact j)⟩
  case row p b=>exact⟨λh=>by simp[Tp]at h,λc k _=>let⟨v,g,r,s⟩:=h c k;⟨v,g,r,stepsIn_wide.2 s⟩⟩
  all_goals exact h.elim
 |halt x g=>cases x<;>exact h
def lv(l:List Oper):Bool:=l.all λo=>match o.op with | .defer _=>false|_=>true
def B7{i:Nat}{o}(h:lv ops.toList=true)(hi:ops[i]?=some o):∀c,o.op≠.defer c:=λc e=>by
 have:=List.all_eq_true.1 h o (Array.mem_toList_iff.2 (Array.mem_of_getElem? hi));rw[e]at this;cases this
def LC(f:lv ops.toList=true)(g:¬ LetsOut Q){i K e}(d:∀a w,K a w->e a w){a w}(h:wpOp P ops Q i K a w):wpOpIn (Fence.wide.inRound l) n P ops Q i e a w:=by
 unfold wpOp at h;unfold wpOpIn;split;grind
 rename_i o c;simp[c]at h;split;rename_i b;rw[if_pos b]at h;rcases h with h|⟨_,h⟩
 exact Ox (B7 f c) (Oper.wp_mono d h);grind
 rename_i b;rw[if_neg b]at h;exact⟨λ_ _=>trivial,d _ _ h⟩
def zM(e:lv ops.toList=true)(f:¬ LetsOut Q):∀c b a w,wpAny P md ops Q c b a w->wpAnyIn (Fence.wide.inRound l) n P md ops Q c b a w
 |0,_,_,_,h=>h
 |c+1,_,_,_,h=>⟨h.1,λi g=>LC e f (λa w h=>zM e f c _ a w h) (h.2 i g)⟩
def mG{d a w}(c:lv ops.toList=true)(b:¬ LetsOut Q)(e:P.follows Ud=true)
 (h:wpAny P .any ops Q ops.size (Th ops.size false) a {w with drawn:=w.drawn+1}):(Ul d ops true).wpIn (Fence.wide.inRound l) n P Q a w:=wpIn_region_any e (zM c b _ _ _ _ h)
def qq{u a w l'}(m)(B:lv l'=true)(i:¬ LetsOut Q)(x:P.follows Ud=true)(r:UN .any l'.toArray m=true)
 (h:wpStill P l'.toArray {w with drawn:=w.drawn+1} (λp=>wpList P l'.toArray Q (l'.drop m) p {w with drawn:=w.drawn+1}) (l'.take m) a):(Ul u l'.toArray true).wpIn (Fence.wide.inRound l) n P Q a w:=by
 simp only[UN,Ug,decide_eq_true_eq]at r;have⟨⟨⟨⟨d,v⟩,y⟩,A⟩,q⟩:=r;have c:(l'.take m).length=m:=by grind
 have f:(l'.drop m).length=l'.toArray.size-m:=by simp
 have e:HeadInv .any l'.toArray m (Th l'.toArray.size false):=
  ⟨by simp,λj C _ s=>(by rw[getD_replicate_false]at s;cases s),λt _ z=>getD_in (by simpa using z) (getD_replicate_false ..)⟩
 have H:=wpAnyL_lex (md:= .any) (g:=l'.toArray.size-m) d y A v (l'.take m) 0 _ a (λj D=>by
  have k:j<m:=by omega
  simp[k]) (by simpa using c) e (by rw[c];omega) h
 refine mG B i x ?_;have:=wpAny_of_head (Q':=Q) (g:=l'.toArray.size-m) (λb p i=>by
  have:=wpAny_of_seq (md:= .any) (Q':=Q) (l'.drop m) m b p {w with drawn:=w.drawn+1} λj=>by simp[UB] (by rw[f];exact i.1) i.2
  rwa [f]at this) _ _ _ H
 rw[c,show m+(l'.toArray.size-m)=l'.toArray.size by omega]at this;omega
def gO{b S a w}(e:lv ops.toList=true)(d:¬ LetsOut Q)(c:P.follows Ud=true)
 (h:wpAnyH P .any ops Q S ops.size (Th ops.size false) a {w with drawn:=w.drawn+1}):(Ul b ops true).wpIn (Fence.wide.inRound l) n P Q a w:=mG e d c (wpAny_of_held _ _ _ _ h)
def oT{f a w l'}(j:lv l'=true)(i:¬ LetsOut Q)(g:P.follows Ud=true)(e:Region.lexB .any l'.toArray=true)
 (h:wpQuiet P l'.toArray (λb=>∃n,b=w.drewN n) (λd=>∀b,(∃n,b=w.drewN n)->Q Um d b) l' a):(Ul f l'.toArray true).wpIn (Fence.wide.inRound l) n P Q a w:=by
 simp[Region.lexB]at e;refine mG j i g (wpAny_of_quiet (C:=λb=>∃n,b=w.drewN n) (Q:=λd=>∀b,(∃n,b=w.drewN n)->Q Um d b) (λ_ b c h=>h b c) _ _ _ _ ⟨1,rfl⟩ ?_);simpa using wpAnyQ_lex (C:=λb=>∃n,b=w.drewN n) (md:= .any) e.1 l'.toArray.toList 0 (Th l'.toArray.size false) a (by simp) (by simpa using e.2) (by simpa using h)
def takeD{S e b a w}(i d v){f}(hi:ops[i]?=some f)(g:f.dst=some d)
 (hs:Region.noSelect ops=true) (k:Region.free md ops b i=true) (m:(Region.ready md ops b).contains i=true) (q:∀c a w,Q (.panic c) (a.put (some d) v) w->Q (.panic c) a w) (j:YieldsIf P ops S f v a) (p:S w)
 (h:wpAnyH P md ops Q S e (b.setIfInBounds i true) (a.put (some d) v) w):wpAnyH P md ops Q S (e+1) b a w:=
 wpAnyH_take hi hs k m (by rw[g];omega) j p (by rw[g];omega)
def wZ{S R:SG->Prop}{c b a w}(i d v f args){m}(hi:ops[i]?=some m)(t:m.dst=some d)(p:m.guard=none)(r:Region.ready md ops b=[i])
 (g:(SN a.eval m).run P w=SZ (TH f args) w) (s:Calls P f args w λe k=>e=SI v/\R k)
 (h:∀k,R k->S k/\wpAnyH P md ops Q S c (b.setIfInBounds i true) (a.put (some d) v) k):wpAnyH P md ops Q S (c+1) b a w:=
 wpAnyH_all r (by simp) λj q=>by
  obtain rfl:=Sv.1 q;simp[wpOp,hi];rw[if_pos (by simp[Tt,p])];refine .inl ?_;simp[Oper.wp,g];refine Calls.mono s ?_;grind
end
end
section
open Go.RowKit
attribute [local go_sem] TK
def o9{i l m v}{q d:Nat}{w}(f:a7 w q 279 #[AS SC i,v,AS SC l,AS SC m])(n:d<2000000):
 Calls PM 246 #[Su (some ⟨q,0,none⟩),AS SC d] w λe g=>e=SI (AS SC (bS l m d:Nat))/\g=w:=by
 have j:w.cell? ⟨q,2,none⟩=some (AS SC l):=f.cell 2;have k:w.cell? ⟨q,3,none⟩=some (AS SC m):=f.cell 3;have a:((bS l m d:Nat):Int)=if m<0/\l<=d then(d:Int)else(d:Int)+1:=by unfold bS;split <;>simp
 rw[a];by_cases b:m<0;by_cases c:l<=d
 .rw[if_pos ⟨b,c⟩];go_enter PM.func Tryz.func246 (by decide),Tryz.ntmps246
  go_wp2;all_goals
   go_ret;exact⟨rfl,rfl⟩
 .rw[if_neg λh=>c h.2];go_enter PM.func Tryz.func246 (by decide),Tryz.ntmps246
  go_wp2;all_goals
   go_ret;exact⟨rfl,rfl⟩
 rw[if_neg λh=>b h.1];go_enter PM.func Tryz.func246 (by decide),Tryz.ntmps246
 go_wp2;all_goals
  go_ret;exact⟨rfl,rfl⟩
def GS{fn p n g P R a W}(h:fn.results=#[.cell p 199])(d:a.tmps.getD p undef=Su (some ⟨g,0,none⟩))(c:a7 W g 199 (cR P))
 (f:a.defers=[]) (i:R (SI (ep P)) W):bodyPostM Tp n PM fn R .ret a W:=by
 show LeavesInM ..;rw[f];have⟨k,e,b⟩:=uQ;exact⟨_,results_cell_row h a.tmps _ g _ _ _ _ d c b rfl xQ,i⟩
def AA{E}(hE:fu E){id l m k d i q g1 g2 g3 g4 w}(hk:gy E k)
 (hn:Nd.rep id k l m∈subs E.R) (hd:d<2000000) (hi:i<=E.M.s.size) (hM:cI E w) (hR:Repr w E.S (SH 277 (Su (some ⟨q,0,none⟩))) (.rep id k l m)) (hc:Caps w g1 g2 g3 g4 277 q E.m d i)
 (hr:∀w1 c,cI E w1->Repr w1 E.S (SH 277 (Su (some ⟨q,0,none⟩))) (.rep id k l m)->c<=E.M.s.size->i<=c->i<c\/(d:Int)<l->
  Calls PM 245 #[Su (some ⟨q,0,none⟩),Su (some ⟨E.m,0,none⟩),AS SC (bS l m d:Nat),AS SC c] w1 (iH E c (dI E.M k l m (bS l m d) c) w1)):
 Calls PM 247 #[Su (some ⟨g2,0,none⟩),Su (some ⟨g1,0,none⟩),Su (some ⟨g4,0,none⟩),Su (some ⟨g3,0,none⟩)] w (iH E i (dI E.M k l m d i) w):=by
 rw[Bd hi hE.size];generalize hG:(λc=>if i<c\/(d:Int)<l then dI E.M k l m (bS l m d) c else 0)=G;replace hG:=AI hG;obtain⟨A,hA⟩:∃A,(if l<=(d:Int)then 1<<<i else 0)=A:=⟨_,rfl⟩;obtain⟨C,hC⟩:∃C,(if(d:Int)=m then 0 else dN G (bv E.M k i) 320)=C:=⟨_,rfl⟩;rw[hA,hC];replace hA:=AI hA;replace hC:=AI hC;obtain⟨v,hB,hSq,hRk⟩:∃v,a7 w q 279 #[AS SC id,v,AS SC l,AS SC m]/\E.S q/\Repr w E.S v k:=by
  cases hR with
  |rep a b c=>exact⟨_,b,a,c⟩
 obtain⟨p,rfl⟩:=ed hRk;have hl:=hE.rep id k l m hn;have k1:Kq w.heap.size [] w (w.alloc (Sz fY 199)):=(Kq.refl w).alloc (Sx _) _;have n1:a7 (w.alloc (Sz fY 199)) w.heap.size 199 (cR 0):=by rw[dz];exact a7.new w 199 _
 have L:=(EB.start hE hM hR hc).own (X:=[]) (Sx _) (λ_ h=>nomatch h) k1;have h1:=fN k ⟨p,0,none⟩;have h2:=gu k ⟨p,0,none⟩;have h3:=i9 k;refine callsIn_wide (n:=4).1 (callsIn_of_wp_marks (PM.func Tryz.func247 (by decide)) rfl trivial ?_ rfl);simp only[Tryz.ntmps247,T6,T9,Td,Tj,Ti,SU,SS,T7,SW,Tc,Ta];refine wpIn_wide.2 ?_;go_wp2;generalize w.alloc (Sz fY 199)=s at k1 n1 L ⊢;have hB1:=(L.old hE q hSq).trans hB;have hRk1:=hRk.keep (w':=s) λb D _=>L.old hE b D
 have v1:s.cell? ⟨g1,0,none⟩=some (Su (some ⟨q,0,none⟩)):=L.caps.b1.cell 0;have v2:s.cell? ⟨g2,0,none⟩=some (AS SC d):=L.caps.b2.cell 0;have v3:s.cell? ⟨g3,0,none⟩=some (Su (some ⟨E.m,0,none⟩)):=L.caps.b3.cell 0;have v4:s.cell? ⟨g4,0,none⟩=some (AS SC i):=L.caps.b4.cell 0;have v5:s.cell? ⟨q,1,none⟩=some (SH (bn k) (Su (some ⟨p,0,none⟩))):=a7.cell hB1 1;have v6:s.cell? ⟨q,2,none⟩=some (AS SC l):=a7.cell hB1 2;have v7:s.cell? ⟨q,3,none⟩=some (AS SC m):=a7.cell hB1 3;replace L:=AI L;replace n1:=AI n1;replace hr:=AI hr;have hB':=AI hB;have hRk':=AI hRk;have hsz:=hE.size;rcases(UE (l<=(d:Int))).imp AI AI with hle|hle
 case' inl=>
  have F:=hA.out;rw[if_pos hle.out]at F;have d1:decide (l<=(d:Int))=true:=decide_eq_true hle.out;go_quiet (fail)
  replace L:=AI (L.out.own (X:=[]) (Sx _) (λ_ h=>nomatch h) ((Kq.refl s).drewN nq));replace v1:=show(s.drewN nq).cell? _=_ from v1;replace v2:=show(s.drewN nq).cell? _=_ from v2;replace v3:=show(s.drewN nq).cell? _=_ from v3;replace v4:=show(s.drewN nq).cell? _=_ from v4;replace v5:=show(s.drewN nq).cell? _=_ from v5;replace v6:=show(s.drewN nq).cell? _=_ from v6;replace v7:=show(s.drewN nq).cell? _=_ from v7;replace n1:=AI (show a7 (s.drewN nq) .. from n1.out);generalize s.drewN nq=W2 at *;have hP:=oW w.heap.size i 0 W2 (by omega) n1.out;rw[Tq,F]at hP;replace hP:=AI hP;replace F:=AI F;go_wp2_with (first |(go_at_call 240;refine hP.out.mono ?_;rintro e H ⟨rfl,n3,k3⟩;have I:=AI (L.out.own (X:=[w.heap.size]) L.out.kq.kp.1 (λx M=>by rw[Sv.1 M];exact Sx _) k3);replace n3:=AI n3;clear k3 L n1 v1 v2 v3 v4 v5 v6 v7 hP F hA d1)|fail)
 case' inr=>
  have F:=hA.out;rw[if_neg hle.out]at F;have d1:decide (l<=(d:Int))=false:=decide_eq_false hle.out;replace F:=AI F;go_quiet (fail)
  replace L:=AI (L.out.own (X:=[]) (Sx _) (λ_ h=>nomatch h) ((Kq.refl s).drewN nq));rw[F.out]at n1;replace v1:=show(s.drewN nq).cell? _=_ from v1;replace v2:=show(s.drewN nq).cell? _=_ from v2;replace v3:=show(s.drewN nq).cell? _=_ from v3;replace v4:=show(s.drewN nq).cell? _=_ from v4;replace v5:=show(s.drewN nq).cell? _=_ from v5;replace v6:=show(s.drewN nq).cell? _=_ from v6;replace v7:=show(s.drewN nq).cell? _=_ from v7;replace n1:=AI (show a7 (s.drewN nq) .. from n1.out);generalize s.drewN nq=H at *;go_wp2;have I:=L;have n3:=n1;clear L n1 v1 v2 v3 v4 v5 v6 v7 F hA d1
 all_goals
  have hB3:=(I.out.old hE q hSq).trans hB'.out;have v1:H.cell? ⟨g1,0,none⟩=some (Su (some ⟨q,0,none⟩)):=I.out.caps.b1.cell 0;have v2:H.cell? ⟨g2,0,none⟩=some (AS SC d):=I.out.caps.b2.cell 0;have v3:H.cell? ⟨g3,0,none⟩=some (Su (some ⟨E.m,0,none⟩)):=I.out.caps.b3.cell 0;have v4:H.cell? ⟨g4,0,none⟩=some (AS SC i):=I.out.caps.b4.cell 0;have v5:H.cell? ⟨q,1,none⟩=some (SH (bn k) (Su (some ⟨p,0,none⟩))):=a7.cell hB3 1;have v7:H.cell? ⟨q,3,none⟩=some (AS SC m):=a7.cell hB3 3;have fr:=I.out.new;by_cases N:(d:Int)=m
  .have hC':=hC.out;rw[if_pos N]at hC';subst hC';have e1:((d:Int)==m)=true:=by simpa using N
   replace N:=AI N;go_quiet (fail)
   replace I:=AI (I.out.own (X:=[]) (Sx _) (λ_ h=>nomatch h) ((Kq.refl H).drewN nq));replace n3:=AI (show a7 (H.drewN nq) .. from n3.out);replace v1:=show(H.drewN nq).cell? _=_ from v1;generalize H.drewN nq=Z at *;have D:=n3;have fz:∀j,Z.frozen? ⟨w.heap.size,j,none⟩=false:=D.out.frozen;have r0:Z.cell? ⟨w.heap.size,0,none⟩=some (AS Sw (wz A.testBit 0)):=D.out.cell 0;have r1:Z.cell? ⟨w.heap.size,1,none⟩=some (AS Sw (wz A.testBit 1)):=D.out.cell 1;have r2:Z.cell? ⟨w.heap.size,2,none⟩=some (AS Sw (wz A.testBit 2)):=D.out.cell 2;have r3:Z.cell? ⟨w.heap.size,3,none⟩=some (AS Sw (wz A.testBit 3)):=D.out.cell 3;have r4:Z.cell? ⟨w.heap.size,4,none⟩=some (AS Sw (wz A.testBit 4)):=D.out.cell 4;go_wp2;refine GS rfl rfl (dc D.out) rfl ?_;have E5:=I.out.own (X:=[w.heap.size]) I.out.kq.kp.1 (λx M=>by rw[Sv.1 M];exact Sx _) (ba (q:=A) (g:=w.heap.size) (Kq.refl (B:=Z.heap.size) (X:=[w.heap.size]) Z) λ_=>Sv.2 rfl);exact⟨by rw[Uk],E5.mem,E5.kq⟩
  .have hC':=hC.out;rw[if_neg N]at hC';subst hC';have e1:((d:Int)==m)=false:=by simpa using N
   replace N:=AI N;go_quiet (fail)
   replace I:=AI (I.out.own (X:=[]) (Sx _) (λ_ h=>nomatch h) ((Kq.refl H).drewN nq));replace n3:=AI (show a7 (H.drewN nq) .. from n3.out);replace v1:=show(H.drewN nq).cell? _=_ from v1;replace v2:=show(H.drewN nq).cell? _=_ from v2;replace v3:=show(H.drewN nq).cell? _=_ from v3;replace v4:=show(H.drewN nq).cell? _=_ from v4;replace v5:=show(H.drewN nq).cell? _=_ from v5;replace v7:=show(H.drewN nq).cell? _=_ from v7;generalize H.drewN nq=Z at *;have hRk4:=hRk'.out.keep (w':=Z.drew) λb D _=>I.out.old hE b D
   have hCk:=AI (hk Z.drew p i (I.out.mem.kq (Kq.refl _).drew) hRk4 hi);replace I:=AI (I.out.own (X:=[]) (Sx _) (λ_ h=>nomatch h) (Kq.refl Z).drew);have n4:Hid (a7 Z.drew w.heap.size 199 (cR A)):=AI n3.out;go_wp2;go_still_tail 6,by kernel_rfl
   change wpList _ _ _ _ _ Z.drew;go_wp2;refine hCk.out.mono ?_;rintro e w5 ⟨rfl,hM5,k5⟩;have E5:=AI (I.out.asked hE hM5 k5);have n5:=AI (I.out.stay n4.out (Sx _) k5);go_wp2;have hw:=AI (bZ E.M k i hi);refine wpIn_wide (n:=4).1 (qe (X:=[E.r,w.heap.size]) (t:=29) (p:=bv E.M k i) (by decide) rfl ?_
    (λj W=>EB E (.rep id k l m) 277 q g1 g2 g3 g4 d i w W/\∃r,a7 W w.heap.size 199 (cR r)/\r|||dN G (bv E.M k i) j=A|||dN G (bv E.M k i) 320)
    (λ_ _ _=>False) ?_ (λ_ _ _ _ h _=>h) ?_ ?_ ?_ ?_ ?_ ?_ λ_ _ _ _ _ h=>h.elim)
   case refine_6=>
    intro ll j W K hK;gi_wp2
    exact hK
   case refine_1=>
    intro x M;have:=n5.out.lt;have:=E5.out.kq.kp.1;simp only[SM,Sy,or_false]at M;rcases M with rfl|rfl<;>omega
   case refine_2=>
    rintro j W W' ⟨y,r,T,z⟩ hk;have h2:=n5.out.lt;exact⟨y.own (X:=[]) (Ue h2) (λ_ h=>nomatch h) hk,r,T.kq hk h2 Sy,z⟩
   case refine_3=>
    rintro j W ⟨y,r,T,z⟩ D;refine⟨y,r,T,?_⟩;rw[<- z,dN,if_neg (by rw[D];simp),Tq]
   case refine_4=>exact⟨E5.out,A,n5.out,rfl⟩
   case refine_8=>
    rintro W ⟨y,r,T,z⟩ hK;have hlt2:=n5.out.lt;rw[dN,Uk]at z;subst z;have D:=AI T;have hE3:=AI y;generalize A|||dN G (bv E.M k i) 320=P at *
    have fz:∀j,W.frozen? ⟨w.heap.size,j,none⟩=false:=D.out.frozen;have r0:W.cell? ⟨w.heap.size,0,none⟩=some (AS Sw (wz P.testBit 0)):=D.out.cell 0;have r1:W.cell? ⟨w.heap.size,1,none⟩=some (AS Sw (wz P.testBit 1)):=D.out.cell 1;have r2:W.cell? ⟨w.heap.size,2,none⟩=some (AS Sw (wz P.testBit 2)):=D.out.cell 2;have r3:W.cell? ⟨w.heap.size,3,none⟩=some (AS Sw (wz P.testBit 3)):=D.out.cell 3;have r4:W.cell? ⟨w.heap.size,4,none⟩=some (AS Sw (wz P.testBit 4)):=D.out.cell 4;replace hK:=AI hK;go_wp2;have b5:=dc (q:=P) D.out;have kf:=ba (q:=P) (g:=w.heap.size) (Kq.refl (B:=w5.heap.size+1) (X:=[w.heap.size]) W) λ_=>Sv.2 rfl
    generalize Ux .. =WF at b5 kf ⊢;have hD:=(kf.kp.2 w5.heap.size (TE _) λM=>by have:=Sv.1 M;omega).trans hK.out;refine Ax rfl rfl b5 rfl hD λhg=> ?_
    have E4:=hE3.out.own (X:=[w.heap.size]) E5.out.kq.kp.1 (λx M=>by rw[Sv.1 M];exact Sx _) ((kf.mono (UH _) λ_ h _=>h).put (l:=w5.heap.size) (λh=>absurd h (T4 _)) (SQ none));exact⟨rfl,E4.mem,E4.kq⟩
   case refine_7=>
    rintro ll j W hlt hj D ⟨y,r,T,z⟩;have hjs:=hw.out j D;rw[dN,if_pos D]at z;have hE6:=AI y;have n6:=AI T;have v1:W.cell? ⟨g1,0,none⟩=some (Su (some ⟨q,0,none⟩)):=y.caps.b1.cell 0;have v2:W.cell? ⟨g2,0,none⟩=some (AS SC d):=y.caps.b2.cell 0;have v3:W.cell? ⟨g3,0,none⟩=some (Su (some ⟨E.m,0,none⟩)):=y.caps.b3.cell 0;have v4:W.cell? ⟨g4,0,none⟩=some (AS SC i):=y.caps.b4.cell 0;have hBq:=(y.old hE q hSq).trans hB'.out;have v6:W.cell? ⟨q,2,none⟩=some (AS SC l):=a7.cell hBq 2;gi_wp2
    have hL:∀{K:Act->SG->Prop}{O2 Yx},¬ LetsOut (Exit.then K (UD 1 (jY [E.r,w.heap.size] W O2 Yx))):=λ⟨_,_,h⟩=>h
    rcases(UE (i<j\/(d:Int)<l)).imp AI AI with hc|hc
    .have hGj:G j=dI E.M k l m (bS l m d) j:=by rw[<- hG.out];exact if_pos hc.out
     rw[hGj]at z;rcases(UE (i<j)).imp AI AI with hij|hij
     case' inl=>
      have e1:decide (i<j)=true:=decide_eq_true hij.out
     case' inr=>
      have e1:decide (i<j)=false:=decide_eq_false hij.out;have e2:decide ((d:Int)<l)=true:=decide_eq_true (hc.out.resolve_left hij.out)
     all_goals
      refine oT (by kernel_rfl) hL (by kernel_rfl) (by kernel_rfl) ?_;repeat(go_big_quiet_step (fail))
      refine wpQuiet_nil ?_;intro _ hw';obtain⟨nq,rfl⟩:=hw';have hS:EB E (.rep id k l m) 277 q g1 g2 g3 g4 d i w (W.drewN nq).drew:=hE6.out.own (X:=[]) (Sx _) (λ_ h=>nomatch h) ((Kq.refl W).drewN nq).drew;have n7:Hid (a7 (W.drewN nq).drew w.heap.size 199 (cR r)):=AI n6.out;have z0:W.heap.size=(W.drewN nq).drew.heap.size:=rfl;have kW:Hid (Kq W.heap.size [] W (W.drewN nq).drew):=AI ((Kq.refl W).drewN nq).drew;gi_wp2
      have hL2:∀{O2 Yx},¬ LetsOut (UD 1 (jY [E.r,w.heap.size] W O2 Yx)):=λ⟨_,_,h⟩=>h
      refine gO (S:=EB E (.rep id k l m) 277 q g1 g2 g3 g4 d i w) (by kernel_rfl) hL2 (by kernel_rfl) ?_;show wpAnyH _ _ _ _ _ 8 _ _ (W.drewN nq).drew;generalize (W.drewN nq).drew=W6 at hS n7 kW z0 ⊢;refine takeD 0 41 (Su (some ⟨q,0,none⟩)) rfl rfl (by kernel_rfl) (by kernel_rfl) (by kernel_rfl) (λ_ _ _ h=>h) (TY ⟨by rfl,λw' Q=> ?_⟩) hS ?_
      .have h1:=Q.caps.b1.cell 0;go_simp
      simp only[Tf,zq0];refine takeD 1 42 (Su (some ⟨E.m,0,none⟩)) rfl rfl (by kernel_rfl) (by kernel_rfl) (by kernel_rfl) (λ_ _ _ h=>h) (TY ⟨by rfl,λw' Q=> ?_⟩) hS ?_
      .have h1:=Q.caps.b3.cell 0;go_simp
      simp only[Tf,zq0];refine takeD 2 43 (Su (some ⟨q,0,none⟩)) rfl rfl (by kernel_rfl) (by kernel_rfl) (by kernel_rfl) (λ_ _ _ h=>h) (TY ⟨by rfl,λw' Q=> ?_⟩) hS ?_
      .have h1:=Q.caps.b1.cell 0;go_simp
      simp only[Tf,zq0];refine takeD 3 44 (AS SC d) rfl rfl (by kernel_rfl) (by kernel_rfl) (by kernel_rfl) (λ_ _ _ h=>h) (TY ⟨by rfl,λw' Q=> ?_⟩) hS ?_
      .have h1:=Q.caps.b2.cell 0;go_simp
      simp only[Tf,zq0];refine takeD 5 46 (AS SC j) rfl rfl (by kernel_rfl) (by kernel_rfl) (by kernel_rfl) (λ_ _ _ h=>h) (TY ⟨by rfl,λw' Q=> ?_⟩) hS ?_
      .skip
       go_simp
      simp only[Tf,zq0];have hA:=o9 ((hS.old hE q hSq).trans hB'.out) hd;refine wZ (R:=λu=>u=W6) 4 45 _ 246 _ rfl rfl rfl (by kernel_rfl) (by go_simp) hA ?_;rintro u hu;subst u;refine⟨hS,?_⟩;simp only[Tf,zq0];have hR:=hr.out W6 j hS.mem hS.rep hjs.2 hjs.1 hc.out;refine wZ (R:=λu=>cI E u/\Kq W6.heap.size [E.r] W6 u) 6 47 _ 245 #[Su (some ⟨q,0,none⟩),Su (some ⟨E.m,0,none⟩),AS SC (bS l m d:Nat),AS SC j] rfl rfl rfl (by kernel_rfl) (by go_simp) hR ?_;rintro W7 ⟨hM7,k7⟩;have E7:=hS.asked hE hM7 k7;have n8:=hS.stay n7.out (Sx _) k7;refine⟨E7,?_⟩;simp only[Tf,zq0];have hJ:=r5 w.heap.size r (dI E.M k l m (bS l m d) j) W7 n8;refine wZ (R:=λu=>a7 u w.heap.size 199 (cR (r|||dI E.M k l m (bS l m d) j))/\Kq W7.heap.size [w.heap.size] W7 u) 7 48 _ 235 #[Su (some ⟨w.heap.size,0,none⟩),ep (dI E.M k l m (bS l m d) j)] rfl rfl rfl (by kernel_rfl) (by go_simp) hJ ?_;rintro W8 ⟨b8,k8⟩;have E8:=E7.own (X:=[w.heap.size]) E7.kq.kp.1 (λx M=>by rw[Sv.1 M];exact Sx _) k8;refine⟨E8,wpAnyH_done (by kernel_rfl) ?_ _⟩;have z1:=k7.kp.1;refine⟨((kW.out.mono (Sx _) nofun).trans (k7.mono (by omega) λx M _=>by simp at M ⊢;exact .inl M)).trans (k8.mono (by omega) λx M _=>by simp at M ⊢;exact .inr M),E8,_,b8,?_⟩;rw[<- z,Uz]
    .have hGj:G j=0:=by rw[<- hG.out];exact if_neg hc.out
     rw[hGj,Tq]at z;have e1:decide (i<j)=false:=decide_eq_false λh=>hc.out (.inl h)
     have e2:decide ((d:Int)<l)=false:=decide_eq_false λh=>hc.out (.inr h)
     refine oT (by kernel_rfl) hL (by kernel_rfl) (by kernel_rfl) ?_;repeat(go_big_quiet_step (fail))
     refine wpQuiet_nil ?_;intro _ hw';obtain⟨nq,rfl⟩:=hw';gi_wp2
     exact⟨(Kq.refl W).drewN nq,hE6.out.own (X:=[]) (Sx _) (λ_ h=>nomatch h) ((Kq.refl W).drewN nq),r,n6.out,z⟩
end
section
open Go.RowKit
def uo{E}(C:fu E){G l m k}(N:gy E k)(hn:Nd.rep G k l m∈subs E.R)(n):∀(d i:Nat),(l-d).toNat+(E.M.s.size-i)<n->d+n<=2000000->∀w q,cI E w->Repr w E.S (SH 277 (Su (some ⟨q,0,none⟩))) (.rep G k l m)->i<=E.M.s.size->
 Calls PM 245 #[Su (some ⟨q,0,none⟩),Su (some ⟨E.m,0,none⟩),AS SC d,AS SC i] w (iH E i (dI E.M k l m d i) w):=by
 induction n with
 |zero=>intro d i h;omega
 |succ n ih=>
  intro d i f hd w q hM hR hi;have⟨v,W⟩:∃v,a7 w q 279 #[.int .i64 G,v,.int .i64 l,.int .i64 m]:=by
   cases hR with
   |rep a b c=>exact⟨_,b⟩
  have⟨s,F,t⟩:=KL w 277 q E.m d i;go_enter PM.func Tryz.func245 (by decide),Tryz.ntmps245
  go_wp2;generalize TJ .. =r at s F t ⊢;have y:=hM.kq t;have z:=hR.keep (w':=r) λb _ f=>t.kp.2 b f Sy
  have T:=W.kq t W.lt Sy;have fr:=hM.fresh C;have v1:r.cell? ⟨w.heap.size,0,none⟩=some (Su (some ⟨q,0,none⟩)):=s.b1.cell 0;have v2:r.cell? ⟨w.heap.size+1+1,0,none⟩=some (AS SC d):=s.b2.cell 0;have v3:r.cell? ⟨w.heap.size+1,0,none⟩=some (Su (some ⟨E.m,0,none⟩)):=s.b3.cell 0;have v4:r.cell? ⟨w.heap.size+1+1+1,0,none⟩=some (AS SC i):=s.b4.cell 0;have v6:r.cell? ⟨q,0,none⟩=some (AS SC G):=T.cell 0;replace s:=AI s;replace F:=AI F;replace t:=AI t;replace y:=AI y;replace z:=AI z;replace f:=AI f;go_still_tail 10,by kernel_rfl
  change wpList _ _ _ _ _ r.drew;go_wp2;have B:∀p w,(U7 247 p).run PM w=SZ (TH 247 p) w:=λp w=>PH.call p w rfl
  have hz:=t.out.kp.1;refine(y7 C hn (d:=d) (i:=i) (by omega) (by have:=C.size;omega) rfl 247 _ r.drew B (y.out.kq (Kq.refl _).drew) λw1 Z M=> ?_).mono ?_
  .refine AA C N hn (by omega) hi M (z.out.keep λb _ f=>Z.kp.2 b f Sy) ((s.out.kq (Kq.refl r).drew λg I=>⟨s.out.lt g I,Sy⟩).kq Z λg I=>⟨s.out.lt g I,Sy⟩) λw2 c L H K hic hgo=> ?_
   have:=f.out;exact ih (bS l m d) c (by unfold bS;split <;>omega) (by unfold bS;split <;>omega) w2 q L H K
  .rintro e A ⟨rfl,S,Q⟩;have D:Kq r.heap.size [E.r] r A:=⟨Q.kp,Q.os,Q.out⟩;have u:=AI (F.out.kq D F.out.lt λR=>by have:=Sv.1 R;omega);have N:=AI ((t.out.mono (Sx _) nofun:Kq w.heap.size [E.r] w r).trans (D.mono hz λ_ h _=>h));have L:=AI S;generalize dI E.M _ l m d i=P at *;have fz:∀j,A.frozen? ⟨w.heap.size+1+1+1+1,j,none⟩=false:=u.out.frozen;have r0:A.cell? ⟨w.heap.size+1+1+1+1,0,none⟩=some (AS Sw (wz (SF 0) 0)):=u.out.cell 0;have r1:A.cell? ⟨w.heap.size+1+1+1+1,1,none⟩=some (AS Sw (wz (SF 0) 1)):=u.out.cell 1;have r2:A.cell? ⟨w.heap.size+1+1+1+1,2,none⟩=some (AS Sw (wz (SF 0) 2)):=u.out.cell 2;have r3:A.cell? ⟨w.heap.size+1+1+1+1,3,none⟩=some (AS Sw (wz (SF 0) 3)):=u.out.cell 3;have r4:A.cell? ⟨w.heap.size+1+1+1+1,4,none⟩=some (AS Sw (wz (SF 0) 4)):=u.out.cell 4;unfold ep cR fU;go_wp2;refine cO rfl rfl (dc u.out) rfl ⟨rfl,L.out.hZ C (X:=[w.heap.size+1+1+1+1]) (λx R=> ?_) (ba (Kq.refl _) λ_=>Sv.2 rfl),ba N.out λh=>absurd h (by omega)⟩;obtain rfl:=Sv.1 R;exact⟨by omega,by omega,λh=>by have:=fr.2.2 _ h;omega⟩
def CV{E}(f:fu E){s l m k}(z:gy E k)(y:Nd.rep s k l m∈subs E.R):gy E (.rep s k l m):=by
 intro w q i u C B;rw[yK];show Calls PM 242 ..;have H:=f.rep s k l m y;have A:=f.size;have c:Kq w.heap.size [] w (w.alloc (Sz fY 199)):=(Kq.refl w).alloc (Sx _) _;have g:a7 (w.alloc (Sz fY 199)) w.heap.size 199 (cR 0):=by rw[dz];exact a7.new w 199 _
 have M:=u.fresh f;have p:=uo f z y (l.toNat+400) 0 i (by omega) (by omega) _ q (u.kq c) (C.keep λb a r=>c.kp.2 b r Sy) B;replace p:=AI p;replace c:=AI c;replace g:=AI g;generalize dI E.M k l m 0 i=P at *;go_enter PM.func Tryz.func242 (by decide),Tryz.ntmps242
 go_wp2;refine p.out.mono ?_;rintro e d ⟨rfl,n,t⟩;have a:=AI (g.out.kq t g.out.lt λv=>by have:=Sv.1 v;omega);have I:∀j,d.frozen? ⟨w.heap.size,j,none⟩=false:=a.out.frozen;have K:d.cell? ⟨w.heap.size,0,none⟩=some (AS Sw (wz (SF 0) 0)):=a.out.cell 0;have F:d.cell? ⟨w.heap.size,1,none⟩=some (AS Sw (wz (SF 0) 1)):=a.out.cell 1;have D:d.cell? ⟨w.heap.size,2,none⟩=some (AS Sw (wz (SF 0) 2)):=a.out.cell 2;have G:d.cell? ⟨w.heap.size,3,none⟩=some (AS Sw (wz (SF 0) 3)):=a.out.cell 3;have L:d.cell? ⟨w.heap.size,4,none⟩=some (AS Sw (wz (SF 0) 4)):=a.out.cell 4;unfold ep cR fU;go_wp2;refine cO rfl rfl (dc a.out) rfl ⟨rfl,(AI n).out.hZ f (X:=[w.heap.size]) (λx v=> ?_) (ba (Kq.refl _) λ_=>Sv.2 rfl),ba (AI ((c.out.mono (Sx _) nofun:Kq w.heap.size [E.r] w _).trans (t.mono c.out.kp.1 λ_ h _=>h))).out λh=>absurd h (by omega)⟩;grind
def sub_self:∀a,a∈subs a
 | .set .. =>by simp[subs]
 | .edge .. =>by simp[subs]
 | .seq .. =>by simp[subs]
 | .alt .. =>by simp[subs]
 | .grp .. =>by simp[subs]
 | .rep .. =>by simp[subs]
structure te(E:ME):Prop where
 set:∀i a b c d,Nd.set i a b c d∈subs E.R->Bt a/\Bt b/\Bt c/\Bt d
 alt:∀i ks,Nd.alt i ks∈subs E.R->ks.length<1000000
mutual
def ox{E}(r:fu E)(t:te E):∀C,(∀a∈subs C,a∈subs E.R)->gy E C
 | .set i a b c d,h=>λw q j A z y=>by
  cases z with
  |set _ B=>
   have⟨H,D,F,G⟩:=t.set i a b c d (h _ (sub_self _));exact CL r H D F G A B y
 | .edge i f,h=>λw q j A z y=>by
  cases z with
  |edge _ B=>exact BF r A B y
 | .seq i s,h=>CN r (ul r (mp r t s λa u=>h a (by rw[subs];grind)) (h _ (sub_self _)) _ 0 rfl (TZ _))
 | .alt i s,h=>Do r (mp r t s λa u=>h a (by rw[subs];grind)) (h _ (sub_self _)) (t.alt i s (h _ (sub_self _)))
 | .grp i k n,h=>Db r (ox r t k λa u=>h a (by rw[subs];grind))
 | .rep i k l m,h=>CV r (ox r t k λa u=>h a (by rw[subs];grind)) (h _ (sub_self _))
def mp{E:ME}(r:fu E)(t:te E):∀s,(∀a∈gJ s,a∈subs E.R)->∀k∈s,gy E k
 |[],_,k,v=>by cases v
 |x::s,h,k,v=>by
  rcases SM.1 v with e|v<;>first |(have:=ox r t x λa u=>h a (Uw _ u);rw[e];omega)|exact mp r t s (λa u=>h a (Ur _ u)) k v
end
def du(T:cS)(l:List B4):cS:=λc=>T c||l.any λb=>iw b.1 b.2.1 b.2.2.1 b.2.2.2 c
def se(T):du T []=T:=funext λc=>by simp[du]
def sf(T a b):du T (a++b)=du (du T a) b:=funext λc=>by simp[du,Bool.or_assoc]
def firstFn:Nd->Nat
 | .set .. =>252
 | .edge .. =>249
 | .seq .. =>237
 | .alt .. =>230
 | .grp .. =>255
 | .rep .. =>243
def ja(b a w):(method 446 (bn b) (Su (some a)) "posix/tree.first").run PM w=SZ (firstFn b,Su (some a)) w:=by cases b<;>kernel_rfl
def jL(b a w):(nilAhead 446 (bn b) (Su (some a)) "posix/tree.first").run PM w=SZ (some false) w:=by cases b<;>kernel_rfl
def kX(a args w):(U7 (firstFn a) args).run PM w=SZ (TH (firstFn a) args) w:=by cases a<;>simp[firstFn,go_sem]
def oL(b:Nat)(T:cS)(x:List B4×Bool)(w:SG)(e:Ending)(a:SG):Prop:=e=SI (Tg x.2)/\a7 a b 77 (words (du T x.1))/\Kq w.heap.size [b] w a
def fh(S:Nat->Prop)(a:Nd):Prop:=∀(w:SG)(q b:Nat)(T:cS),Repr w S (SH (bn a) (Su (some ⟨q,0,none⟩))) a->¬ S b->a7 w b 77 (words T)->
 Calls PM (firstFn a) #[Su (some ⟨q,0,none⟩),Su (some ⟨b,0,none⟩)] w (oL b T (bj a) w)
def zt{S i f}:fh S (.edge i f):=by
 intro w q b T c a d;show Calls PM 249 ..;go_enter PM.func Tryz.func249 (by decide),Tryz.ntmps249
 go_wp2;go_ret;exact⟨rfl,by rw[bj,se];omega,.refl _⟩
def Bq{S m f k}(i:fh S k):fh S (.grp m k f):=by
 intro w q b T n h j;rw[bj];cases n with
 |grp v d a=>
 obtain⟨p,rfl⟩:=ed a;have z:=ja k ⟨p,0,none⟩;have u:=jL k ⟨p,0,none⟩;have y:=kX k;have t:w.cell? ⟨q,1,none⟩=some (SH (bn k) (Su (some ⟨p,0,none⟩))):=d.cell 1;have l:=AI (i w p b T a h j);show Calls PM 255 ..;go_enter PM.func Tryz.func255 (by decide),Tryz.ntmps255
 go_wp2;refine l.out.mono ?_;rintro e s ⟨rfl,c,g⟩;have r:=AI (show oL b T (bj k) w (SI (Tg (bj k).2)) s from⟨rfl,c,g⟩);generalize (bj k).2=x at *;go_wp2;go_ret;exact r.out
def AB{S C l m k}(H:I64 l)(z:fh S k):fh S (.rep C k l m):=by
 intro w q b T D t B;rw[bj];cases D with
 |rep A a g=>
 obtain⟨p,rfl⟩:=ed g;have K:=ja k ⟨p,0,none⟩;have G:=jL k ⟨p,0,none⟩;have E:=kX k;have F:w.cell? ⟨q,1,none⟩=some (SH (bn k) (Su (some ⟨p,0,none⟩))):=a.cell 1;have y:=AI (z w p b T g t B);have v:=a.lt;have n:q∉[b]:=λh=>t (Sv.1 h▸A)
 have d:=AI a;show Calls PM 243 ..;go_enter PM.func Tryz.func243 (by decide),Tryz.ntmps243
 go_wp2;refine y.out.mono ?_;rintro e u ⟨rfl,j,s⟩;have r:∀x,x=((bj k).2||l==0)->Hid (oL b T ((bj k).1,(bj k).2||l==0) w (SI (Tg x)) u):=λx c=>AI (by rw[c];exact⟨rfl,j,s⟩)
 have I:u.cell? ⟨q,2,none⟩=some (AS SC l):=(d.out.kq s v n).cell 2;replace r:=AI r;cases c:(bj k).2
 .by_cases f:l=0
  .have i:(l==0)=true:=by simp[f]
   go_wp2;go_ret;exact(r.out _ (by rw[c,i];rfl)).out
  .have i:(l==0)=false:=by simp[f]
   go_wp2;go_ret;exact(r.out _ (by rw[c,i];rfl)).out
 .go_wp2;go_ret;exact(r.out _ (by rw[c];rfl)).out
def nN(f:Nat->Int):Array TG:=#[AS Sw (f 0),AS Sw (f 1),AS Sw (f 2),AS Sw (f 3)]
def J4{w q t f i}(h:a7 w q t (nN f))(a:i<4):w.cell? ⟨q,i,none⟩=some (AS Sw (f i)):=by
 have:=h.cell i;rw[this];match i,a with
 |0,_=>rfl
 |1,_=>rfl
 |2,_=>rfl
 |3,_=>rfl
def LD{w q t f g i}(h:a7 w q t (nN f))(b:i<4)(a:∀j,j≠i->g j=f j):a7 (w.setCell ⟨q,i,none⟩ (AS Sw (g i))) q t (nN g):=by
 have:=h.bI i (AS Sw (g i));have e:(nN f).setIfInBounds i (AS Sw (g i))=nN g:=by
  match i,b with
  |0,_=>simp[nN,a 1,a 2,a 3]
  |1,_=>simp[nN,a 0,a 2,a 3]
  |2,_=>simp[nN,a 0,a 1,a 3]
  |3,_=>simp[nN,a 0,a 1,a 2]
 rw[e]at this;omega
def GF{w q S a k}(h:a7 w q 298 #[AS SC a,AS Sw (wz S 0),AS Sw (wz S 1),AS Sw (wz S 2),AS Sw (wz S 3)])(b:k<4):w.cell? ⟨q,1+k,none⟩=some (AS Sw (wz S k)):=by
 rw[h.cell (1+k)];match k,b with
 |0,_=>rfl
 |1,_=>rfl
 |2,_=>rfl
 |3,_=>rfl
def Ar{S F v u t B}(h0:0<=v/\v<18446744073709551616)(n:0<=u/\u<18446744073709551616)(L:0<=t/\t<18446744073709551616)(I:0<=B/\B<18446744073709551616):fh S (.set F v u t B):=by
 intro w q b T W H r;rw[bj];have⟨C,d⟩:S q/\a7 w q 298 #[.int .i64 F,.int .u64 v,.int .u64 u,.int .u64 t,.int .u64 B]:=by
  cases W with
  |set a b=>exact⟨a,b⟩
 obtain⟨R,P,rfl,rfl,rfl,rfl⟩:=Lk h0 n L I;have A:∀i,i<4->wz (du T [(wz R 0,wz R 1,wz R 2,wz R 3)]) i=bits .or Sw (wz T i) (wz R i):=λi hi=>by
  rw[Dp];refine nL λj K=> ?_
  simp only[du,List.any_cons,List.any_nil,Bool.or_false];rw[P _ (by omega)]
 have⟨V,x⟩:∃V,du T [(wz R 0,wz R 1,wz R 2,wz R 3)]=V:=⟨_,rfl⟩;rw[x]at A;replace x:=AI x;have l:q≠b:=λh=>H (h▸C)
 have D:=d.lt;replace A:=AI A;replace l:=AI l;replace r:a7 w b 77 (nN (wz T)):=r;replace r:=AI r;replace d:=AI d;show Calls PM 252 ..;go_enter PM.func Tryz.func252 (by decide),Tryz.ntmps252
 go_wp2;go_loopw [6] (λc wr=>∃k:Nat,k<=4/\c=AS SC k/\a7 wr b 77 (nN λj=>if j<k then wz V j else wz T j)/\Kq w.heap.size [b] w wr) λc _=>4- (intOf c).toNat
 case atStart=>exact⟨0,by omega,rfl,by simpa using r.out,.refl _⟩
 case round=>
  obtain⟨k,N,rfl,f,G⟩:=hrel;have e:=AI f;have s:=AI G;by_cases h:k<4
  .have X:wr.cell? ⟨b,k,none⟩=some (AS Sw (wz T k)):=(J4 f h).trans (by rw[if_neg (T4 _)]);have c1:wr.cell? ⟨q,1+k,none⟩=some (AS Sw (wz R k)):=GF (d.out.kq G D λM=>l.out (Sv.1 M)) h;have Z:∀i,wr.frozen? ⟨b,i,none⟩=false:=f.frozen;have Q:=(A.out k h).symm;have⟨z,y⟩:∃z,wz V k=z:=⟨_,rfl⟩;rw[y]at Q;replace y:=AI y;go_wp2;go_region
   go_wp2;go_roundw
   case rel=>
    refine⟨k+1,by omega,by push_cast;rfl,?_,(s.out.setCell (p:=⟨b,k,none⟩) (λ_=>Sv.2 rfl) _).drew⟩;have:=LD (g:=λj=>if j<k+1 then wz V j else wz T j) e.out h λj K=>by
     by_cases n:j<k
     .rw[if_pos n,if_pos (Ua n)]
     .rw[if_neg n,if_neg (by omega)]
    rw[if_pos (TE k),y.out]at this;exact this.drew
   case measure=>simp[intOf];omega
  .obtain rfl:k=4:=by omega
   go_wp2;go_ret;exact⟨rfl,by show a7 _ _ _ (words (du _ _));rw[x.out];exact e.out,s.out⟩
def Au{S id g}(hk:∀k∈g,fh S k)(hlen:g.length<1000000):fh S (.seq id g):=by
 intro w q b T hR hb hB;rw[bj];obtain⟨sl,D,hBq,j,hS,hvl,m⟩:∃sl D,a7 w q 260 #[AS SC id,sl]/\w.ownsRow 0 62 1 sl D.length D/\(∀b,sl.ownBlock=some b->S b)/\D.length=g.length/\∀(i:Nat) v k,D[i]?=some v->g[i]?=some k->Repr w S v k:=by
  cases hR with
  |seq a b c d e f=>exact⟨_,_,b,c,d,e,f⟩
 obtain⟨sa,cap,rfl⟩:=nH j;rw[hvl]at hBq;have v5:w.cell? ⟨q,1,none⟩=some (TN sa g.length cap):=hBq.cell 1;replace hB:Hid (a7 w b 77 (words T)):=AI hB;replace m:=AI m;replace j:=AI j;replace hk:=AI hk;show Calls PM 237 ..;go_enter PM.func Tryz.func237 (by decide),Tryz.ntmps237
 go_wp2;go_loopw [12] (λc wr=>∃(n:Nat)(V:cS),n<=g.length/\c=AS SC n/\a7 wr b 77 (words V)/\Kq w.heap.size [b] w wr/\du V (iD (g.drop n)).1=du T (iD g).1/\(iD (g.drop n)).2=(iD g).2) λc _=>g.length- (intOf c).toNat
 case atStart=>exact⟨0,T,TZ _,rfl,hB.out,.refl _,by rw[Tb],by rw[Tb]⟩
 case round=>
  obtain⟨n,V,hnl,rfl,B,u,s,l⟩:=hrel;rcases TP n g.length with A|hge
  .have⟨gr,cap',cur,he,hGr,t⟩:=o7 j.out (SE (by omega:n<D.length));cases he;have hSg:=hS gr rfl;have hSw:∀a,S a->a∉[b]:=λa ha h=>hb (Sv.1 h▸ha)
   have hG2:a7 wr gr 62 cur:=hGr.kq u hGr.lt (hSw _ hSg);have z:=(m.out n _ _ (SE (by omega)) (SE A)).keep (w':=wr) λa ha h=>u.kp.2 a h (hSw _ ha)
   have⟨p,hp⟩:=ed z;rw[hp]at t z;have hC:=hk.out g[n] (Te A) wr p b V z hb B;rw[SO A,iD]at s l;have h1:=ja g[n] ⟨p,0,none⟩;have h2:=jL g[n] ⟨p,0,none⟩;have h3:=kX g[n];have v6:wr.cell? ⟨gr,n,none⟩=some (SH (bn g[n]) (Su (some ⟨p,0,none⟩))):=(hG2.cell n).trans t;replace hC:=AI hC;replace s:=AI s;replace l:=AI l;replace u:=AI u;generalize hfk:firstFn g[n]=fk at *;generalize htk:bn g[n]=tk at *;generalize hP:bj g[n]=P at *;go_wp2;refine hC.out.mono ?_;rintro e w3 ⟨rfl,hb3,k3⟩;have y:=AI hb3;have k3':=AI (u.out.trans (k3.mono u.out.kp.1 λx l _=>l));have⟨Pl,Px⟩:=P;cases Px
   .go_wp2;go_ret;have e1:=s.out;have e2:=l.out;simp only[Bool.false_eq_true,if_false]at e1 e2;exact⟨by rw[<- e2];rfl,by rw[<- e1];exact y.out,k3'.out⟩
   .go_wp2;go_roundw
    case rel=>
     have e1:=s.out;have e2:=l.out;simp only[if_true]at e1 e2;exact⟨n+1,_,by omega,by push_cast;rfl,y.out,k3'.out,by rw[<- sf];exact e1,e2⟩
    case measure=>simp[intOf];omega
  .obtain rfl:n=g.length:=by omega
   rw[TF]at s l;rw[iD]at s l;have r:=AI (show oL b T (iD g) w (SI (Tg true)) wr from⟨by rw[<- l],by rw[<- s,se];exact B,u⟩);clear s l B u;go_wp2;go_ret;exact r.out
def BZ{S id g}(hk:∀k∈g,fh S k)(hlen:g.length<1000000):fh S (.alt id g):=by
 intro w q b T hR hb hB;rw[bj];obtain⟨sl,C,hBq,j,hS,hvl,l⟩:∃sl C,a7 w q 227 #[AS SC id,sl]/\w.ownsRow 0 62 1 sl C.length C/\(∀b,sl.ownBlock=some b->S b)/\C.length=g.length/\∀(i:Nat) v k,C[i]?=some v->g[i]?=some k->Repr w S v k:=by
  cases hR with
  |alt a b c d e f=>exact⟨_,_,b,c,d,e,f⟩
 obtain⟨sa,cap,rfl⟩:=nH j;rw[hvl]at hBq;have v5:w.cell? ⟨q,1,none⟩=some (TN sa g.length cap):=hBq.cell 1;replace hB:Hid (a7 w b 77 (words T)):=AI hB;replace l:=AI l;replace j:=AI j;replace hk:=AI hk;show Calls PM 230 ..;go_enter PM.func Tryz.func230 (by decide),Tryz.ntmps230
 go_wp2;go_loopw [13,5] (λc d wr=>∃(n:Nat)(V:cS)(x:Bool),n<=g.length/\c=AS SC n/\d=Tg x/\a7 wr b 77 (words V)/\Kq w.heap.size [b] w wr/\du V (iF (g.drop n)).1=du T (iF g).1/\(x||(iF (g.drop n)).2)=(iF g).2) λc _ _=>g.length- (intOf c).toNat
 case atStart=>exact⟨0,T,false,TZ _,rfl,rfl,hB.out,.refl _,by rw[Tb],by rw[Tb];rfl⟩
 case round=>
  obtain⟨n,V,x,hnl,rfl,rfl,hBr,A,s,m⟩:=hrel;rcases TP n g.length with y|hge
  .have⟨gr,cap',cur,he,hGr,t⟩:=o7 j.out (SE (by omega:n<C.length));cases he;have hSg:=hS gr rfl;have D:∀a,S a->a∉[b]:=λa ha h=>hb (Sv.1 h▸ha)
   have hG2:a7 wr gr 62 cur:=hGr.kq A hGr.lt (D _ hSg);have B:=(l.out n _ _ (SE (by omega)) (SE y)).keep (w':=wr) λa ha h=>A.kp.2 a h (D _ ha)
   have⟨p,hp⟩:=ed B;rw[hp]at t B;have hC:=hk.out g[n] (Te y) wr p b V B hb hBr;rw[SO y,iF]at s m;have h1:=ja g[n] ⟨p,0,none⟩;have h2:=jL g[n] ⟨p,0,none⟩;have h3:=kX g[n];have v6:wr.cell? ⟨gr,n,none⟩=some (SH (bn g[n]) (Su (some ⟨p,0,none⟩))):=(hG2.cell n).trans t;replace hC:=AI hC;replace s:=AI s;replace m:=AI m;replace A:=AI A;generalize hfk:firstFn g[n]=fk at *;generalize htk:bn g[n]=tk at *;generalize hP:bj g[n]=P at *;go_wp2;refine hC.out.mono ?_;rintro e w3 ⟨rfl,hb3,k3⟩;have u:=AI hb3;have k3':=AI (A.out.trans (k3.mono A.out.kp.1 λx m _=>m));have⟨Pl,Px⟩:=P;cases Px
   .go_wp2;go_roundw
    case rel=>
     exact⟨n+1,_,x,by omega,by push_cast;rfl,rfl,u.out,k3'.out,by rw[<- sf];exact s.out,by have:=m.out;simpa using this⟩
    case measure=>simp[intOf];omega
   .go_wp2;go_roundw
    case rel=>
     exact⟨n+1,_,true,by omega,by push_cast;rfl,rfl,u.out,k3'.out,by rw[<- sf];exact s.out,by have:=m.out;simpa using this⟩
    case measure=>simp[intOf];omega
  .obtain rfl:n=g.length:=by omega
   rw[TF]at s m;rw[iF]at s m;have r:=AI (show oL b T (iF g) w (SI (Tg x)) wr from⟨by rw[<- m];simp,by rw[<- s,se];exact hBr,A⟩);go_wp2;go_ret;exact r.out
mutual
def first_any{E S}(q:te E)(r:∀i k l m,Nd.rep i k l m∈subs E.R->I64 l)(hs:∀i p,Nd.seq i p∈subs E.R->p.length<1000000):∀u,(∀a∈subs u,a∈subs E.R)->fh S u
 | .set i a b c d,h=>by
  have⟨z,y,w,v⟩:=q.set i a b c d (h _ (sub_self _));exact Ar z y w v
 | .edge i f,h=>zt
 | .seq i p,h=>Au (rk q r hs p λa s=>h a (by rw[subs];grind)) (hs i p (h _ (sub_self _)))
 | .alt i p,h=>BZ (rk q r hs p λa s=>h a (by rw[subs];grind)) (q.alt i p (h _ (sub_self _)))
 | .grp i k n,h=>Bq (first_any q r hs k λa s=>h a (by rw[subs];grind))
 | .rep i k l m,h=>AB (r i k l m (h _ (sub_self _))) (first_any q r hs k λa s=>h a (by rw[subs];grind))
def rk{E:ME}{S:Nat->Prop}(q:te E)(r:∀i k l m,Nd.rep i k l m∈subs E.R->I64 l)(hs:∀i p,Nd.seq i p∈subs E.R->p.length<1000000):∀p,(∀a∈gJ p,a∈subs E.R)->∀k∈p,fh S k
 |[],_,k,t=>by cases t
 |x::p,h,k,t=>by
  rcases SM.1 t with e|t<;>first |(have:=first_any (S:=S) q r hs x λa s=>h a (Uw _ s);rw[e];omega)|exact rk q r hs p (λa s=>h a (Ur _ s)) k t
end
abbrev Sp:=List (Int×Int)
def eY(L:Sp):List TG:=L.flatMap λp=>[AS SC p.1,AS SC p.2]
def dw(L:Sp):Array TG:=(eY L).toArray
def dH(a:Notes)(L:Sp):Sp:=a.foldl (λL x=>L.set x.1.toNat ((x.2.1:Int),(x.2.2:Int))) L
theorem oZ(a):∀L,(dH a L).length=L.length:=by
 induction a with
 |nil=>intro L;rfl
 |cons x a b=>simp_all[dH]
def yG(a b L):dH (a++b) L=dH b (dH a L):=by simp[dH]
def Dv(u):∀L n,((eY L).set (2*n) (AS SC u.1)).set (2*n+1) (AS SC u.2)=eY (L.set n u)
 |[],n=>by simp[eY]
 |p::L,0=>by simp[eY]
 |p::L,n+1=>by
  show((AS SC p.1::AS SC p.2::eY L).set (2*n+1+1) _).set (2*n+1+1+1) _=AS SC p.1::AS SC p.2::eY (L.set n u);rw[TR,TR,TR,TR,Dv u L n]
theorem Dw(L):(eY L).length=2*L.length:=by
 induction L with
 |nil=>rfl
 |cons p L a=>
  show(eY L).length+1+1=2*(L.length+1);omega
def Dx:∀L n h,(eY L)[2*n]?=some (AS SC L[n].1)/\(eY L)[2*n+1]?=some (AS SC L[n].2)
 |p::L,0,_=>⟨rfl,rfl⟩
 |p::L,n+1,h=>Dx L n (by simpa using h)
def vK{w g n t L u}(h:a7 w g t (dw L)):a7 ((w.setCell ⟨g,n*2,none⟩ (AS SC u.1)).setCell ⟨g,n*2+1,none⟩ (AS SC u.2)) g t (dw (L.set n u)):=by
 rw[UA n 2];have:=(h.bI (2*n) (AS SC u.1)).bI (2*n+1) (AS SC u.2);have e:((dw L).setIfInBounds (2*n) (AS SC u.1)).setIfInBounds (2*n+1) (AS SC u.2)=dw (L.set n u):=by
  simp[Dv,dw]
 rw[e]at this;omega
def qm{w g n t L}(h:a7 w g t (dw L))(a):w.cell? ⟨g,n*2,none⟩=some (AS SC L[n].1)/\w.cell? ⟨g,n*2+1,none⟩=some (AS SC L[n].2):=by
 simp[UA n 2,h.cell];rw[Us,Us];exact Dx L n a
structure lL(E:ME)(g G:Nat):Prop where
 sp:E.sp=TN (some ⟨g,0,none⟩) (G+1) (G+1)
 small:G<1000
 ne_r:g≠E.r
 ne_m:g≠E.m
 away:¬ E.S g
 num:∀i k n,Nd.grp i k n∈subs E.R->0<=n/\n<=G
def qh:Nd->Nat
 | .set .. =>253
 | .edge .. =>250
 | .seq .. =>238
 | .alt .. =>232
 | .grp .. =>256
 | .rep .. =>244
def jD(b a w):(method 446 (bn b) (Su (some a)) "posix/tree.walk").run PM w=SZ (qh b,Su (some a)) w:=by cases b<;>kernel_rfl
def kC(b a w):(nilAhead 446 (bn b) (Su (some a)) "posix/tree.walk").run PM w=SZ (some false) w:=by cases b<;>kernel_rfl
def walk_call(a args w):(U7 (qh a) args).run PM w=SZ (TH (qh a) args) w:=by cases a<;>simp[qh,go_sem]
def y8(E:ME)(g:Nat)(L:Sp)(w:SG)(e:Ending)(a:SG):Prop:=e=SI (SX #[])/\cI E a/\a7 a g 35 (dw L)/\Kq w.heap.size [E.r,g] w a
def WalkC(E:ME)(g G:Nat)(a:Nd):Prop:=∀(w:SG)(q i j:Nat)(L:Sp),cI E w->Repr w E.S (SH (bn a) (Su (some ⟨q,0,none⟩))) a->i<=E.M.s.size->(bv E.M a i).testBit j=true->L.length=G+1->a7 w g 35 (dw L)->
 Calls PM (qh a) #[Su (some ⟨q,0,none⟩),Su (some ⟨E.m,0,none⟩),AS SC i,AS SC j] w (y8 E g (dH (de E.M a i j) L) w)
def CK{E g G i a b c d}:WalkC E g G (.set i a b c d):=by
 intro w q m j L e n h l k f;rw[de];show Calls PM 253 ..;go_enter PM.func Tryz.func253 (by decide),Tryz.ntmps253
 go_wp2;go_end0
 exact⟨rfl,(AI e).out,(AI f).out,.refl _⟩
def BE{E g G i f}:WalkC E g G (.edge i f):=by
 intro w q d j L a e h c k b;show Calls PM 250 ..;go_enter PM.func Tryz.func250 (by decide),Tryz.ntmps250
 go_wp2;go_end0
 exact⟨rfl,(AI a).out,(AI b).out,.refl _⟩
def Da{E}(R:fu E){g G}(f:lL E g G){P d k}(hk:WalkC E g G k)(S:Nd.grp P k d∈subs E.R):WalkC E g G (.grp P k d):=by
 intro w q i j L W hR Q s Z z;have hj:=(bZ E.M _ i Q j s).2;rw[bv]at s;have hsz:=R.size;obtain⟨n,rfl⟩:∃n:Nat,d=n:=⟨d.toNat,by have:=(f.num _ _ _ S).1;omega⟩;have hnG:n<=G:=by have:=(f.num _ _ _ S).2;omega
 rw[de,dH,List.foldl_cons];show Calls PM 256 _ _ (y8 E g (dH (de E.M k i j) (L.set (n:Int).toNat ((i:Int),(j:Int)))) w);rw[Int.toNat_natCast];cases hR with
 |grp hS v m=>
 obtain⟨p,rfl⟩:=ed m;have h1:=jD k ⟨p,0,none⟩;have h2:=kC k ⟨p,0,none⟩;have h3:=walk_call k;have c2:w.cell? ⟨q,2,none⟩=some (AS SC n):=v.cell 2;have c1:w.cell? ⟨q,1,none⟩=some (SH (bn k) (Su (some ⟨p,0,none⟩))):=v.cell 1;have cm:w.cell? ⟨E.m,4,none⟩=some (TN (some ⟨g,0,none⟩) (G+1) (G+1)):=by rw[<- f.sp];exact W.blk.cell 4
 have⟨s0,s1⟩:=qm z (by omega:n<L.length);have fz:∀x,w.frozen? ⟨g,x,none⟩=false:=z.frozen;have hsm:=f.small;have a:=vK (n:=n) (u:=((i:Int),(j:Int))) z;have c:=((Kq.refl (B:=w.heap.size) (X:=[g]) w).setCell (p:=⟨g,n*2,none⟩) (λ_=>Sv.2 rfl) (AS SC i)).setCell (p:=⟨g,n*2+1,none⟩) (λ_=>Sv.2 rfl) (AS SC j);have K:q≠g:=λe=>f.away (e▸hS)
 have c1':=v.kq c v.lt (λl=>K (Sv.1 l))|>.cell 1
 have F:=AI W;have D:=AI z;replace a:=AI a;replace c:=AI c;have y:=AI m;have hB':=AI v;go_enter PM.func Tryz.func256 (by decide),Tryz.ntmps256
 go_wp2;go_still_tail 11,by kernel_rfl
 change wpList _ _ _ _ _ w.drew;go_wp2;have I:=F.out;have H:=y.out;have t:=D.out.lt;replace c:=AI c.out.drew;replace a:=AI (a.out.kq (Kq.refl (X:=[]) _).drew a.out.lt Sy);generalize World.drew _=T at a c ⊢;have A:=I.hZ R (X:=[g]) (λx l=>by rw[Sv.1 l];exact⟨f.ne_m,f.ne_r,f.away⟩) c.out;have C:=H.keep (w':=T) λb s t=>c.out.kp.2 b t λl=>f.away (Sv.1 l▸s)
 have hC:=AI (hk T p i j (L.set n ((i:Int),(j:Int))) A C Q s (by rw[List.length_set];exact Z) a.out);refine hC.out.mono ?_;rintro e w2 ⟨rfl,N,M,k4⟩;have r:=AI (show y8 E g (dH (de E.M k i j) (L.set n ((i:Int),(j:Int)))) w (SI (SX #[])) w2 from⟨rfl,N,M,(c.out.mono (Sx _) λx l _=>Tm _ l).trans (k4.mono c.out.kp.1 λ_ h _=>h)⟩);go_wp2;go_end0
 exact r.out
structure WB(E:ME)(g:Nat)(nd:Nd)(q:Nat)(w0 W:SG)(L:Sp):Prop where
 mem:cI E W
 rep:Repr W E.S (SH (bn nd) (Su (some ⟨q,0,none⟩))) nd
 sp:a7 W g 35 (dw L)
 kq:Kq w0.heap.size [E.r,g] w0 W
 new:E.m<w0.heap.size/\E.r<w0.heap.size/\g<w0.heap.size/\∀b,E.S b->b<w0.heap.size
def WB.start{E}(e:fu E){g a q w L}(c:cI E w)(d:Repr w E.S (SH (bn a) (Su (some ⟨q,0,none⟩))) a)(b:a7 w g 35 (dw L)):WB E g a q w w L:=
 have h:=c.fresh e
 ⟨c,d,b,.refl _,h.1,h.2.1,b.lt,h.2.2⟩
section
variable{E:ME}{g G:Nat}{nd:Nd}{q:Nat}{w0 W W':SG}{L L':Sp}
def WB.old(e:fu E)(d:lL E g G)(h:WB E g nd q w0 W L):∀b,E.S b->W.heap[b]?=w0.heap[b]?:=λb a=>h.kq.kp.2 b (h.new.2.2.2 b a) λc=>by
 simp[SM]at c;rcases c with rfl|rfl
 exact e.away a;exact d.away a
def WB.own(h:WB E g nd q w0 W L){B X}(i:w0.heap.size<=B)(hX:∀x∈X,w0.heap.size<=x)(l:Kq B X W W'):WB E g nd q w0 W' L:=by
 have d:=h.new;have f:∀b,b<w0.heap.size->W'.heap[b]?=W.heap[b]?:=λb e=>l.kp.2 b (by omega) λj=>by have:=hX b j;omega
 have m:∀{b t c},b<w0.heap.size->a7 W b t c->a7 W' b t c:=λe i=>(f _ e).trans i
 have⟨n,a,s,r⟩:=h.mem.map;have⟨v,p⟩:=h.mem.root;exact⟨⟨m d.1 h.mem.blk,⟨n,a,(f _ d.2.1).trans s,r⟩,v,p.keep λb e _=>f b (d.2.2.2 b e)⟩,h.rep.keep λb e _=>f b (d.2.2.2 b e),m d.2.2.1 h.sp,h.kq.trans (l.mono i λx j k=>absurd k (Nat.not_lt.2 (hX x j))),d⟩
def WB.asked(j:fu E)(i:lL E g G)(h:WB E g nd q w0 W L)(f:cI E W')(d:Kq W.heap.size [E.r] W W'):WB E g nd q w0 W' L:=
 ⟨f,h.rep.keep λb e c=>d.kp.2 b c λa=>j.away (Sv.1 a▸e),h.sp.kq d h.sp.lt λa=>i.ne_r (Sv.1 a),h.kq.trans (d.mono h.kq.kp.1 λx a _=>by simp[Sv.1 a]),h.new⟩
def WB.walked(j:fu E)(i:lL E g G)(h:WB E g nd q w0 W L)(f:cI E W')(hs:a7 W' g 35 (dw L'))(c:Kq W.heap.size [E.r,g] W W'):WB E g nd q w0 W' L':=
 ⟨f,h.rep.keep λb e a=>c.kp.2 b a λd=>by
  simp[SM]at d;rcases d with rfl|rfl
  exact j.away e;exact i.away e,hs,h.kq.trans (c.mono h.kq.kp.1 λ_ h _=>h),h.new⟩
def WB.stay(h:WB E g nd q w0 W L){b t c}(a:a7 W b t c)(e:w0.heap.size<=b){X}(hX:∀x∈X,x=E.r\/x=g)(f:Kq W.heap.size X W W'):a7 W' b t c:=a.kq f a.lt λd=>by
 have i:=h.new.2.1;have j:=h.new.2.2.1;rcases hX _ d with rfl|rfl<;>omega
end
def Dn{E}(D:fu E){g G}(Q:lL E g G){id m}(hk:∀k∈m,gy E k)(F:∀k∈m,WalkC E g G k)(hlen:m.length<1000000):WalkC E g G (.alt id m):=by
 intro w q i j L hM hR hi y hL hg;have hj:=(bZ E.M _ i hi j y).2;rw[bv]at y;rw[de];show Calls PM 232 ..;have B0:=WB.start D hM hR hg;obtain⟨S,I,hB,u,hS,hvl,x⟩:∃S I,a7 w q 227 #[AS SC id,S]/\w.ownsRow 0 62 1 S I.length I/\(∀b,S.ownBlock=some b->E.S b)/\I.length=m.length/\∀(i:Nat) v k,I[i]?=some v->m[i]?=some k->Repr w E.S v k:=by
  cases hR with
  |alt a b c d e f=>exact⟨_,_,b,c,d,e,f⟩
 obtain⟨sa,cap,rfl⟩:=nH u;rw[hvl]at hB;have v5:w.cell? ⟨q,1,none⟩=some (TN sa m.length cap):=hB.cell 1;have hsz:=D.size;replace B0:=AI B0;replace x:=AI x;replace u:=AI u;replace hk:=AI hk;replace F:=AI F;replace y:=AI y;go_enter PM.func Tryz.func232 (by decide),Tryz.ntmps232
 go_wp2;go_loopw [15] (λc wr=>∃n:Nat,n<=m.length/\c=AS SC n/\WB E g (.alt id m) q w wr L/\(iK E.M (m.drop n) i).testBit j=true/\oq E.M (m.drop n) i j=oq E.M m i j) λc _=>m.length- (intOf c).toNat
 case atStart=>exact⟨0,TZ _,rfl,B0.out,by rw[Tb];exact y.out,by rw[Tb]⟩
 case round=>
  obtain⟨n,hnl,rfl,z,r,l⟩:=hrel;have s:n<m.length:=by
   rcases TP n m.length with h|h
   .exact h
   .rw[List.drop_eq_nil_of_le h]at r;simp[iK]at r
  have⟨R,cap',cur,he,hGr,C⟩:=o7 u.out (SE (by omega:n<I.length));cases he;have hSg:=hS R rfl;have hG2:a7 wr R 62 cur:=(z.old D Q R hSg).trans hGr;have B:=(x.out n _ _ (SE (by omega)) (SE s)).keep (w':=wr) λb y _=>z.old D Q b y
  have⟨p,hp⟩:=ed B;rw[hp]at C B;have hC:=hk.out m[n] (Te s) wr p i z.mem B hi;have A:=F.out m[n] (Te s);rw[SO s,iK,U6,US]at r;rw[SO s,oq]at l;have h1:=fN m[n] ⟨p,0,none⟩;have h2:=gu m[n] ⟨p,0,none⟩;have h3:=i9 m[n];have h4:=jD m[n] ⟨p,0,none⟩;have h5:=kC m[n] ⟨p,0,none⟩;have h6:=walk_call m[n];have v6:wr.cell? ⟨R,n,none⟩=some (SH (bn m[n]) (Su (some ⟨p,0,none⟩))):=(hG2.cell n).trans C;replace hC:=AI hC;replace r:=AI r;replace l:=AI l;have B1:=AI z;have K:=AI B;unfold WalkC at A;replace A:=AI A;generalize hfk:mq m[n]=fk at *;generalize hfw:qh m[n]=fw at *;generalize htk:bn m[n]=tk at *;generalize hP:bv E.M m[n] i=P at *;go_wp2;refine hC.out.mono ?_;rintro e w3 ⟨rfl,hM3,k3⟩;have B3:=AI (B1.out.asked D Q hM3 k3);have Z:=AI (K.out.keep (w':=w3) λb y s=>k3.kp.2 b s λhx=>D.away (Sv.1 hx▸y));have hH:=AI (oV j P w3 (by omega));have hP':=AI hP;go_wp2;refine hH.out.mono ?_;rintro e w4 ⟨rfl,k4⟩;have T:=AI (B3.out.own (X:=[]) B3.out.kq.kp.1 (λ_ h=>nomatch h) k4);have hR4:=AI (Z.out.keep (w':=w4) λb y s=>k4.kp.2 b s Sy);by_cases t:P.testBit j=true
  .rw[t];rw[if_pos t]at l;have hC5:=AI (A.out w4 p i j L T.out.mem hR4.out hi (by rw[hP'.out];exact t) hL T.out.sp);have W:=AI l;replace t:=AI t;go_wp2;refine hC5.out.mono ?_;rintro e w5 ⟨rfl,hM5,M,k5⟩;rw[W.out]at M;have B5:=AI (T.out.walked D Q hM5 M k5);go_wp2;go_end0
   exact⟨rfl,B5.out.mem,B5.out.sp,B5.out.kq⟩
  .have hpf:=TV.2 t;rw[hpf];rw[if_neg t]at l;have H:=r.out.resolve_left t;have W:=AI l;replace H:=AI H;go_wp2;go_roundw
   case rel=>exact⟨n+1,by omega,by push_cast;rfl,T.out,H.out,W.out⟩
   case measure=>simp[intOf];omega
end
section
open Go.RowKit
attribute [local go_sem] TK
def Marks(B:Nat):List Uf->SG->Prop
 |[],_=>True
 |d::b,W=>(∃D,d= {target:=TU D,args:=#[]}/\B<=D/\W.heap[D]?=some (SQ (some []))/\∀c∈b,c≠d)/\Marks B b W
def Marks.keep{B W c}:∀{a},Marks B a W->(∀D,B<=D->({target:=TU D,args:=#[]}:Uf)∈a->W.heap[D]?=some (SQ (some []))->c.heap[D]?=W.heap[D]?)->Marks B a c
 |[],_,_=>trivial
 |d::a,⟨⟨D,b,f,e,i⟩,h⟩,g=>⟨⟨D,b,f,(g D f (b▸Tl) e).trans e,i⟩,h.keep λD j k=>g D j (Tm _ k)⟩
def Marks.kq{B W b a X}(h:Marks B a W)(hX:∀x∈X,x<B){C}(c:∀D,W.heap[D]?=some (SQ (some []))->D<C)(f:Kq C X W b):Marks B a b:=
 h.keep λD e _ d=>f.kp.2 D (c D d) λg=>T4 D (Tu (hX D g) e)
def Marks.lt{B W}:∀{b},Marks B b W->∀D,({target:=TU D,args:=#[]}:Uf)∈b->D<W.heap.size
 |d::b,⟨⟨i,c,f,g,j⟩,h⟩,D,a=>by
  rcases SM.1 a with e|a
  grind
  exact h.lt D a
def ot{fn n B tmps R}(b:fn.results=#[]):∀{f W},Marks B f W->(∀c,Kq B [] W c->R (SI (SX #[])) c)->LeavesInM Tp n PM fn tmps R f TD W
 |[],W,_,e=>⟨_,results_none b ..,e W (.refl W)⟩
 |d::f,W,⟨⟨D,g,p,j,m⟩,h⟩,e=>by
  refine⟨by simp,.inl ⟨D,_,by rw[g],run_takeDeferred j,ot b (B:=B) (h.keep λl r q i=> ?_) λc k=>e c (((Kq.refl W).put (λh=>absurd h (by omega)) _).trans (k.mono ?_ λ_ h _=>h))⟩⟩;refine T0 ?_;grind
  simp
def Ll(w t q m i j):
 Caps ((((w.alloc (Sz #[Su (some ⟨q,0,none⟩)] t)).alloc (Sz #[Su (some ⟨m,0,none⟩)] 142)).alloc (Sz #[AS SC i] 3)).alloc (Sz #[AS SC j] 3)) w.heap.size (w.heap.size+1+1) (w.heap.size+1) (w.heap.size+1+1+1) t q m i j/\
 Kq w.heap.size [] w ((((w.alloc (Sz #[Su (some ⟨q,0,none⟩)] t)).alloc (Sz #[Su (some ⟨m,0,none⟩)] 142)).alloc (Sz #[AS SC i] 3)).alloc (Sz #[AS SC j] 3)):=by
 have a:∀(W:SG)(o:Obj){b:Nat}{t c},a7 W b t c->a7 (W.alloc o) b t c:=λW o{b t c} h=>h.alloc o
 have d:∀(W:SG)(t c)(n:Nat),W.heap.size=n->a7 (W.alloc (Sz c t)) n t c:=λW t c n h=>h▸a7.new W t c
 exact⟨⟨a _ _ (a _ _ (a _ _ (a7.new w t _))),a _ _ (d _ _ _ _ (by simp)),a _ _ (a _ _ (d _ _ _ _ (by simp))),d _ _ _ _ (by simp)⟩,((((Kq.refl w).alloc (Sx _) _).alloc (by simp) _).alloc (by simp) _).alloc (by simp) _⟩
structure WS(E:ME)(g:Nat)(nd:Nd)(q:Nat)(w0 W:SG)(L:Sp)(i j:Nat):Prop where
 wb:WB E g nd q w0 W L
 caps:Caps W w0.heap.size (w0.heap.size+1+1) (w0.heap.size+1) (w0.heap.size+1+1+1) (bn nd) q E.m i j
def Marks.stay{B c W b a X}(h:Marks B a W)(h0:Marks B a c)(hX:∀x∈X,W.heap[x]?≠some (SQ (some [])))(e:Kq c.heap.size X W b):Marks B a b:=
 h.keep λD i d f=>e.kp.2 D (h0.lt D d) λg=>hX D g f
def fC{W b t c}(h:a7 W b t c):W.heap[b]?≠some (SQ (some [])):=λe=>by rw[show W.heap[b]?=_ from h]at e;cases e
def cI.fC{E W}(h:cI E W):W.heap[E.r]?≠some (SQ (some [])):=λe=>by
 have⟨c,a,b,_⟩:=h.map<;>grind
section
variable{E:ME}{g G:Nat}{nd:Nd}{q:Nat}{w0 W W':SG}{L L':Sp}{i j:Nat}
def WS.boxes(h:WS E g nd q w0 W L i j):∀x∈[w0.heap.size,w0.heap.size+1+1,w0.heap.size+1,w0.heap.size+1+1+1],x<W.heap.size/\x≠E.r/\x≠g:=λx a=>by
 refine⟨h.caps.lt x a,?_⟩;have b:=h.wb.new.2.1;have c:=h.wb.new.2.2.1;grind
def WS.own(h:WS E g nd q w0 W L i j){B X}(c:w0.heap.size+1+1+1<B)(hX:∀x∈X,w0.heap.size+1+1+1<x)(b:Kq B X W W'):WS E g nd q w0 W' L i j:=
 ⟨h.wb.own (by omega) λx a=>by have:=hX x a;omega b,h.caps.kq b λx a=>by
  grind⟩
def WS.asked(f:fu E)(d:lL E g G)(h:WS E g nd q w0 W L i j)(c:cI E W')(b:Kq W.heap.size [E.r] W W'):WS E g nd q w0 W' L i j:=
 ⟨h.wb.asked f d c b,h.caps.kq b λx a=>⟨(h.boxes x a).1,λe=>(h.boxes x a).2.1 (Sv.1 e)⟩⟩
def WS.walked(f:fu E)(d:lL E g G)(h:WS E g nd q w0 W L i j)(c:cI E W')(hs:a7 W' g 35 (dw L'))(b:Kq W.heap.size [E.r,g] W W'):WS E g nd q w0 W' L' i j:=
 ⟨h.wb.walked f d c hs b,h.caps.kq b λx a=>⟨(h.boxes x a).1,λe=>by
  simp[SM]at e;exact e.elim (h.boxes x a).2.1 (h.boxes x a).2.2⟩⟩
def WS.moved(h:WS E g nd q w0 W L i j)(c:Nat):WS E g nd q w0 (W.setCell ⟨w0.heap.size+1+1,0,none⟩ (AS SC c)) L c j:=by
 have b:Kq W.heap.size [w0.heap.size+1+1] W (W.setCell ⟨w0.heap.size+1+1,0,none⟩ (AS SC c)):=(Kq.refl W).setCell (p:=⟨w0.heap.size+1+1,0,none⟩) (λ_=>Sv.2 rfl) _;exact⟨h.wb.own h.wb.kq.kp.1 λx a=>by rw[Sv.1 a];omega b,h.caps.b1.kq b h.caps.b1.lt λa=>by have:=Sv.1 a;omega,h.caps.b2.bI 0 (AS SC c),h.caps.b3.kq b h.caps.b3.lt λa=>by have:=Sv.1 a;omega,h.caps.b4.kq b h.caps.b4.lt λa=>by have:=Sv.1 a;omega⟩
end
def CM{E}(hE:fu E){g G}(hG:lL E g G){Z l}(hk:∀k∈l,gy E k)(hwk:∀k∈l,WalkC E g G k)(hn:Nd.seq Z l∈subs E.R):WalkC E g G (.seq Z l):=by
 intro w q i j L hM hR hi A hL hg;have hj:=(bZ E.M _ i hi j A).2;rw[bv]at A;rw[de];show Calls PM 238 ..;have hks:=hE.kids Z l hn;have M:∀d,d<=l.length->KS E Z l d:=λd hd=>ul hE hk hn _ d rfl hd
 obtain⟨sl,vs,hB,N,s,hvl,z⟩:∃sl vs,a7 w q 260 #[AS SC Z,sl]/\w.ownsRow 0 62 1 sl vs.length vs/\(∀b,sl.ownBlock=some b->E.S b)/\vs.length=l.length/\∀(i:Nat) v k,vs[i]?=some v->l[i]?=some k->Repr w E.S v k:=by
  cases hR with
  |seq a b c d e f=>exact⟨_,_,b,c,d,e,f⟩
 obtain⟨sa,cap,rfl⟩:=nH N;rw[hvl]at hB;have hsz:=hE.size;have⟨hc,k1⟩:=Ll w 259 q E.m i j;have W0:WS E g (.seq Z l) q w _ L i j:=⟨(WB.start hE hM hR hg).own (X:=[]) (Sx _) (λ_ h=>nomatch h) k1,hc⟩;have v1:=hc.b1.cell 0;have v5:=(hB.kq k1 hB.lt Sy).cell 1;replace W0:=AI W0;replace z:=AI z;replace N:=AI N;replace hk:=AI hk;replace hwk:=AI hwk;replace A:=AI A;replace M:=AI M;refine callsIn_wide (n:=4).1 (callsIn_of_wp_marks (PM.func Tryz.func238 (by decide)) rfl trivial ?_ rfl);simp only[Tryz.ntmps238,T6,T9,Td,Tj,Ti,SU,SS,T7,SW,Tc,Ta];refine wpIn_wide.2 ?_;go_wp2;replace z:=z;generalize TJ .. =W1 at W0 ⊢;refine wp_loop_ghost_k (λn a W=>
  ∃(d D:Nat)(L':Sp)(ds:List Uf)(x8 x9 x10 x17 x18 x19 x20 x21 x22 x23 x24 x25 x26 x27 x28 x29 x30 x31 x32 x33 x34 x35 x36 x37 x38 x39 x40 x41:TG),n+d=l.length/\a= {tmps:=#[Su (some ⟨q,0,none⟩),Su (some ⟨E.m,0,none⟩),AS SC i,AS SC j,Su (some ⟨w.heap.size,0,none⟩),Su (some ⟨w.heap.size+1,0,none⟩),Su (some ⟨w.heap.size+1+1,0,none⟩),Su (some ⟨w.heap.size+1+1+1,0,none⟩),x8,x9,x10,Su (some ⟨q,0,none⟩),Su (some ⟨q,0,none⟩),Su (some ⟨q,1,none⟩),TN sa l.length cap,AS SC l.length,AS SC d,x17,x18,x19,x20,x21,x22,x23,x24,x25,x26,x27,x28,x29,x30,x31,x32,x33,x34,x35,x36,x37,x38,x39,x40,x41],defers:=ds}/\WS E g (.seq Z l) q w W L' D j/\Marks w.heap.size ds W/\(dL E.M (l.drop d) D).testBit j=true/\D<=E.M.s.size/\L'.length=G+1/\dH (jI E.M (l.drop d) D j) L'=dH (jI E.M l i j) L
  ) l.length ?_ ?_
 .exact⟨0,i,L,[],_,_,_,_,_,_,_,_,_,_,_,_,_,_,_,_,_,_,_,_,_,_,_,_,_,_,_,_,rfl,rfl,W0.out,trivial,by rw[Tb];exact A.out,hi,hL,by rw[Tb]⟩
 rintro n a W ⟨d,D,L',ds,x8,x9,x10,x17,x18,x19,x20,x21,x22,x23,x24,x25,x26,x27,x28,x29,x30,x31,x32,x33,x34,x35,x36,x37,x38,x39,x40,x41,hnd,rfl,hWS,hMk,hbit,hi',hL',Q⟩ O3 K hJ hK;have hWS0:=AI hWS;have hMk0:=AI hMk;replace Q:=AI Q;replace hbit:=AI hbit;by_cases F:d<l.length
 .have⟨gr,cap',cur,he,hGr,hcur⟩:=o7 N.out (SE (by omega:d<vs.length));cases he;have hSg:=s gr rfl;have hG2:a7 W gr 62 cur:=(hWS.wb.old hE hG gr hSg).trans hGr;have hRk:=(z.out d _ _ (SE (by omega)) (SE F)).keep (w':=W) λb A _=>hWS.wb.old hE hG b A
  have⟨p,hp⟩:=ed hRk;rw[hp]at hcur hRk;have B:=fN l[d] ⟨p,0,none⟩;have h2:=gu l[d] ⟨p,0,none⟩;have h3:=i9 l[d];have h4:=jD l[d] ⟨p,0,none⟩;have h5:=kC l[d] ⟨p,0,none⟩;have h6:=walk_call l[d];have v6:W.cell? ⟨gr,d,none⟩=some (SH (bn l[d]) (Su (some ⟨p,0,none⟩))):=(hG2.cell d).trans hcur;have hpv:=AI hp;go_upto_region 4 with fail
  have kA:Kq W.heap.size [] W ((W.alloc (Sz #[AS SC d] 3)).alloc (Sz #[SH (bn l[d]) (Su (some ⟨p,0,none⟩))] 62)):=((Kq.refl W).alloc (Sx _) _).alloc (by simp) _;have D8:a7 ((W.alloc (Sz #[AS SC d] 3)).alloc (Sz #[SH (bn l[d]) (Su (some ⟨p,0,none⟩))] 62)) W.heap.size 3 #[AS SC d]:=(a7.new W ..).alloc _;have D9:a7 ((W.alloc (Sz #[AS SC d] 3)).alloc (Sz #[SH (bn l[d]) (Su (some ⟨p,0,none⟩))] 62)) (W.heap.size+1) 62 #[SH (bn l[d]) (Su (some ⟨p,0,none⟩))]:=a7.new2 ..;have hW3:=(hWS0.out.boxes (w.heap.size+1+1+1) (by simp)).1;have S1:=hWS0.out.own (X:=[]) hW3 (λ_ h=>nomatch h) kA;have M1:=hMk0.out.stay hMk0.out (X:=[]) (λ_ h=>nomatch h) kA;have C:=(z.out d _ _ (SE (by omega)) (SE F)).keep λb A _=>S1.wb.old hE hG b A
  generalize TJ (TJ W _) _=W1 at kA D8 D9 S1 M1 C ⊢;rw[hpv.out]at C;have v1:W1.cell? ⟨w.heap.size+1,0,none⟩=some (Su (some ⟨E.m,0,none⟩)):=S1.caps.b3.cell 0;have v2:W1.cell? ⟨w.heap.size+1+1,0,none⟩=some (AS SC D):=S1.caps.b2.cell 0;have v3:W1.cell? ⟨W.heap.size+1,0,none⟩=some (SH (bn l[d]) (Su (some ⟨p,0,none⟩))):=D9.cell 0;have hC:=AI (hk.out l[d] (Te F) W1 p D S1.wb.mem C hi');have hlt1:W.heap.size+1<W1.heap.size:=D9.lt;replace D8:=AI D8;replace D9:=AI D9;replace S1:=AI S1;replace M1:=AI M1;replace C:=AI C;go_wp2;refine hC.out.mono ?_;rintro e w2 ⟨rfl,hM2,k2⟩;have S2:=AI (S1.out.asked hE hG hM2 k2);have hr:=S1.out.wb.new.2.1;have E8:=AI (D8.out.kq k2 D8.out.lt λr=>by have:=Sv.1 r;omega);have E9:=AI (D9.out.kq k2 D9.out.lt λr=>by have:=Sv.1 r;omega);have M2:=AI (M1.out.stay M1.out (λx r=>by rw[Sv.1 r];exact S1.out.wb.mem.fC) k2);have hRk2:=AI (C.out.keep (w':=w2) λb A F=>k2.kp.2 b F λr=>hE.away (Sv.1 r▸A));have hlt2:W.heap.size+1<w2.heap.size:=Tu hlt1 k2.kp.1;go_wp2;have hw:=AI (bZ E.M l[d] D hi');have⟨P,hP⟩:∃P,bv E.M l[d] D=P:=⟨_,rfl⟩;have hfound:∃c,df (λc=>(dL E.M (l.drop (d+1)) c).testBit j) P 320=some c:=by
   cases h:df (λc=>(dL E.M (l.drop (d+1)) c).testBit j) P 320 with
   |some c=>exact⟨c,rfl⟩
   |none=>
    exfalso;have A:=hbit.out;rw[SO F,dL,pd]at A;have⟨c,B,h2,h3⟩:=A;rw[hP]at h2;rw[oX]at h;rw[h c B h2]at h3;cases h3
  have⟨cc,hcc⟩:=hfound;rw[hP]at hw;replace hcc:=AI hcc;replace hP:=AI hP;rw[hP.out];refine wpIn_wide (n:=4).1 (qe (X:=[E.r,g,w.heap.size+1+1]) (t:=26) (p:=P) (by decide) rfl ?_
   (λk m=>df (λc=>(dL E.M (l.drop (d+1)) c).testBit j) P k=some cc/\WS E g (.seq Z l) q w m L' D j/\a7 m W.heap.size 3 #[AS SC d]/\a7 m (W.heap.size+1) 62 #[SH (bn l[d]) (Su (some ⟨p,0,none⟩))]/\Marks w.heap.size ds m)
   (λc k m=>c= .exit 2/\k=cc/\WS E g (.seq Z l) q w m (dH (de E.M l[d] D cc) L') cc j/\Marks w.heap.size ds m) ?_ ?_ ?_ ?_ ?_ ?_ ?_ ?_ ?_)
  case refine_7=>
   intro ll k m K hK;gi_wp2
   exact hK
  case refine_1=>
   intro x r;have B:=S2.out.wb.new;have h2:=S2.out.wb.kq.kp.1;simp only[SM,Sy,or_false]at r;omega
  case refine_2=>
   rintro k m W'' ⟨B,h2,h3,h4,h5⟩ H;exact⟨B,h2.own (X:=[]) (by omega) (λ_ h=>nomatch h) H,h3.kq H (by omega) Sy,h4.kq H (by omega) Sy,h5.stay M2.out (X:=[]) (λ_ h=>nomatch h) H⟩
  case refine_3=>
   rintro c k m W'' ⟨B,h2,h3,h4⟩ H;exact⟨B,h2,h3.own (X:=[]) (by omega) (λ_ h=>nomatch h) H,h4.stay M2.out (X:=[]) (λ_ h=>nomatch h) H⟩
  case refine_4=>
   rintro k m ⟨B,h2⟩ A;rw[df,if_neg (by rw[A];simp)]at B;exact⟨B,h2⟩
  case refine_5=>exact⟨hcc.out,S2.out,E8.out,E9.out,M2.out⟩
  case refine_9=>
   rintro m ⟨B,_⟩ _;cases B
  case refine_10=>
   rintro _ k m hk1 A ⟨rfl,rfl,h3,h4⟩ hD;have hps:=j4.1 hcc.out;have hcs:=(hw.out k hps.2.1).2;have h3':=AI h3;have h4':=AI h4;replace hD:=AI hD;replace hps:=AI hps;refine wpIn_wide.2 ?_;go_wp2;refine Handed.intro (n-1) (by omega) (hJ _ _ _ ⟨d+1,k,dH (de E.M l[d] D k) L',_,_,_,_,_,_,_,_,_,_,_,_,_,_,_,_,_,_,_,_,_,_,_,_,_,_,_,_,_,by omega,rfl,h3'.out,⟨⟨w2.heap.size,rfl,by omega,hD.out,λd' hd' e=> ?_⟩,h4'.out⟩,hps.out.2.2.1,hcs,by rw[oZ];exact hL',?_⟩)
   .rw[e]at hd';exact T4 _ (M2.out.lt _ hd')
   .rw[<- Q.out,SO F,jI,hP.out,hcc.out];rw[yG]
  case refine_8=>
   rintro ll k m hltW hk1 A ⟨B,h2,h3,h4,h5⟩;rw[df]at B;have hks':=hw.out k A;have s:WS E g (.seq Z l) q w m L' D j/\a7 m W.heap.size 3 #[AS SC d]/\a7 m (W.heap.size+1) 62 #[SH (bn l[d]) (Su (some ⟨p,0,none⟩))]/\Marks w.heap.size ds m:=⟨h2,h3,h4,h5⟩;replace B:=AI B;have hL:∀{K O2 Yx},¬ LetsOut (Exit.then K (UD 3 (jY [E.r,g,w.heap.size+1+1] m O2 Yx))):=λ⟨_,_,h⟩=>h
   gi_wp2
   have kd:Kq m.heap.size [] m m.drew:=(Kq.refl _).drew;have y:WS E g (.seq Z l) q w m.drew L' D j/\a7 m.drew W.heap.size 3 #[AS SC d]/\a7 m.drew (W.heap.size+1) 62 #[SH (bn l[d]) (Su (some ⟨p,0,none⟩))]/\Marks w.heap.size ds m.drew:=⟨s.1.own (X:=[]) (by omega) (λ_ h=>nomatch h) kd,s.2.1,s.2.2.1,s.2.2.2.stay s.2.2.2 (X:=[]) (λ_ h=>nomatch h) kd⟩;replace kd:=AI kd;refine gO (S:=λu=>WS E g (.seq Z l) q w u L' D j/\a7 u W.heap.size 3 #[AS SC d]/\a7 u (W.heap.size+1) 62 #[SH (bn l[d]) (Su (some ⟨p,0,none⟩))]/\Marks w.heap.size ds u) (by kernel_rfl) hL (by kernel_rfl) ?_;show wpAnyH _ _ _ _ _ 8 _ _ m.drew;generalize m.drew=W6 at y kd ⊢;have s:=y;have hks6:=hks;refine takeD 0 27 (Su (some ⟨q,0,none⟩)) rfl rfl (by kernel_rfl) (by kernel_rfl) (by kernel_rfl) (λ_ _ _ h=>h) (TY ⟨by rfl,λw' y=> ?_⟩) s ?_
   .have B:=y.1.caps.b1.cell 0;go_simp
   simp only[Tf,zq0];refine takeD 1 28 (Su (some ⟨E.m,0,none⟩)) rfl rfl (by kernel_rfl) (by kernel_rfl) (by kernel_rfl) (λ_ _ _ h=>h) (TY ⟨by rfl,λw' y=> ?_⟩) s ?_
   .have B:=y.1.caps.b3.cell 0;go_simp
   simp only[Tf,zq0];refine takeD 2 29 (AS SC d) rfl rfl (by kernel_rfl) (by kernel_rfl) (by kernel_rfl) (λ_ _ _ h=>h) (TY ⟨by rfl,λw' y=> ?_⟩) s ?_
   .have B:=y.2.1.cell 0;go_simp
   simp only[Tf,zq0];refine takeD 3 30 (AS SC (d+1)) rfl rfl (by kernel_rfl) (by kernel_rfl) (by kernel_rfl) (λ_ _ _ h=>h) (TY ⟨by rfl,λw' y=> ?_⟩) s ?_
   .go_simp
    rw[UL];omega
   simp only[Tf,zq0];refine takeD 4 31 (AS SC k) rfl rfl (by kernel_rfl) (by kernel_rfl) (by kernel_rfl) (λ_ _ _ h=>h) (TY ⟨by rfl,λw' y=> ?_⟩) s ?_
   .skip
    go_simp
   simp only[Tf,zq0];refine takeD 6 33 (AS SC j) rfl rfl (by kernel_rfl) (by kernel_rfl) (by kernel_rfl) (λ_ _ _ h=>h) (TY ⟨by rfl,λw' y=> ?_⟩) s ?_
   .have B:=y.1.caps.b4.cell 0;go_simp
   simp only[Tf,zq0];have hH:=M.out (d+1) (by omega) W6 q k s.1.wb.mem s.1.wb.rep hks'.2;rw[show((d+1:Nat):Int)=(d:Int)+1 from by push_cast;rfl]at hH;refine wZ (R:=λu=>cI E u/\Kq W6.heap.size [E.r] W6 u) 5 32 _ 239 #[Su (some ⟨q,0,none⟩),Su (some ⟨E.m,0,none⟩),AS SC (d+1),AS SC k] rfl rfl rfl (by kernel_rfl) (by go_simp) hH ?_;rintro W7 ⟨hM7,k7⟩;have hnm:∀x∈[E.r],W6.heap[x]?≠some (SQ (some [])):=λx r=>by rw[Sv.1 r];exact s.1.wb.mem.fC
   have hr6:=s.1.wb.new.2.1;have S7:WS E g (.seq Z l) q w W7 L' D j/\a7 W7 W.heap.size 3 #[AS SC d]/\a7 W7 (W.heap.size+1) 62 #[SH (bn l[d]) (Su (some ⟨p,0,none⟩))]/\Marks w.heap.size ds W7:=⟨s.1.asked hE hG hM7 k7,s.2.1.kq k7 s.2.1.lt λr=>by have:=Sv.1 r;omega,s.2.2.1.kq k7 s.2.2.1.lt λr=>by have:=Sv.1 r;omega,s.2.2.2.stay s.2.2.2 hnm k7⟩;refine⟨S7,?_⟩;simp only[Tf,zq0];have hJ':=oV j (dL E.M (l.drop (d+1)) k) W7 (by omega);refine wZ (R:=λu=>Kq W7.heap.size [] W7 u) 7 34 _ 133 #[ep (dL E.M (l.drop (d+1)) k),AS SC j] rfl rfl rfl (by kernel_rfl) (by go_simp) hJ' ?_;rintro W8 k8;have z7:=S7.2.2.1.lt;have I:WS E g (.seq Z l) q w W8 L' D j/\a7 W8 W.heap.size 3 #[AS SC d]/\a7 W8 (W.heap.size+1) 62 #[SH (bn l[d]) (Su (some ⟨p,0,none⟩))]/\Marks w.heap.size ds W8:=⟨S7.1.own (X:=[]) (by omega) (λ_ h=>nomatch h) k8,S7.2.1.kq k8 S7.2.1.lt Sy,S7.2.2.1.kq k8 S7.2.2.1.lt Sy,S7.2.2.2.stay S7.2.2.2 (X:=[]) (λ_ h=>nomatch h) k8⟩;refine⟨I,wpAnyH_done (by kernel_rfl) ?_ _⟩;have T:Hid (Kq m.heap.size [E.r] m W8):=AI (((kd.out.mono (Sx _) nofun).trans (k7.mono kd.out.kp.1 λ_ h _=>h)).trans (k8.mono (TC kd.out.kp.1 k7.kp.1) nofun));simp only[Tf,zq0];have u1:=I.1.caps.b3.cell 0;have u2:=I.1.caps.b2.cell 0;have u3:=I.2.2.1.cell 0;have uf:=I.1.caps.b2.frozen;replace I:=AI I;by_cases hq:(dL E.M (l.drop (d+1)) k).testBit j=true
   .have hkc:k=cc:=by
     have:=B.out;rw[if_pos (by rw[A,hq];rfl)]at this;exact Option.some.inj this
    subst hkc;rw[hq];replace hq:=AI hq;have hRk8:=(z.out d _ _ (SE (by omega)) (SE F)).keep (w':=W8) λb A _=>I.out.1.wb.old hE hG b A
    rw[hpv.out]at hRk8;have hCw:=AI (hwk.out l[d] (Te F) W8 p D k L' I.out.1.wb.mem hRk8 hi' (by rw[hP.out];exact A) hL' I.out.1.wb.sp);gi_wp2
    refine⟨trivial,(U5 ll (callsIn_wide.2 hCw.out)).mono ?_⟩;rintro e W9 ⟨rfl,hM9,hs9,k9⟩;have S9:=I.out.1.walked hE hG hM9 hs9 k9;have M9:=I.out.2.2.2.stay I.out.2.2.2 (λx r=>by
     simp only[SM,Sy,or_false]at r;rcases r with rfl|rfl
     .exact I.out.1.wb.mem.fC
     .exact fC I.out.1.wb.sp) k9
    have u4:=S9.caps.b2.cell 0;have u5:=S9.caps.b2.frozen;have kB:Kq W9.heap.size [w.heap.size+1+1] W9 (W9.setCell ⟨w.heap.size+1+1,0,none⟩ (AS SC k)):=(Kq.refl W9).setCell (p:=⟨w.heap.size+1+1,0,none⟩) (λ_=>Sv.2 rfl) _;have M10:=M9.stay M9 (λx r=>by rw[Sv.1 r];exact fC S9.caps.b2) kB;have S10:=S9.moved k;have kfin:Kq m.heap.size [E.r,g,w.heap.size+1+1] m (W9.setCell ⟨w.heap.size+1+1,0,none⟩ (AS SC k)):=((T.out.mono (Sx _) λx r _=>by rw[Sv.1 r];exact Tl).trans (k9.mono T.out.kp.1 λx r _=>by
     simp only[SM,Sy,or_false]at r ⊢;exact r.imp (λh=>h) .inl)).trans (kB.mono (TC T.out.kp.1 k9.kp.1) λx r _=>by rw[Sv.1 r];simp)
    replace M10:=AI M10;replace S10:=AI S10;replace kfin:=AI kfin;gi_wp2
    exact⟨kfin.out,rfl,S10.out,M10.out⟩
   .have hqf:=TV.2 hq;rw[hqf];replace hqf:=AI hqf;gi_wp2
    refine⟨T.out.mono (Sx _) λx r _=>by rw[Sv.1 r];exact Tl,?_,I.out⟩;have:=B.out;rw[if_neg (by rw[hqf.out];simp)]at this;exact this
 .obtain rfl:d=l.length:=by omega
  have hbb:=hbit.out;have hff:=Q.out;rw[TF]at hbb hff;rw[dL,tN,decide_eq_true_eq]at hbb;rw[jI]at hff;subst hbb;have hfin2:Hid (L'=dH (jI E.M l i D) L):=AI hff;have v0:=hWS0.out.wb;go_wp2;refine ot rfl hMk0.out λm H=> ?_
  have hB:=hWS0.out.wb.own (X:=[]) (Sx _) (λ_ h=>nomatch h) H;rw[<- hfin2.out];exact⟨rfl,hB.mem,hB.sp,hB.kq⟩
end
end Go.Proofs.YtkgohmcmmcpigabGreatDoor
