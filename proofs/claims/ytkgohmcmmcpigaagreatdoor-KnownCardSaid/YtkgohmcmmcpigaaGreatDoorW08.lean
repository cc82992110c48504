/- A part of the proof that Within holds; no condition. -/
import Derived.LaidEql
import Derived.Stop.Asserts
import Derived.RowKitTokens
import Derived.WalkSpells
import Derived.OwnWalk
import Derived.Test.YtkgohmcmmcpigaaGreatDoorRows
import Derived.Lib.LaidU8
import Derived.LaidHandle
import Derived.ShapedOpen
import Derived.Conc.Fork
import Derived.Test.YtkgohmcmmcpigaaGreatDoorCards
import Derived.Test.YtkgohmcmmcpigaaGreatDoorTie
import Derived.ChangeSame
import Derived.ChangeVars
import Derived.JoinedOf
import Derived.RowKit
import Derived.LaidLaws
import Derived.Deep.DeepLaidRun
import Derived.SevenTiedAt
import Derived.Conc.Holds
import Derived.Conc.HoldsTime
import Derived.Conc.LeavingOf
import Derived.WitnessAt
import Derived.Conc.AtomicLaws
import Derived.Conc.MarkLaws
import Derived.Conc.AtomicLaws2
import Derived.RangeFuncNested
import Derived.RangeFuncBound
import Derived.RangeFuncCalls
import Derived.RangeFuncLeaves
import Derived.OwnWalkIn
import Derived.TacticsInMore
import Derived.LoopNIn
import Derived.LoopIn
import Derived.DeepKeys4
import Derived.MapKept
import Derived.RangeFuncRecord
import Derived.BigRegion
import Derived.OrdersIn
import Derived.OrdersHeld
import Derived.Deep.Quiet
import Derived.Deep.Cut
import Derived.Deep.CutRange
import Derived.Deep.DeepCutAuto
import Derived.Deep.LoopGhost
import Derived.Test.YtkgohmcmmcpigaaGreatDoorW07
set_option linter.constructorNameAsVariable false
set_option linter.unusedSectionVars false
set_option linter.unusedSimpArgs false
set_option linter.unusedVariables false
set_option maxHeartbeats 4000000
set_option maxRecDepth 100000
namespace Go.Proofs.YtkgohmcmmcpigaaGreatDoor
open Go
open Go.Lib renaming hid->up
open _root_.List renaming mem_singleton->x5,not_mem_nil->AS,getElem?_eq_getElem->By,mem_cons->OF,drop_eq_getElem_cons->Su,append_toArray->Sy,drop_zero->SE,size_toArray->SF,push_toArray->SG,length_cons->SH,cons_append->SI,nil_append->SJ,length_nil->SK,getElem_mem->SL,mem_cons_self->SS,mem_cons_of_mem->SU,getElem?_eq_some_iff->SV,drop_length->T7,set_cons_succ->Te,range'->Tm,range->Tx,mem_append_right->TI,getElem?_toArray->TJ,mem_append_left->TN,getElem?_drop->TS
open _root_.Nat renaming le_refl->AI,testBit->BY,lt_irrefl->SC,reduceSub->SO,reduceAdd->SP,zero_or->SY,lt_of_lt_of_le->T1,le_trans->T5,lt_succ_self->T6,lt_or_ge->Tc,eq_zero_or_pos->Td,zero_le->Tl,testBit_or->Tt,lt_succ_of_lt->Tw,le_of_lt->Ty,or_zero->TF,or_assoc->TQ,mul_comm->TR,le_succ->TY,mod_lt->U4
open _root_.Array renaming getElem?_eq_some_iff->AT,replicate_zero->Sw,replicate_succ->Sx,getElem?_setIfInBounds_ne->SD,replicate->SN,getElem?_map->T2,getElem?_setIfInBounds_self_of_lt->T8,getElem?_eq_getElem->Tb,getElem?_eq_none->To,mem_iff_getElem->TK,getElem?_toList->TL
open Go renaming World->If,callFunc->IN,execOp->SQ,Value->SW,Program->Tq,Frame->Tu,Goroutine->Tv,TypeId->Tz,Deferred->TC
open Go.World renaming cell?_alloc_lt->IS,putObj_heap_other->Sz,frozen?_alloc_old->SZ,alloc->T9,putObj_heap_same->Ti,cell?->Tj,cell?_alloc_at->Tr,setCell->TO
open Go.Conc renaming mem_ofEvents->IT,Good->TX
open _root_.Int renaming le_refl->No
open Go.Frame renaming enter->Sv,finish_at->U5
open Go.Act renaming put->SM,eval->Tg
open _root_.Option renaming map_eq_some_iff->SR
open Go.Fence renaming wide->SX
open Go.Region renaming wanted->T0,lexTailB->U2
open Go.MapKept renaming run_getObj_map->T3
open Go.Result renaming andThen->T4
open Go.Oper renaming semAt_some->Ta
open Go.Instr renaming lookup->Tf,mapUpdate->TE
open _root_.Bool renaming eq_false_iff->Th,and_eq_true->TD,or_eq_true->U6
open _root_.Or renaming inl->Tk
open Go.Extern renaming find->Tn
open Go.Value renaming int->Tp
open Go.CallsIn renaming inRound->Ts
open Go.Code renaming region->TG
open Go.MemOp renaming ofEvents->TH
open Go.Sem renaming run_bind->TP
open Go.Exit renaming inBlock->TV
open _root_.Decidable renaming em->TW
open Go.Obj renaming row?->TZ
open Go.IntKind renaming wrap_i64->U0
open _root_.UInt8 renaming toNat_inj->U1
section
open Go.RowKit Go.Extern.Stop Go.Stop Go.Extern
theorem as_nil(t w):
 Calls PH 52 #[.nilIface,t] w λe w'=>e= .returned (.bool false)/\w'=w:=by
 go_enter PH.func Tryz.func52 (by decide),Tryz.ntmps52
 go_wp2;go_ret;exact⟨rfl,rfl⟩
theorem PH.methodKind(h w):(Go.method 455 226 (.agg #[h]) "Kind").run PH w= .ok (206,h) w:=by kernel_rfl
theorem PH.methodElem(h w):(Go.method 455 226 (.agg #[h]) "Elem").run PH w= .ok (218,.agg #[h]) w:=by kernel_rfl
theorem PH.methodImplements(h w):(Go.method 455 226 (.agg #[h]) "Implements").run PH w= .ok (219,.agg #[h]) w:=by kernel_rfl
theorem PH.methodAssignableTo(h w):(Go.method 455 226 (.agg #[h]) "AssignableTo").run PH w= .ok (216,.agg #[h]) w:=by kernel_rfl
theorem rlm(z f v):
 ReflectliteValue.method z f #[v]=(do match<- ReflectliteValue.parts v with |none=>z|some (t,a,fl)=>f t a fl (fl%32)):=rfl
theorem rls(v x):ReflectliteValue.set #[v,x]=(do
 let(some (dst,a,fl),some (src,b,_)):=(<- ReflectliteValue.parts v,<- ReflectliteValue.parts x)
  |unsupported (.noEntry "extern/(internal/reflectlite.Value).Set.zeroValue")
 if fl/ReflectliteValue.flagAddr%2==0 then unsupported (.noEntry "extern/(internal/reflectlite.Value).Set.unaddressable")
 let val <- loadVar src b
 if<- Rtype.directlyAssignable dst src then storeVar dst a val
 else if<- Rtype.implements dst src then
  if(<- Rtype.kind src)==20 then
   match val with
   | .nilIface=>unsupported (.noEntry "extern/reflectlite: a nil value of one interface type handed on as a value of another")
   |_=>storeVar dst a val
  else storeVar dst a (.iface src val)
 else panicString ("reflectlite.Set: value of type " ++(<- Rtype.spelt src)++ " is not assignable to type " ++(<- Rtype.spelt dst))
 pure (.tuple #[])):=rfl
theorem PH.G8(t w):(ReflectliteValue.unpack (.iface 135 (.pointer (some t)))).run PH w
 = .ok (.agg #[.pointer (some ⟨3,135,none⟩),.pointer (some ⟨w.heap.size,0,none⟩),.int .u64 150]) (w.alloc (.cells #[.pointer (some t)] 135)):=by kernel_rfl
theorem PH.N8(a w):(ReflectliteValue.methodAny (ReflectliteValue.valueError "reflectlite.Value.Type" 0) (λt _ _ _=>ReflectliteType.toType t) #[.agg #[.pointer (some ⟨3,135,none⟩),.pointer (some a),.int .u64 150]]).run PH w
 = .ok (.iface 226 (.agg #[.pointer (some ⟨3,135,none⟩)])) w:=by kernel_rfl
theorem PH.NF(w):((ReflectliteType.abiMethod λt=>(λa:Nat=>Tp IntKind.u8 (a:Int))<$>Rtype.kind t) #[.pointer (some ⟨3,135,none⟩)]).run PH w= .ok (.int .u8 22) w:=by kernel_rfl
theorem PH.NG(w):((ReflectliteType.abiMethod λt=>(λa:Nat=>Tp IntKind.u8 (a:Int))<$>Rtype.kind t) #[.pointer (some ⟨3,133,none⟩)]).run PH w= .ok (.int .u8 22) w:=by kernel_rfl
theorem PH.DJ(a w):(ReflectliteValue.parts (.agg #[.pointer (some ⟨3,135,none⟩),.pointer (some a),.int .u64 150])).run PH w= .ok (some (135,a,150)) w:=by kernel_rfl
theorem PH.Mq(a p W)(ha:W.cell? a=some (.pointer (some p))):
 (ReflectliteValue.method (ReflectliteValue.valueError "reflectlite.Value.IsNil" 0) ReflectliteValue.isNil #[.agg #[.pointer (some ⟨3,135,none⟩),.pointer (some a),.int .u64 150]]).run PH W= .ok (.bool false) W:=by
 rw[rlm];simp only[TP,PH.DJ,T4];simp[ReflectliteValue.isNil,loadVar,isAgg,underlying,aK,Tryz.underlying135,ha,T4]
theorem PH.NR(w):(ReflectliteType.method ReflectliteType.elem #[.agg #[.pointer (some ⟨3,135,none⟩)]]).run PH w= .ok (.iface 226 (.agg #[.pointer (some ⟨3,133,none⟩)])) w:=by kernel_rfl
theorem PH.Bl(w):(ReflectliteType.relation "Implements" ReflectliteType.implements_ #[.agg #[.pointer (some ⟨3,133,none⟩)],.iface 226 (.agg #[.pointer (some ⟨3,105,none⟩)])]).run PH w= .ok (.bool true) w:=by kernel_rfl
theorem PH.J5(v w):(ReflectliteType.typeOf #[.iface 133 v]).run PH w= .ok (.iface 226 (.agg #[.pointer (some ⟨3,133,none⟩)])) w:=by kernel_rfl
theorem PH.BW(w):(ReflectliteType.relation "AssignableTo" ReflectliteType.assignableTo #[.agg #[.pointer (some ⟨3,133,none⟩)],.iface 226 (.agg #[.pointer (some ⟨3,133,none⟩)])]).run PH w= .ok (.bool true) w:=by kernel_rfl
theorem PH.G9(e w):(ReflectliteValue.unpack (.iface 133 (.pointer (some e)))).run PH w
 = .ok (.agg #[.pointer (some ⟨3,133,none⟩),.pointer (some ⟨w.heap.size,0,none⟩),.int .u64 150]) (w.alloc (.cells #[.pointer (some e)] 133)):=by kernel_rfl
theorem PH.Kr(w):(Rtype.elem? 135).run PH w= .ok (some 133) w:=by kernel_rfl
theorem PH.Pt(p w):(ReflectliteValue.mk 133 p ReflectliteValue.flagAddr).run PH w= .ok (.agg #[.pointer (some ⟨3,133,none⟩),.pointer (some p),.int .u64 406]) w:=by kernel_rfl
theorem PH.My(a p W)(ha:W.cell? a=some (.pointer (some p))):
 (ReflectliteValue.method (ReflectliteValue.valueError "reflectlite.Value.Elem" 0) ReflectliteValue.elem #[.agg #[.pointer (some ⟨3,135,none⟩),.pointer (some a),.int .u64 150]]).run PH W
  = .ok (.agg #[.pointer (some ⟨3,133,none⟩),.pointer (some p),.int .u64 406]) W:=by
 rw[rlm];simp only[TP,PH.DJ,T4];simp[ReflectliteValue.elem,loadVar,isAgg,underlying,aK,Tryz.underlying135,ha,T4,PH.Kr,PH.Pt]
theorem PH.JE(a w):(ReflectliteValue.parts (.agg #[.pointer (some ⟨3,133,none⟩),.pointer (some a),.int .u64 406])).run PH w= .ok (some (133,a,406)) w:=by kernel_rfl
theorem PH.Ma(a w):(ReflectliteValue.parts (.agg #[.pointer (some ⟨3,133,none⟩),.pointer (some a),.int .u64 150])).run PH w= .ok (some (133,a,150)) w:=by kernel_rfl
theorem PH.Ku(w):(Rtype.directlyAssignable 133 133).run PH w= .ok true w:=by kernel_rfl
theorem PH.OE(ta b e old W)(hb:W.cell? b=some (.pointer (some e)))(ht:W.cell? ta=some old)(hf:W.frozen? ta=false):
 (ReflectliteValue.set #[.agg #[.pointer (some ⟨3,133,none⟩),.pointer (some ta),.int .u64 406],.agg #[.pointer (some ⟨3,133,none⟩),.pointer (some b),.int .u64 150]]).run PH W
  = .ok (.tuple #[]) (W.setCell ta (.pointer (some e))):=by
 rw[rls];simp only[TP,PH.JE,PH.Ma,T4];simp[ReflectliteValue.flagAddr,loadVar,isAgg,underlying,aK,Tryz.underlying133,hb,T4,PH.Ku,storeVar,dk,Value.cells,storeCells,Addr.add];rw[run_store PH W ta _ _ (by rfl)];simp[ht,hf]
theorem MQ(e t old w)(hg:w.cell? ⟨0,0,none⟩=some (.iface 226 (.agg #[.pointer (some ⟨3,105,none⟩)])))(h0:w.cell? t=some old)(h2:w.frozen? t=false):
 Calls PH 52 #[.iface 133 (.pointer (some e)),.iface 135 (.pointer (some t))] w λev w'=>ev= .returned (.bool true)/\w'=((((w.alloc (.cells #[.pointer (some t)] 135)).alloc (.cells #[.pointer (some ⟨3,135,none⟩),.pointer (some ⟨w.heap.size,0,none⟩),.int .u64 150] 182)).alloc (.cells #[.pointer (some ⟨3,135,none⟩),.pointer (some ⟨w.heap.size,0,none⟩),.int .u64 150] 182)).alloc (.cells #[.pointer (some e)] 133)).setCell t (.pointer (some e)):=by
 have h6:= @run_callFunc_extern PH 87 _ (λargs=>ReflectliteValue.unpack (args.getD 0 (.tuple #[]))) (PH.func Tryz.func87 (by decide)) (by kernel_rfl) (by kernel_rfl) (by kernel_rfl) (by kernel_rfl);have h7:= @run_callFunc_extern PH 88 _ (ReflectliteValue.methodAny (ReflectliteValue.valueError "reflectlite.Value.Type" 0) λt _ _ _=>ReflectliteType.toType t) (PH.func Tryz.func88 (by decide)) (by kernel_rfl) (by kernel_rfl) (by kernel_rfl) (by kernel_rfl);have h8:= @run_callFunc_extern PH 89 _ (ReflectliteValue.method (ReflectliteValue.valueError "reflectlite.Value.IsNil" 0) ReflectliteValue.isNil) (PH.func Tryz.func89 (by decide)) (by kernel_rfl) (by kernel_rfl) (by kernel_rfl) (by kernel_rfl);have h27:= @run_callFunc_extern PH 206 _ (ReflectliteType.abiMethod λt=>do pure (.int .u8 (<- Rtype.kind t))) (PH.func Tryz.func206 (by decide)) (by kernel_rfl) (by kernel_rfl) (by kernel_rfl) (by kernel_rfl);have h37:= @run_callFunc_extern PH 218 _ (ReflectliteType.method ReflectliteType.elem) (PH.func Tryz.func218 (by decide)) (by kernel_rfl) (by kernel_rfl) (by kernel_rfl) (by kernel_rfl);have h38:= @run_callFunc_extern PH 219 _ (ReflectliteType.relation "Implements" ReflectliteType.implements_) (PH.func Tryz.func219 (by decide)) (by kernel_rfl) (by kernel_rfl) (by kernel_rfl) (by kernel_rfl);have h10:= @run_callFunc_extern PH 112 _ ReflectliteType.typeOf (PH.func Tryz.func112 (by decide)) (by kernel_rfl) (by kernel_rfl) (by kernel_rfl) (by kernel_rfl);have h35:= @run_callFunc_extern PH 216 _ (ReflectliteType.relation "AssignableTo" ReflectliteType.assignableTo) (PH.func Tryz.func216 (by decide)) (by kernel_rfl) (by kernel_rfl) (by kernel_rfl) (by kernel_rfl);have h11:= @run_callFunc_extern PH 113 _ (ReflectliteValue.method (ReflectliteValue.valueError "reflectlite.Value.Elem" 0) ReflectliteValue.elem) (PH.func Tryz.func113 (by decide)) (by kernel_rfl) (by kernel_rfl) (by kernel_rfl) (by kernel_rfl);have h12:= @run_callFunc_extern PH 114 _ ReflectliteValue.set (PH.func Tryz.func114 (by decide)) (by kernel_rfl) (by kernel_rfl) (by kernel_rfl) (by kernel_rfl);have tO:=PH.J5;have f6:=PH.G8;have f7:=PH.N8;have mK:=PH.methodKind;have mE:=PH.methodElem;have mI:=PH.methodImplements;have mA:=PH.methodAssignableTo;have kP:=PH.NF;have kE:=PH.NG;have eP:=PH.NR;have iE:=PH.Bl;have n8:=PH.Mq ⟨w.heap.size,0,none⟩ t ((w.alloc (.cells #[.pointer (some t)] 135)).alloc (.cells #[.pointer (some ⟨3,135,none⟩),.pointer (some ⟨w.heap.size,0,none⟩),.int .u64 150] 182)) (by simp);have hlt:0<w.heap.size:=by
  rcases Tc 0 w.heap.size with h|h
  .exact h
  .simp[Tj,To h]at hg
 have hg2:((w.alloc (.cells #[.pointer (some t)] 135)).alloc (.cells #[.pointer (some ⟨3,135,none⟩),.pointer (some ⟨w.heap.size,0,none⟩),.int .u64 150] 182)).cell? ⟨0,0,none⟩=some (.iface 226 (.agg #[.pointer (some ⟨3,105,none⟩)])):=by
  rw[IS _ _ ⟨0,0,none⟩ (by first |(simp;omega)|simp),IS _ _ ⟨0,0,none⟩ hlt];exact hg
 have aE:=PH.BW;have vE:=PH.G9;have h1:t.block<w.heap.size:=by
  rcases Tc t.block w.heap.size with h|h
  .exact h
  .simp[Tj,To h]at h0
 have el:=PH.My ⟨w.heap.size,0,none⟩ t (((w.alloc (.cells #[.pointer (some t)] 135)).alloc (.cells #[.pointer (some ⟨3,135,none⟩),.pointer (some ⟨w.heap.size,0,none⟩),.int .u64 150] 182)).alloc (.cells #[.pointer (some ⟨3,135,none⟩),.pointer (some ⟨w.heap.size,0,none⟩),.int .u64 150] 182)) (by rw[IS _ _ ⟨w.heap.size,0,none⟩ (by simp;omega),IS _ _ ⟨w.heap.size,0,none⟩ (by simp),Tr _ _ _ _ rfl];rfl);have st:=PH.OE t ⟨w.heap.size+1+1+1,0,none⟩ e old ((((w.alloc (.cells #[.pointer (some t)] 135)).alloc (.cells #[.pointer (some ⟨3,135,none⟩),.pointer (some ⟨w.heap.size,0,none⟩),.int .u64 150] 182)).alloc (.cells #[.pointer (some ⟨3,135,none⟩),.pointer (some ⟨w.heap.size,0,none⟩),.int .u64 150] 182)).alloc (.cells #[.pointer (some e)] 133))
  (by rw[Tr _ _ _ _ (by simp)];rfl)
  (by rw[IS _ _ t (by simp;omega),IS _ _ t (by simp;omega),IS _ _ t (by simp;omega),IS _ _ t h1];exact h0)
  (by rw[SZ _ _ t (by simp;omega),SZ _ _ t (by simp;omega),SZ _ _ t (by simp;omega),SZ _ _ t (Nat.ne_of_lt h1)];exact h2)
 go_enter PH.func Tryz.func52 (by decide),Tryz.ntmps52
 go_wp2;go_enter PH.func Tryz.func90 (by decide),Tryz.ntmps90
 go_wp2;refine wp_loop_rounds 1 ?_;rw[rounds_succ];go_wp2;go_ret;exact⟨rfl,rfl⟩
end
section
open Go.RowKit
def gI(w:If):Prop:=w.cell? ⟨0,0,none⟩=some (.iface 226 (.agg #[.pointer (some ⟨3,105,none⟩)]))
theorem gI.lt{w}(h:gI w):0<w.heap.size:=by
 grind [gI,Tj]
theorem gI.alloc{w}(h:gI w)(o):gI (w.alloc o):=(IS _ _ ⟨0,0,none⟩ h.lt).trans h
theorem uF(w):
 Calls PH 33 #[.nilIface] w λe w'=>e= .returned (.tuple #[.int .i64 0,.int .i64 0])/\Below w.heap.size w w':=by
 go_enter PH.func Tryz.func33 (by decide),Tryz.ntmps33
 go_wp2_with (first |(refine(as_nil _ _).mono ?_;rintro e w' ⟨rfl,rfl⟩))
 go_ret2
 exact⟨rfl,((Below.refl _ _).alloc (AI _) _).alloc (by simp) _⟩
theorem J6(p a k w)(hE:gI w)(ha:w.cell? p=some (.int .i64 a))(hk:w.cell? ⟨p.block,p.off+1,none⟩=some (.int .i64 k))(hp:p.block<w.heap.size):
 Calls PH 33 #[.iface 133 (.pointer (some p))] w λe w'=>e= .returned (.tuple #[.int .i64 k,.int .i64 a])/\Below w.heap.size w w':=by
 have h0:=hE.alloc (.cells #[.pointer none] 133);have hlt:=hE.lt;clear hE;go_enter PH.func Tryz.func33 (by decide),Tryz.ntmps33
 go_wp2_with fail
 refine(MQ p _ (.pointer none) _ h0 (by simp) (by simp)).mono ?_;rintro e w2 ⟨rfl,rfl⟩;clear h0;have hn:Below w.heap.size w (((((w.alloc (.cells #[.pointer (some p)] 133)).alloc (.cells #[.pointer (some ⟨w.heap.size,0,none⟩)] 135)).alloc (.cells #[.pointer (some ⟨3,135,none⟩),.pointer (some ⟨w.heap.size+1,0,none⟩),.int .u64 150] 182)).alloc (.cells #[.pointer (some ⟨3,135,none⟩),.pointer (some ⟨w.heap.size+1,0,none⟩),.int .u64 150] 182)).alloc (.cells #[.pointer (some p)] 133)):=
  (((((Below.refl _ _).alloc (AI _) _).alloc (by simp) _).alloc (by simp;omega) _).alloc (by simp;omega) _).alloc (by simp;omega) _
 have c0:=(hn.cell (p:=p) hp).trans ha;have c1:=(hn.cell (p:=⟨p.block,p.off+1,none⟩) hp).trans hk;have c2:(((((w.alloc (.cells #[.pointer (some p)] 133)).alloc (.cells #[.pointer (some ⟨w.heap.size,0,none⟩)] 135)).alloc (.cells #[.pointer (some ⟨3,135,none⟩),.pointer (some ⟨w.heap.size+1,0,none⟩),.int .u64 150] 182)).alloc (.cells #[.pointer (some ⟨3,135,none⟩),.pointer (some ⟨w.heap.size+1,0,none⟩),.int .u64 150] 182)).alloc (.cells #[.pointer (some p)] 133)).cell? ⟨w.heap.size,0,none⟩=some (.pointer (some p)):=by
  rw[IS _ _ ⟨w.heap.size,0,none⟩ (by simp;omega),IS _ _ ⟨w.heap.size,0,none⟩ (by simp;omega),IS _ _ ⟨w.heap.size,0,none⟩ (by simp;omega),IS _ _ ⟨w.heap.size,0,none⟩ (by simp),Tr _ _ _ _ rfl];rfl
 have HN:=up hn;clear hn ha hk;go_wp2_with fail
 generalize ((((w.alloc (.cells #[.pointer (some p)] 133)).alloc (.cells #[.pointer (some ⟨w.heap.size,0,none⟩)] 135)).alloc (.cells #[.pointer (some ⟨3,135,none⟩),.pointer (some ⟨w.heap.size+1,0,none⟩),.int .u64 150] 182)).alloc (.cells #[.pointer (some ⟨3,135,none⟩),.pointer (some ⟨w.heap.size+1,0,none⟩),.int .u64 150] 182)).alloc (.cells #[.pointer (some p)] 133)=W at *;go_region
 all_goals go_wp2
 all_goals go_ret2
 all_goals exact⟨rfl,HN.out.drew⟩
end
section
open Go.RowKit Go.Conc
attribute [local instance] fI
theorem gI.ea{w w'}(h:gI w)(k:Old w w'):gI w':=by
 have hl:=h.lt;unfold gI Tj at h ⊢;rw[k.old _ hl];omega
def IL(n0:Nat)(w':If)(fl:Nat)(r:Option (g8 Nd))(v:SW):Prop:=match r with
 |some (.ok nd σ)=>∃x nv,∃tl:FV,v= .tuple #[vp x,.int .i64 0,.int .i64 0]/\n0<=x/\w'.heap[x]?=some (.cells (#[nv,.int .i64 σ.g,.int .u8 fl]++tl.1) 103 (0,0))/\Repr w' (λb=>n0<=b/\b≠x) nv nd
 |some (.err k a)=>v= .tuple #[.pointer none,.int .i64 k,.int .i64 a]
 |none=>False
theorem wl{h0 w s}{fl:Nat}(hfl:fl<256)(h4:Under h0 w)(hG:fx w)(hE:gI w):
 cb (br ek h0) 26 #[.string s,.int .u8 fl] w λe w'=>∃v,e= .returned v/\Old w w'/\IL w.heap.size w' fl (gK s fl) v:=by
 refine bu (bP (by decide)) (λw' ⟨v,h,_⟩=>nomatch h) (PH.func Tryz.func26 (by decide)) rfl ?_;simp only[Tryz.ntmps26,SF,SH,SK,SP,SO,Sx,Sw,SG,Sy,SJ,SI];refine ac λK hK=> ?_
 refine bm λw1 e1=> ?_
 have O1:=up e1.old;clear e1;go_wp2;refine hK.out _ _ ?_;clear hK K;refine ac λK hK=> ?_
 refine ao ?_;show aV _ _ _ (Tm 0 (2+6)) _ _;refine bq 0 2 6 (λN hN w2 e2=> ?_) (by decide);simp only[zq1];have O2:=up (O1.out.eqv e2);clear e2;go_wp2;refine hN.out _ _ ?_;clear hN N;have hG2:=hG.ea O2.out;have h2:Under h0 w2:=h4.ea O2.out;refine bF (f:=36) (i:=2) (rest:=Tm 3 (5+0)) rfl rfl λu=>by simp[go_sem] (bP (by decide)) (Ir (s:=s) hfl h2 hG2) (λv w3 hr=> ?_) λch w3 hr=>by obtain⟨_,h,_⟩:=hr;cases h
 obtain⟨v,e,h3,hs⟩:=hr;cases e;have O3:=up (O2.out.trans h3);have h1:=up (hE.ea O3.out);have hsz:=up O2.out.size;clear h3 hG hG2 h2 O1 O2 hE;cases hr:gK s fl with
 |none=>rw[hr]at hs;exact hs.elim
 |some r=>
 rw[hr]at hs;cases r with
 |ok nd σ=>
  obtain⟨x,nv,tl,rfl,hx,hxb,hrep⟩:=hs;replace hrep:=up hrep;replace hxb:=up hxb;simp only[SM,zq0];refine bq 3 5 0 (λN hN w4 e4=> ?_) (by decide);simp only[zq1];have O4:=up (O3.out.eqv e4);replace e4:=up e4;clear O3;go_wp2;refine hN.out _ _ (az (hK.out _ _ ?_));clear hN N hK K;refine bm λw5 e5=> ?_
  have O5:=up (O4.out.eqv e5);replace e5:=up e5;clear O4;go_wp2_with fail
  refine(uF _).mono ?_;rintro e w6 ⟨rfl,hb⟩;go_wp2;go_ret3
  have h53:w5.heap=w3.heap:=e5.out.heap.trans e4.out.heap;have hz:=congrArg Array.size h53;have hlt:=(AT.1 hxb.out).1;have hold:=Below.ea hb;refine⟨_,rfl,O5.out.trans hold,?_⟩;rw[hr];refine⟨x,nv,tl,rfl,T5 hsz.out hx,?_,?_⟩
  .rw[hold.old x (by omega),h53];exact hxb.out
  .refine(hrep.out.mono (S':=λb=>w.heap.size<=b/\b≠x) λb hb hlt=>⟨T5 hsz.out hb.1,hb.2⟩).keep λb hb hlt=> ?_
   rw[hold.old b (by omega),h53]
 |err k at_=>
  obtain⟨b,rfl,hb,hB⟩:=hs;replace hB:=up hB;replace hb:=up hb;simp only[SM,zq0];refine bq 3 5 0 (λN hN w4 e4=> ?_) (by decide);simp only[zq1];have O4:=up (O3.out.eqv e4);replace hB:=up (hB.out.af e4.heap);replace h1:=up (h1.out.ea e4.old);clear O3 e4;go_wp2;refine hN.out _ _ (az (hK.out _ _ ?_));clear hN N hK K;refine bm λw5 e5=> ?_
  have O5:=up (O4.out.eqv e5);replace hB:=up (hB.out.af e5.heap);replace h1:=up (h1.out.ea e5.old);clear O4 e5;have c0:=up (hB.out.cell 0);have c1:=up (hB.out.cell 1);have hlt:=up hB.out.lt;go_wp2_with fail
  refine(J6 ⟨b,0,none⟩ at_ k _ h1.out c0.out c1.out hlt.out).mono ?_;rintro e w6 ⟨rfl,hb⟩;go_wp2;go_ret3
  refine⟨_,rfl,O5.out.trans (Below.ea hb),?_⟩;rw[hr];rfl
end
section
open Go.RowKit Go.Conc
attribute [local instance] fI
noncomputable abbrev qk:If:=(begin Tryz.prog (λ_ _=>0) default).world
theorem Kl:Tryz.prog.globalNamed "errors.errorType" =some 0:=by kernel_rfl
theorem yS:Tryz.prog.globalNamed "posix/scan.classes" =some 1:=by kernel_rfl
theorem Ky:Tryz.prog.globals[1]?.map (·.type)=some 301:=by kernel_rfl
theorem LW:(Tryz.prog.cutTypes.find? (·.1== "internal/reflectlite.rtype")).map (·.2)=some 226:=by kernel_rfl
theorem oneRow:((Tx 355).filter λt=>Tryz.prog.rowNamed t [101,114,114,111,114])=[105]:=by kernel_rfl
theorem types_size:Tryz.prog.types.size=355:=by kernel_rfl
theorem Nh:(qk.heap[0]?.bind TZ).isSome=true:=by kernel_rfl
theorem Gr:(qk.heap[1]?.bind TZ).map (λx=>(x.1.size,x.2))=some (24,301):=by kernel_rfl
theorem Gq:(qk.heap[2]?.bind TZ).map (λx=>(x.1.size,x.2))=some (1,3):=by kernel_rfl
theorem start3:(match qk.heap[3]? with |some (.cells _ _ _)=>true|_=>false)=true:=by kernel_rfl
theorem Ex:3<qk.heap.size:=of_decide_eq_true (by kernel_rfl)
theorem HC:Tryz.prog.buildable 3=true:=by kernel_rfl
theorem HA:Tryz.prog.cellTypes Tryz.prog.depth 3=some [3]:=by kernel_rfl
theorem rj:Tryz.prog.globals.size=3:=by kernel_rfl
theorem qS{W:If}(h:W.ShapedOpen Tryz.prog){g}(hg:g<3)(hs:(qk.heap[g]?.bind TZ).isSome=true):∃cs t,W.heap[g]?=some (.cells cs t):=by
 obtain⟨x,hx⟩:=Option.isSome_iff_exists.1 hs;obtain⟨cs,h1,_⟩:=h.1 g x.1 x.2 (by rw[rj];omega) hx<;>grind
theorem ug{α β:Type}{o:Option α}{f:α->β}{y}(h:o.map f=some y):o.isSome=true:=by
 cases o with
 |none=>cases h
 |some x=>rfl
theorem uj{W:If}(h:W.ShapedOpen Tryz.prog){g}(hg:g<=3):∃cs t f,W.heap[g]?=some (.cells cs t f):=by
 match g,hg with
 |0,_=>obtain⟨cs,t,h1⟩:=qS h (g:=0) (by decide) Nh<;>grind
 |1,_=>obtain⟨cs,t,h1⟩:=qS h (g:=1) (by decide) (ug Gr)<;>grind
 |2,_=>obtain⟨cs,t,h1⟩:=qS h (g:=2) (by decide) (ug Gq)<;>grind
 |3,_=>
  obtain⟨o,o0,h1,h2,h3⟩:=h.2 3 (by simp) Ex;have h4:=by
   rw[if_neg (by decide)]at h3;omega
  have hs:=start3;grind
theorem EO{W:If}(h:W.ShapedOpen Tryz.prog):∃m t,W.heap[2]?=some (.cells #[.int .i64 m] t):=by
 obtain⟨x,hx,h0⟩:=SR.1 Gq;simp[Prod.mk.injEq]at h0;obtain⟨cs,h1,h2,h3⟩:=h.1 2 x.1 x.2 (by simp) hx;rw[h0.1]at h2;rw[h0.2]at h3;obtain⟨ts,ht,_,hc⟩:=h3 HC;rw[HA]at ht;obtain⟨v,hv⟩:∃v,cs=#[v]:=by
  obtain⟨l⟩:=cs;match l,h2 with
  |[v],_=>exact⟨v,rfl⟩
 subst hv;obtain⟨u,hu,hok⟩:=hc 0 v rfl;have hint:Tryz.prog.underlying 3=some (.int .i64):=by rfl
 unfold Cell.ok at hok;grind
theorem Dj:(match Tryz.prog.underlying 300 with |some (.struct fs)=>fs.toList.map λf=>(f.type,f.offset)|_=>[])=[(9,0),(9,1)]:=by kernel_rfl
theorem Dk:∃fs f0 f1,Tryz.prog.underlying 300=some (.struct fs)/\fs[0]?=some f0/\fs[1]?=some f1/\f0.type=9/\f0.offset=0/\f1.type=9/\f1.offset=1/\fs.size=2:=by
 have h:=Dj;split at h
 .next fs h0=>
  obtain⟨l⟩:=fs;match l,h with
  |[f0,f1],h=>
   simp only[List.map_cons,List.map_nil,List.cons.injEq,Prod.mk.injEq,and_true]at h;exact⟨_,f0,f1,h0,rfl,rfl,h.1.1,h.1.2,h.2.1,h.2.2,rfl⟩
 .cases h
theorem sw:Tryz.prog.cellsOf 9=1:=by kernel_rfl
theorem su:Tryz.prog.underlying 9=some .string:=by kernel_rfl
theorem zu:Tryz.prog.underlying 301=some (.array 12 300):=by kernel_rfl
theorem zv{w fuel cs a b p}(h:DataW.trod (λ_=>()) Tryz.prog w 0 (λ_=>true) false fuel 300 cs=some (.agg [.lit (.string a),.lit (.string b)],p)):cs=[tc a,tc b]:=by
 obtain⟨fs,f0,f1,hu,h0,h1,t0,o0,t1,o1,hz⟩:=Dk;obtain⟨xs,n,_,hx,hl,h2,hf⟩:=DataW.trod_struct hu h;have k0:=hf 0 f0 h0;have k1:=hf 1 f1 h1;rw[t0,o0,sw]at k0;rw[t1,o1,sw]at k1;rw[hz]at h2;match xs,h2 with
 |[x0,x1],_=>
  obtain⟨s0,c0,y0,_⟩:=DataW.trod_string su k0;obtain⟨s1,c1,y1,_⟩:=DataW.trod_string su k1;match cs,hl with
  |[v0,v1],_=>
   simp_all[SE,List.take_succ_cons,List.take_zero,List.drop_succ_cons,List.cons.injEq,tc]
theorem chunks{α:Type}{f:Nat->List α}:∀n l,l.length=2*n->(∀i,i<n->(f i).length=2/\(l.drop (i*2)).take 2=f i)->l=(Tx n).flatMap f:=by
 intro n;induction n with
 |zero=>simp
 |succ n ih=>
  intro l h hf;have h1:=ih (l.take (2*n)) (by rw[List.length_take];omega) λi hi=>⟨(hf i (by omega)).1,by
   rw[List.drop_take];grind⟩
  simp[List.range_succ,<- h1];rw[<- (hf n (by omega)).2,List.take_of_length_le (l:=l.drop (n*2)) (by rw[List.length_drop];omega),TR,List.take_append_drop]
theorem BO{H}:(Rows.laid_posix_scan_classes:DataW H)= .agg (eN.map λx=>.agg [.lit (.string x.1),.lit (.string x.2)]):=rfl
theorem wX{w fuel cs p}(h:DataW.trod (λ_=>()) Tryz.prog w 0 (λ_=>true) false fuel 301 cs=some (Rows.laid_posix_scan_classes,p))(hl:cs.length=24):cs=jb:=by
 rw[BO]at h;have h1:cs=(Tx 12).flatMap λi=>[tc (eN.getD i ([],[])).1,tc (eN.getD i ([],[])).2]:=chunks 12 cs hl λi hi=>⟨rfl,by
  obtain⟨fuel',d,q,hd,ht⟩:=Lib.array_elem zu h i hi;have h0:eN[i]?=some (eN.getD i ([],[])):=by
   simp[By (show i<eN.length from hi)]
  rw[List.getElem?_map,h0]at hd;obtain rfl:=Option.some.inj hd;exact zv ht⟩
 rw[h1];rfl
theorem KG(σ):jb.toArray.map (ab σ)=jb.toArray:=by
 rw[List.map_toArray];congr 1
 have h:∀v∈jb,ab σ v=v:=by
  intro v hv;unfold jb at hv;grind [ct,tc]
 exact List.map_congr_left λv hv=>h v hv
theorem K3{W}(hS:W.ShapedOpen Tryz.prog)(h:laidMetH Tryz.prog Rows.compilesRow.laid W):fx W/\gI W:=by
 have h':laidMet Tryz.prog [("posix/scan.classes",Rows.laid_posix_scan_classes)] W/\handlesMet Tryz.prog [("errors.errorType",Rows.laid_errors_errorType)] W:=h;have hE:gI W:=by
  obtain⟨name,u,ty,e1,e2,e3,e4,e5⟩:=h'.2 _ (x5.2 rfl);have en:name=[101,114,114,111,114]:=(Option.some.inj e1).symm;subst en;obtain rfl:=Option.some.inj (LW.symm.trans e2);have hm:ty∈(Tx 355).filter λt=>Tryz.prog.rowNamed t [101,114,114,111,114]:=List.mem_filter.2 ⟨List.mem_range.2 (by rw[<- types_size];omega),e4⟩
  rw[oneRow]at hm;obtain rfl:=x5.1 hm;have hh:typeHandle Tryz.prog 105= .pointer (some ⟨3,105,none⟩):=by rfl
  rw[hh]at e5;simpa[gI]using World.var?_cell Kl e5 0
 refine⟨⟨λg hg=> ?_,?_⟩,hE⟩
 .obtain⟨cs,t,f,h1⟩:=uj hS (by rw[rj]at hg;omega);exact⟨_,h1,trivial,.inl ⟨_,_,_,rfl⟩⟩
 .obtain⟨g,t,cs,fuel,p,e1,e2,e3,e4⟩:=Lib.laidMet.reads h'.1 (x5.2 rfl);obtain rfl:=Option.some.inj (yS.symm.trans e1);obtain rfl:=Option.some.inj (Ky.symm.trans e2);obtain⟨x,hx,h0⟩:=SR.1 Gr;simp only[Prod.mk.injEq]at h0;obtain⟨cs',h1,h2,_⟩:=hS.1 1 x.1 x.2 (by simp) hx;have e5:cs'=cs:=by
   simp_all[World.var?,yS,Option.bind_some]
  subst e5;have h3:=wX e4 (by rw[Array.length_toList,h2,h0.1]);have h4:cs'=jb.toArray:=by rw[<- h3]
  obtain⟨m,tM,hM⟩:=EO hS;rw[h4]at h1;exact⟨x.2,tM,m,⟨_,h1,by simp⟩,λσ=>KG σ,⟨_,hM,by simp⟩⟩
end
section
open Go.Conc
open Go.ConcN (sumTo upd sumTo_upd upd_ne upd_same)
variable[aD]
section
variable{Q:Tq}{R:Machine->Trace->Prop}{g:Tv}{w:If}
theorem fX.Oz(hr:g.status= .running)
 (H:∀gs sl q τ d t w0 sl0,gs[0]?=some g->Leavers Q t gs q->Held t->Deaf t 0=0->stepT Q (crowd gs w0 sl0)=runT Q (crowd gs (ah w τ d) sl) 0->Runs Q (crowd gs w0 sl0) t R) {m t} (hF:fX Q g w m t):Runs Q m t R:=by
 obtain⟨⟨gs,sl,q,τ,d,rfl,h0,hL⟩,hH,hD⟩:=hF;have key:∀M gs sl q τ d t,sumTo gs.size q=M->gs[0]?=some g->Leavers Q t gs q->Held t->Deaf t 0=0->Runs Q (crowd gs (ah w τ d) sl) t R:=by
  intro M;induction M using Nat.strongRecOn with
  |ind M ihM=>
  intro gs sl q τ d t hM h0 hL hH hD;have haw:∀x∈gs,awake x:=by
   intro x hx;obtain⟨i,hi,rfl⟩:=TK.1 hx;rcases Td i with rfl|h1
   .have:gs[0]=g:=by grind
    rw[this];exact awake_of (.inl hr)
   .exact awake_of ((hL.old i _ h1 (Tb hi)).status.elim .inl λx=>.inr (.inr x))
  obtain⟨i,x,d',sl',hi,hx,hst⟩:=crowd_pick (P:=Q) (w:=ah w τ d) (sl:=sl) haw ⟨0,g,h0,hr⟩;have hat:(ah w τ d).at d'=ah w τ d':=rfl;rw[hat]at hst;rcases Td i with rfl|h1
  .exact H gs sl' q τ d' t _ _ h0 hL hH hD hst
  .have hq:=hL.old i x h1 hi;have h4:(i==0)=false:=by grind
   have hlt:i<gs.size:=(AT.1 hi).1;cases hqi:q i with
   |zero=>rw[hqi]at hq;rw[hq.1]at hx;cases hx
   |succ k=>
    rw[hqi]at hq;rcases hq with⟨hf,_⟩|⟨_,g',es,hm,h3,hq'⟩
    .rw[hf]at hx;cases hx
    have h2:=runT_crowd_go (P:=Q) (sl:=sl') (i:=i) hi (by rw[h4];exact h3 (ah w τ d'));have hsz:((gs.map (woken Q x g' (ah w τ d'))).setIfInBounds i g').size=gs.size:=by simp
    have hsum:sumTo gs.size (upd q i k)+(k+1)=sumTo gs.size q+k:=by
     have:=sumTo_upd q k id hlt;simp_all
    have hne:i≠0:=by omega
    refine Runs.step (hst.trans h2) (ihM (sumTo gs.size (upd q i k)) (by omega) _ sl' (upd q i k) τ d' _ (by rw[hsz]) ?_ ?_ (hH.mute (g:=i) hne λop hop=>by obtain⟨e,_,rfl⟩:=IT hop;rfl λop hop=>by obtain⟨e,he,rfl⟩:=IT hop;exact touch_mute (hm e he)) ((Deaf_other t hne _ λop hop=>by obtain⟨e,_,rfl⟩:=IT hop;rfl).trans hD))
    .rw[SD hne,T2,h0];simp[woken_run hr]
    .refine⟨λj y hj hy=> ?_,λj hj=> ?_⟩
     .by_cases hji:i=j
      .simp_all[T8,upd_same,Deaf_own]
      .rw[SD hji,T2]at hy;obtain⟨z,hz,rfl⟩:=SR.1 hy;have h5:=hL.old j z hj hz;rw[woken_quitsD h5,upd_ne q k (Ne.symm hji),Deaf_other t hji _ λop hop=>by obtain⟨e,_,rfl⟩:=IT hop;rfl];omega
     .rw[Deaf_other t (g':=i) (by omega) _ λop hop=>by obtain⟨e,_,rfl⟩:=IT hop;rfl];exact hL.above j (by simpa using hj)
 grind
def Ends(Q:Tq)(Post:SW->If->Prop)(m:Machine)(t:Trace):Prop:=∃o w' ops,stepT Q m=(.ended o w',ops)/\TX Q Post m o w' (t++ops)
theorem fX.ends{Post v}(hr:g.status= .running)(h:∀τ d,∃d' es,stepG Q true g (ah w τ d)= .ended (.done v) (ah w τ d') es)(hp:∀τ d,Post v (ah w τ d)){m t}(hF:fX Q g w m t):Runs Q m t (Ends Q Post):=by
 refine hF.Oz hr λgs sl q τ d t w0 sl0 h0 hL hH hD hst=>.here ?_
 obtain⟨d',es,hs⟩:=h τ d;have h1:=hH.own (u:=TH 0 g.frame.fn g.frame.place es) λop hop=>by obtain⟨e,_,rfl⟩:=IT hop;rfl
 refine⟨_,_,_,hst.trans (runT_many_ended (P:=Q) (sl:=sl) (i:=0) h0 (show stepG Q (0==0) g (ah w τ d)=_ from hs)),v,rfl,hp _ _,h1.clean,h1.over,⟨λx hx=> ?_,rfl⟩,λj x hx hj=> ?_⟩
 .obtain⟨j,hj⟩:=List.mem_iff_getElem?.1 hx;rw[TS]at hj;exact⟨_,(hL.old (1+j) x (by omega) (by simpa[crowd]using hj)).leaves⟩
 .refine⟨q j,?_⟩;have e:(t++TH 0 g.frame.fn g.frame.place es).deaf j (t++TH 0 g.frame.fn g.frame.place es).size=Deaf t j:=
   Deaf_other t (g:=j) (g':=0) (by omega) _ λop hop=>by obtain⟨e,_,rfl⟩:=IT hop;rfl
  rw[e];exact(hL.old j x (by omega) hx).hears _
theorem Ends.run{Post m t}(h:Runs Q m t (Ends Q Post)):∃N last o w' t',runNT Q (N+1) m t=(.ended o w',t')/\runN Q N m= .next last/\step Q last= .ended o w'/\TX Q Post last o w' t':=by
 obtain⟨N,m',t',h1,o,w',ops,h2,h3⟩:=h;grind [step,runNT_add,runNT,runNT_fst]
theorem Bf{fr v u}(h:fr.leaving Q u (.returned v))(hi:Q.inits.idxOf? fr.fn=none):∃es,stepG Q true (bO fr []) u= .ended (.done v) u es:=by
 obtain⟨hm,hd,hk,fn,hf,hrr⟩:=h;refine⟨seen Q fr.fn ((results fn fr.tmps).runT Q u #[]).2,?_⟩;simp[stepG,bO,hm,unwind];grind [GStep.after,doReturn]
end
theorem Ii{Q β f}(hb:β f=none)(args k):Sv (alt Q β) f args k=Sv Q f args k:=by
 have he:(alt Q β).funcs[f]?=Q.funcs[f]?:=by
  rw[iG];grind [ax]
 simp[Sv,he]
theorem GN{Q β}(B:On Q β){f:FuncId}{fn d}(hfn:Q.funcs[f]?=some fn)(hb:β f=none)(hres:fn.results=#[.tmp d])(hi:Q.inits.idxOf? f=none){args W}(hn:NoWait W.heap)
 {R} (hC:cb (br B W.heap) f args (strike W) R) (hR:∀e w',R e w'->∃v,e= .returned v) {Post}
 (hP:∀v w' w2 h1,R (.returned v) w'->bg h1 w' w2->rE W.heap h1->∀τ d,Post v (ah w2 τ d)):
 ∃M last o w' t',runNT Q (M+1) (solo (G (Sv Q f args .normal) []) W) #[]=(.ended o w',t')/\runN Q M (solo (G (Sv Q f args .normal) []) W)= .next last/\step Q last= .ended o w'/\TX Q Post last o w' t':=by
 have h:=hC [] (λg u=>∃e fr,R e u/\g=bO fr []/\fr.fn=f/\fr.leaving (alt Q β) u e) λe w' fr h1 h2 h3 h4=>(br B W.heap).stop _ _ _ ⟨e,fr,h1,rfl,h3,h4⟩
 have hI:Iv (bO (Sv (alt Q β) f args .normal) []) (strike W):=⟨Gj hn,.inr ⟨⟨mi B.tame f args .normal,λc hc=>by(cases hc),λt ht=>by(cases ht),λhd=>by(cases hd)⟩,λd hd=>by(cases hd)⟩⟩;have hF:pH W.heap Q (bO (Sv (alt Q β) f args .normal) []) (strike W) (solo (G (Sv Q f args .normal) []) W) #[]:=by
  refine⟨W.heap,⟨⟨#[bO (Sv Q f args .normal) []],none,λ_=>0,W,rfl,Eu W,by rw[Ii hb];rfl,⟨λi g hi hg=> ?_,λj _=>rfl⟩⟩,⟨λsaid hr=> ?_,λi a ha=> ?_,λi g hg=> ?_⟩,rfl⟩,λi _ _=>rfl⟩
  .rw[To (by grind)]at hg;cases hg
  .obtain⟨i,j,_,⟨a,b,ha,_⟩,_⟩:=hr;simp[Trace.act?]at ha
  .obtain⟨x,hx,_⟩:=touch_of ha<;>grind
  .simp[Trace.g?]at hg
 refine Ends.run ((h hI _ _ hF).bind λm' t' ⟨g',w',⟨e,fr,h1,h2,h3,h4⟩,h5,h6⟩=> ?_);obtain⟨v,rfl⟩:=hR e w' h1;obtain⟨h1',w2,hp,ho,hD⟩:=h6.real;subst h2;obtain⟨k1,k2,k3,fn',k4,k5⟩:=h4;rw[h3,iG,hfn]at k4;obtain rfl:ax β f fn=fn':=by simpa using k4
 rw[results_tmp (by rw[qs];omega)]at k5;obtain rfl:fr.tmps.getD d undef=v:=by injection k5
 refine hD.ends (v:=fr.tmps.getD d undef) rfl (λτ dd=> ?_) λτ dd=>hP _ _ _ _ h1 hp ho τ dd
 obtain⟨es,hs⟩:=Bf (Q:=Q) (fr:=fr) (v:=fr.tmps.getD d undef) (u:=ah w2 τ dd) ⟨k1,k2,k3,fn,by rw[h3];omega,results_tmp hres _ _ _⟩ (by rw[h3];omega)<;>grind
end
section
open Go.ChangeShapes Go.WideShapes Go.RowKit Go.Conc
attribute [local instance] fI
theorem OT:ownKnob Tryz.prog.godebug=none:=by kernel_rfl
theorem kG{W:If}{i:Nat}{c:Array SW}{t:Tz}{f:Nat×Nat}(h:W.heap[i]?=some (.cells c t f)):(strike W).heap[i]?=some (.cells c t f):=by
 rw[kF,h];exact congrArg some (rJ c t f)
theorem fx.strike{W:If}(h:fx W)(hc:∀g,g<=Tryz.prog.globals.size->∃c t f,W.heap[g]?=some (.cells c t f)):fx (strike W):=by
 refine⟨λg hg=> ?_,?_⟩
 .obtain⟨c,t,f,h1⟩:=hc g hg;exact⟨_,kG h1,trivial,.inl ⟨_,_,_,rfl⟩⟩
 .obtain⟨tC,tM,m,⟨⟨z,h1,h2⟩,h3,⟨z',h4,h5⟩⟩⟩:=h.sc;exact⟨tC,tM,m,⟨⟨z,kG h1,h2⟩,h3,⟨z',kG h4,h5⟩⟩⟩
theorem gI.strike{W:If}(h:gI W)(hc:∃c t f,W.heap[0]?=some (.cells c t f)):gI (strike W):=by
 obtain⟨c,t,f,h1⟩:=hc;unfold gI Tj at h ⊢;dsimp only at h ⊢;rw[kG h1];rw[h1]at h;exact h
theorem Cj(W:If):Under W.heap (strike W):=by
 refine⟨by simp[strike],λi hi ⟨o,h1,h2⟩=> ?_⟩;rw[kF,h1];rcases pK o with e|⟨e,_⟩
 .exact absurd e h2
 .exact congrArg some e
theorem Mg{W w' w2:If}{h1:Array Obj}(hO:Old (strike W) w')(hp:bg h1 w' w2)(ho:rE W.heap h1):Old W w2:=by
 have hsz:(strike W).heap.size=W.heap.size:=by simp[strike]
 refine⟨λb hb=> ?_,?_,?_,?_⟩
 .have e1:w'.heap[b]?=(W.heap[b]?).map dQ:=by rw[hO.old b (by rw[hsz];exact hb),kF]
  obtain⟨o,e2⟩:∃o,W.heap[b]?=some o:=⟨_,Tb hb⟩;rw[e2]at e1 ⊢;simp only[Option.map_some]at e1;by_cases hs:dQ o=o
  .rw[hs]at e1;rcases hp.blk b with e|⟨e,hl⟩
   .rw[<- e];exact e1
   .rw[e1]at e;have hk:=hp.keep b (by rw[e1];exact e);rw[hk]at hl ⊢;rw[ho b hb (.inl hl)];exact e2
  .have h0:w'.heap[b]?=some (.coro none):=by
    rcases pK o with e|⟨e,_⟩
    .exact absurd e hs
    .rw[e1,e]
   rw[hp.keep b h0,ho b hb (.inr ⟨o,e2,hs⟩)];exact e2
 .have:=hO.size;rw[hsz]at this;rw[hp.size];exact this
 .exact hp.os.trans (hO.os.trans rfl)
 .exact hp.output.trans (hO.out.trans rfl)
noncomputable def laidWorld(os:Os):If:=
 let w0:=World.holding Tryz.prog os ⟨#[],#[],[]⟩
 let w1:If:= {w0 with heap:=w0.heap.modify 0 λ
  | .cells _ t frozen=>.cells #[.iface 226 (.agg #[.pointer (some ⟨3,105,none⟩)])] t frozen
  |o=>o}
 {w1 with heap:=w1.heap.modify 1 λ
  | .cells _ t frozen=>.cells jb.toArray t frozen
  |o=>o}
theorem zQ{H:Type}{enc:Tz×SW->H}{C:Checked}{os:Os}{f:FuncId}{fn:Func}{s:ChangeSpec}{conds:List PathCond}{apart:Bool}{X:If->Array SW->Prop}(w0:If)(args:Array SW)(fuel:Nat)(hos:w0.os=os)
 (hv:(w0.forCall (λ_ _=>0) ⟨#[],args,[]⟩).variablesB C.prog=true)
 (hr:((w0.forCall (λ_ _=>0) ⟨#[],args,[]⟩).heap.toList.drop C.prog.globals.size).take ((begin C.prog (λ_ _=>0) default).world.heap.size-C.prog.globals.size)=
  (begin C.prog (λ_ _=>0) default).world.heap.toList.drop C.prog.globals.size)
 (hok:Input.okWideB C.prog (w0.forCall (λ_ _=>0) ⟨#[],args,[]⟩) f ⟨#[],args,[]⟩=true)
 (h0:s.preB enc C.prog fn conds apart (w0.forCall (λ_ _=>0) ⟨#[],args,[]⟩).memory args fuel=true)
 (hsz:s.sizedB enc C.prog fn apart (w0.forCall (λ_ _=>0) ⟨#[],args,[]⟩).memory args fuel=true)
 (hx:X (w0.forCall (λ_ _=>0) ⟨#[],args,[]⟩).memory args):
 ∃(w:If)(tape:Tape)(i:Input),w.os=os/\(w.forCall tape i).Shaped C.prog/\i.vars=[]/\Input.okWide C.prog (w.forCall tape i) .any w.heap.size f i/\
  ((s.pre enc C.prog fn conds apart (w.forCall tape i).memory i.args/\X (w.forCall tape i).memory i.args)/\sizedMet enc C.prog fn (OpenSpec.ofChange s) apart (w.forCall tape i).memory i.args)/\({calm:=true}:Assume).holds C.prog (lone (Sv C.prog f i.args .normal) [] (w.forCall tape i)):=
 ⟨w0,λ_ _=>0,⟨#[],args,[]⟩,hos,World.shaped_of_B hv hr,(Input.okWide_of_okWideB (base:=0) hok).1,(Input.okWide_of_okWideB hok).2,⟨⟨ChangeSpec.pre_of_preB h0,hx⟩,sizedMet_of_sizedB hsz⟩,by
  simp only[Assume.holds];exact⟨by simp,λ_ _ _ _=>rfl,by simp,by simp,by simp⟩⟩
theorem vh{W:If}(hS:W.ShapedOpen Tryz.prog)(g:Nat)(hg:g<=Tryz.prog.globals.size):∃c t f,W.heap[g]?=some (.cells c t f):=uj hS (by rw[rj]at hg;exact hg)
theorem EV{W:If}(hS:W.ShapedOpen Tryz.prog){f:FuncId}{fn:Func}{args:Array SW}(hf:Tryz.prog.funcs[f]?=some fn)(hb:bH f=none){d:Tmp}(hr:fn.results=#[.tmp d])(hi:Tryz.prog.inits.idxOf? f=none)
 (hC:cb (br ek W.heap) f args (strike W) λe w'=>e= .returned (.bool true)/\Old (strike W) w') {Post:SW->If->Prop} (hP:∀w2,Old W w2->Post (.bool true) w2):
 ∃M last o w' t',runNT Tryz.prog (M+1) (solo (G (Sv Tryz.prog f args .normal) []) W) #[]=(.ended o w',t')/\runN Tryz.prog M (solo (G (Sv Tryz.prog f args .normal) []) W)= .next last/\step Tryz.prog last= .ended o w'/\TX Tryz.prog Post last o w' t':=by
 refine GN ek hf hb hr hi ?_ hC (λe w' h=>⟨_,h.1⟩) λv w' w2 h1 h hp ho τ d=> ?_
 .intro i c t hi;rcases Tc i Tryz.prog.globals.size with hlt|hge
  .obtain⟨c',t',f',h1⟩:=vh hS i (Ty hlt);rw[h1]at hi;cases hi
  .exact hge
 .obtain⟨hv,hO⟩:=h;cases hv;have h0:=Mg hO hp ho;exact hP _ ⟨h0.old,h0.size,h0.os,h0.out⟩
end
section
open Go.Conc
open Go.ConcN (sumTo upd sumTo_upd upd_ne upd_same)
variable[aD]
structure Ee(n:Nat)(Q:Tq)(g:Tv)(w:If)(m:Machine)(t:Trace):Prop where
 is:∃gs sl q τ d,m=crowd gs (ah w τ d) sl/\gs[0]?=some g/\Leavers Q t gs q
 held:Held t
 hears:Deaf t 0=n
section
variable{n n':Nat}{Q:Tq}{R:Machine->Trace->Prop}{g g1 child:Tv}{w w1:If}
theorem Ee.turn(hr:g.status= .running)
 (H:∀gs sl q τ d t m,gs[0]?=some g->Leavers Q t gs q->Held t->Deaf t 0=n->stepT Q m=runT Q (crowd gs (ah w τ d) sl) 0->Runs Q m t R) {m t} (hF:Ee n Q g w m t):Runs Q m t R:=by
 obtain⟨⟨gs,sl,q,τ,d,rfl,h0,hL⟩,hH,hD⟩:=hF;have key:∀M gs sl q τ d t,sumTo gs.size q=M->gs[0]?=some g->Leavers Q t gs q->Held t->Deaf t 0=n->Runs Q (crowd gs (ah w τ d) sl) t R:=by
  intro M;induction M using Nat.strongRecOn with
  |ind M ihM=>
  intro gs sl q τ d t hM h0 hL hH hD;have haw:∀x∈gs,awake x:=by
   intro x hx;obtain⟨i,hi,rfl⟩:=TK.1 hx;rcases Td i with rfl|h1
   .have:gs[0]=g:=by grind
    rw[this];exact awake_of (.inl hr)
   .exact awake_of ((hL.old i _ h1 (Tb hi)).status.elim .inl λx=>.inr (.inr x))
  obtain⟨i,x,d',sl',hi,hx,hst⟩:=crowd_pick (P:=Q) (w:=ah w τ d) (sl:=sl) haw ⟨0,g,h0,hr⟩;have hat:(ah w τ d).at d'=ah w τ d':=rfl;rw[hat]at hst;rcases Td i with rfl|h1
  .exact H gs sl' q τ d' t _ h0 hL hH hD hst
  .have hq:=hL.old i x h1 hi;have h4:(i==0)=false:=by grind
   have hlt:i<gs.size:=(AT.1 hi).1;cases hqi:q i with
   |zero=>rw[hqi]at hq;rw[hq.1]at hx;cases hx
   |succ k=>
    rw[hqi]at hq;rcases hq with⟨hf,_⟩|⟨_,g',es,hm,h3,hq'⟩
    .rw[hf]at hx;cases hx
    have h2:=runT_crowd_go (P:=Q) (sl:=sl') (i:=i) hi (by rw[h4];exact h3 (ah w τ d'));have hsz:((gs.map (woken Q x g' (ah w τ d'))).setIfInBounds i g').size=gs.size:=by simp
    have hsum:sumTo gs.size (upd q i k)+(k+1)=sumTo gs.size q+k:=by
     have:=sumTo_upd q k id hlt;simp_all
    have hne:i≠0:=by omega
    refine Runs.step (hst.trans h2) (ihM (sumTo gs.size (upd q i k)) (by rw[<- hM];omega) _ sl' (upd q i k) τ d' _ (by rw[hsz]) ?_ ?_ (hH.mute (g:=i) hne λop hop=>by obtain⟨e,_,rfl⟩:=IT hop;rfl λop hop=>by obtain⟨e,he,rfl⟩:=IT hop;exact touch_mute (hm e he)) ((Deaf_other t hne _ λop hop=>by obtain⟨e,_,rfl⟩:=IT hop;rfl).trans hD))
    .rw[SD hne,T2,h0];simp[woken_run hr]
    .refine⟨λj y hj hy=> ?_,λj hj=> ?_⟩
     .by_cases hji:i=j
      .simp_all[T8,upd_same,Deaf_own]
      .rw[SD hji,T2]at hy;obtain⟨z,hz,rfl⟩:=SR.1 hy;have h5:=hL.old j z hj hz;rw[woken_quitsD h5,upd_ne q k (Ne.symm hji),Deaf_other t hji _ λop hop=>by obtain⟨e,_,rfl⟩:=IT hop;rfl];omega
     .rw[Deaf_other t (g':=i) (by simp at hj;omega) _ λop hop=>by obtain⟨e,_,rfl⟩:=IT hop;rfl];exact hL.above j (by simpa using hj)
 exact key _ gs sl q τ d t rfl h0 hL hH hD
theorem Ee.go(hr:g.status= .running)(h:∀τ d,∃d' E,stepG Q true g (ah w τ d)= .go g1 (ah w1 τ d') E/\deafBehind n E=n')
 (k:∀m t,Ee n' Q g1 w1 m t->Runs Q m t R) {m t} (hF:Ee n Q g w m t):Runs Q m t R:=by
 refine hF.turn hr λgs sl q τ d t m h0 hL hH hD hst=> ?_
 obtain⟨d',E,hg,hq⟩:=h τ d;refine Runs.step (hst.trans (runT_crowd_go (P:=Q) (sl:=sl) (i:=0) h0 (show stepG Q (0==0) g (ah w τ d)=_ from hg))) (k _ _ ⟨⟨_,sl,q,τ,d',rfl,by simp[(AT.1 h0).1],?_⟩,hH.own λop hop=>by obtain⟨e,_,rfl⟩:=IT hop;rfl,by rw[Deaf_own,hD];omega⟩);refine⟨λj y hj hy=> ?_,λj hj=> ?_⟩
 .have hne:0≠j:=by omega
  rw[SD hne,T2]at hy;obtain⟨z,hz,rfl⟩:=SR.1 hy;have hq:=hL.old j z hj hz;rw[woken_quitsD hq,Deaf_other t (by omega) _ λop hop=>by obtain⟨e,_,rfl⟩:=IT hop;rfl];omega
 .rw[Deaf_other t (g':=0) (by grind) _ λop hop=>by obtain⟨e,_,rfl⟩:=IT hop;rfl];exact hL.above j (by simpa using hj)
end
def eL(n:Nat)(Q:Tq)(R:Machine->Trace->Prop)(g:Tv)(w:If):Prop:=∀m t,Ee n Q g w m t->Runs Q m t R
section
variable{n n':Nat}{Q:Tq}{R:Machine->Trace->Prop}{g g1:Tv}{w w1:If}{b:Tu}{a:Act}{k:List Item}{cs:List Tu}{ops:Array Oper}{i:Nat}{rest:List Nat}{o:Oper}
theorem ca.Nv(h:eL 0 Q R g w):ca Q R g w:=λm t hF=>h m t ⟨hF.is,hF.held,hF.hears⟩
theorem eL.of(h:ca Q R g w):eL 0 Q R g w:=λm t hF=>h m t ⟨hF.is,hF.held,hF.hears⟩
theorem eL.step{E}(hr:g.status= .running)(h:∀τ d,stepG Q true g (ah w τ d)= .go g1 (ah w1 τ d) E)(hE:deafBehind n E=n')(k1:eL n' Q R g1 w1):eL n Q R g w:=λm t hF=>
 hF.go hr (λτ d=>⟨d,E,h τ d,hE⟩) k1
theorem eL.ctl(h:∀w,stepG Q true g w= .go g1 w)(hr:g.status= .running)(k1:eL n Q R g1 w):eL n Q R g w:=eL.step (n':=n) hr (λτ d=>h _) rfl k1
theorem eL.value{v}(w1)(ho:ops[i]?=some o)(hw:T0 o (yielded ops a.tmps)=true)(hk:b.kind≠.early)
 (hr:∀τ d,(SQ a.eval o).run Q (ah w τ d)= .ok (.value v) (ah w1 τ d)) (he:∀τ d,(SQ a.eval o).events Q (ah w τ d) #[]=#[]) (k1:eL n Q R (G (b.at (a.put o.dst v) (.inRegion ops rest::k)) cs) w1):eL n Q R (G (b.at a (.inRegion ops (i::rest)::k)) cs) w:=
 eL.step (n':=n) rfl λτ d=>by rw[stepG_value ho hw hk (hr τ d),listed_nil (he τ d)] rfl k1
end
end
section
open Go.RowKit Go.Conc
attribute [local instance] fI
theorem N3:Tn Tryz.f64=some (λ_=>do mark .disable;pure Extern.Race.none_):=by kernel_rfl
theorem P1:Tn Tryz.f65=some (λ_=>do mark .enable;pure Extern.Race.none_):=by kernel_rfl
theorem Pj:Tn Tryz.f82=some (Extern.Race.marked .acquire):=by kernel_rfl
theorem N4:Tn Tryz.f63=some (Extern.Race.marked .releaseMerge):=by kernel_rfl
theorem Ph:Tn Tryz.f166=some (Extern.Atomic.casT (.int .i32)):=by kernel_rfl
theorem Pi:Tn Tryz.f168=some (Extern.Atomic.update (Op.intArith .add) .i32 true):=by kernel_rfl
noncomputable def qI(src dst:Tz):Bool:=match Tryz.prog.underlying src,Tryz.prog.underlying dst with
 |some (.pointer t),some .unsafePointer=>(Tryz.prog.info? t).map (λi=>decide (i.size=0))==some false
 |_,_=>false
theorem DZ{src dst}(h:qI src dst=true):∃t,Tryz.prog.underlying src=some (.pointer t)/\Tryz.prog.underlying dst=some .unsafePointer/\(Tryz.prog.info? t).map (λi=>decide (i.size=0))=some false:=by
 unfold qI at h;grind
theorem BI{src dst a v w}(hc:w.cell? a=some v)(h:qI src dst=true):(convert src dst (.pointer (some a))).run Tryz.prog w= .ok (.pointer (some a)) w:=by
 obtain⟨t,h1,h2,h3⟩:=DZ h;exact run_convert_to_unsafe h1 h2 h3 hc
theorem E6{src dst a v w}(hc:w.cell? a=some v)(h:qI src dst=true)(es):(convert src dst (.pointer (some a))).events Tryz.prog w es=es:=by
 obtain⟨t,h1,h2,h3⟩:=DZ h;exact events_convert_to_unsafe h1 h2 h3 hc es
theorem Gn{b:Tu}{a kk cs w ops i rest o ats x y}(ho:ops[i]?=some o)(hw:T0 o (yielded ops a.tmps)=true)(hk:b.kind≠.early)(hop:o.op= .call {callee:=.value (.func 168),args:=#[x,y],argTypes:=ats})
 {ad} (hx:a.eval x= .pointer (some ad)) (hy:a.eval y= .int .i32 (-1)) (hc:w.cell? ad=some (.int .i32 1)) (hz:w.frozen? ad=false):
 stepG Tryz.prog true (G (b.at a (.inRegion ops (i::rest)::kk)) cs) w= .go (G (b.at (a.put o.dst (.int .i32 0)) (.inRegion ops rest::kk)) cs) (w.setCell ad (.int .i32 0)) #[⟨.cell ad,false,true⟩,⟨.cell ad,true,true⟩]:=by
 have h:=stepG_add_atomic (P:=Tryz.prog) (main:=true) (b:=b) (a:=a) (kk:=kk) (cs:=cs) (w:=w) (rest:=rest) ho hw hk hop Tryz.func168 (by kernel_rfl) (by kernel_rfl) (by kernel_rfl) .i32 Pi hx hy hc hz;rw[show IntKind.i32.wrap (1+ -1)=0 from by decide]at h;exact h
theorem HF{R}{b:Tu}{a k cs ops i rest o x j w}
 (ho:ops[i]?=some o) (hw:T0 o (yielded ops a.tmps)=true) (hk:b.kind≠.early) (hx:∀u,(SQ a.eval o).run Tryz.prog u= .ok (.enter 154 #[.pointer (some ⟨x,j,none⟩)]) u) (hu:Hu Tryz.prog (SQ a.eval o))
 (hc:w.cell? ⟨x,j,none⟩=some (.int .i32 0)) (hz:w.frozen? ⟨x,j,none⟩=false)
 (H:ca Tryz.prog R (G (b.at (a.put o.dst (.tuple #[])) (.inRegion ops rest::k)) cs) (w.setCell ⟨x,j,none⟩ (.int .i32 1))):ca Tryz.prog R (G (b.at a (.inRegion ops (i::rest)::k)) cs) w:=by
 intro m t hF;obtain⟨c,hT⟩:∃c,(Tryz.f154).body=some c:=⟨_,rfl⟩;refine hF.enter (f:=154) (args:=#[.pointer (some ⟨x,j,none⟩)]) ho hw hk hu Tryz.func154 hT (λτ d=>hx _) ?_;show ca Tryz.prog R _ _;clear hF;have hfin:(b.at a (.inRegion ops (i::rest)::k)).finish (.tuple #[])=b.at (a.put o.dst (.tuple #[])) (.inRegion ops rest::k):=by
  rw[U5,ho];rfl
 rw[<- hfin]at H;generalize b.at a (.inRegion ops (i::rest)::k)=fb at H ⊢;cases hT;rw[show(Tryz.f154).ntmps=13 from Tryz.ntmps154];simp only[SF,SH,SK,SP,SO,Sx,Sw,SG,Sy,SJ,SI];refine ca.Nv ?_;refine eL.ctl (λw=>stepG_seq) rfl ?_
 refine eL.ctl (λw=>stepG_region) rfl ?_
 refine eL.step (n':=1) rfl (λτ d=>stepG_mark0 .disable (λg h=>nomatch h) rfl rfl (by simp[base]) rfl Tryz.func64 (by kernel_rfl) (by kernel_rfl) (by kernel_rfl) N3) rfl ?_;walk_nrm
 refine eL.ctl (λw=>stepG_region_end) rfl ?_
 iterate 2 (refine eL.ctl (λw=>stepG_seq) rfl ?_)
 refine eL.ctl (λw=>stepG_region) rfl ?_
 iterate 3 (refine eL.value (v:=(.pointer (some ⟨x,j,none⟩))) w rfl rfl (by simp[base]) (λτ d=>by first |rfl|simp[SQ,go_sem,Tg]) (λτ d=>by simp[SQ,go_sem,Tg]) ?_;walk_nrm)
 refine eL.step (n':=1) (w1:=w.setCell ⟨x,j,none⟩ (.int .i32 1)) rfl (λτ d=>stepG_cas_hit (v:=0) (n:=1) (ad:=⟨x,j,none⟩) rfl rfl (by simp[base]) rfl Tryz.func166 (by kernel_rfl) (by kernel_rfl) (by kernel_rfl) .i32 Ph rfl rfl rfl hc hz) rfl ?_;walk_nrm
 have hc1:∀{τ:Nat->Question->Nat}{d:Nat},(ah (w.setCell ⟨x,j,none⟩ (.int .i32 1)) τ d).cell? ⟨x,j,none⟩=some (.int .i32 1):=λ{τ d}=>by rw[ru];exact World.cell?_setCell_same' _ _ _ (by rw[hc];rfl)
 have hcv:∀τ d,(convert 291 159 (.pointer (some ⟨x,j,none⟩))).run Tryz.prog (ah (w.setCell ⟨x,j,none⟩ (.int .i32 1)) τ d)= .ok (.pointer (some ⟨x,j,none⟩)) (ah (w.setCell ⟨x,j,none⟩ (.int .i32 1)) τ d):=λτ d=>BI hc1 (by kernel_rfl)
 have hce:∀τ d es,(convert 291 159 (.pointer (some ⟨x,j,none⟩))).events Tryz.prog (ah (w.setCell ⟨x,j,none⟩ (.int .i32 1)) τ d) es=es:=λτ d=>E6 hc1 (by kernel_rfl)
 refine eL.ctl (λw=>stepG_region_end) rfl ?_
 refine eL.ctl (λw=>stepG_cond (t:=true) rfl) rfl ?_
 walk_nrm
 refine eL.ctl (λw=>stepG_seq) rfl ?_
 refine eL.ctl (λw=>stepG_cond (t:=true) rfl) rfl ?_
 walk_nrm
 refine eL.ctl (λw=>stepG_seq) rfl ?_
 refine eL.ctl (λw=>stepG_region) rfl ?_
 refine eL.step (n':=0) rfl (λτ d=>stepG_mark0 .enable (λg h=>nomatch h) rfl rfl (by simp[base]) rfl Tryz.func65 (by kernel_rfl) (by kernel_rfl) (by kernel_rfl) P1) rfl ?_;walk_nrm
 refine eL.ctl (λw=>stepG_region_end) rfl ?_
 refine eL.ctl (λw=>stepG_region) rfl ?_
 (refine eL.value (v:=(.pointer (some ⟨x,j,none⟩))) (w.setCell ⟨x,j,none⟩ (.int .i32 1)) rfl rfl (by simp[base]) (λτ d=>by first |rfl|simp[SQ,go_sem,Tg]) (λτ d=>by simp[SQ,go_sem,Tg]) ?_;walk_nrm)
 (refine eL.value (v:=(.pointer (some ⟨x,j,none⟩))) (w.setCell ⟨x,j,none⟩ (.int .i32 1)) rfl rfl (by simp[base]) (λτ d=>by simp[SQ,go_sem,Tg, *]) (λτ d=>by simp[SQ,go_sem,Tg, *]) ?_;walk_nrm)
 refine eL.step (n':=0) rfl (λτ d=>stepG_markAt .acquire (λa g h=>nomatch h) rfl rfl (by simp[base]) rfl Tryz.func82 (by kernel_rfl) (by kernel_rfl) (by kernel_rfl) Pj (ad:=⟨x,j,none⟩) (by simp[Tg])) rfl ?_;walk_nrm
 refine eL.ctl (λw=>stepG_region_end) rfl ?_
 refine eL.ctl (λw=>stepG_ret') rfl ?_
 exact eL.of (ca.FO rfl rfl rfl Tryz.func154 (λτ d=>results_none rfl _ _ _) H)
theorem D4{R}{b:Tu}{a k cs ops i rest o x j w}
 (ho:ops[i]?=some o) (hw:T0 o (yielded ops a.tmps)=true) (hk:b.kind≠.early) (hx:∀u,(SQ a.eval o).run Tryz.prog u= .ok (.enter 155 #[.pointer (some ⟨x,j,none⟩)]) u) (hu:Hu Tryz.prog (SQ a.eval o))
 (hc:w.cell? ⟨x,j,none⟩=some (.int .i32 1)) (hz:w.frozen? ⟨x,j,none⟩=false)
 (H:ca Tryz.prog R (G (b.at (a.put o.dst (.tuple #[])) (.inRegion ops rest::k)) cs) (w.setCell ⟨x,j,none⟩ (.int .i32 0))):ca Tryz.prog R (G (b.at a (.inRegion ops (i::rest)::k)) cs) w:=by
 intro m t hF;obtain⟨c,hT⟩:∃c,(Tryz.f155).body=some c:=⟨_,rfl⟩;refine hF.enter (f:=155) (args:=#[.pointer (some ⟨x,j,none⟩)]) ho hw hk hu Tryz.func155 hT (λτ d=>hx _) ?_;show ca Tryz.prog R _ _;clear hF;have hfin:(b.at a (.inRegion ops (i::rest)::k)).finish (.tuple #[])=b.at (a.put o.dst (.tuple #[])) (.inRegion ops rest::k):=by
  rw[U5,ho];rfl
 rw[<- hfin]at H;generalize b.at a (.inRegion ops (i::rest)::k)=fb at H ⊢;cases hT;rw[show(Tryz.f155).ntmps=21 from Tryz.ntmps155];simp only[SF,SH,SK,SP,SO,Sx,Sw,SG,Sy,SJ,SI];have hc1:∀{τ:Nat->Question->Nat}{d:Nat},(ah w τ d).cell? ⟨x,j,none⟩=some (.int .i32 1):=λ{τ d}=>hc
 have hcv:∀τ d,(convert 291 159 (.pointer (some ⟨x,j,none⟩))).run Tryz.prog (ah w τ d)= .ok (.pointer (some ⟨x,j,none⟩)) (ah w τ d):=λτ d=>BI hc1 (by kernel_rfl)
 have hce:∀τ d es,(convert 291 159 (.pointer (some ⟨x,j,none⟩))).events Tryz.prog (ah w τ d) es=es:=λτ d=>E6 hc1 (by kernel_rfl)
 refine ca.Nv ?_;refine eL.ctl (λw=>stepG_seq) rfl ?_
 refine eL.ctl (λw=>stepG_cond (t:=true) rfl) rfl ?_
 walk_nrm
 refine eL.ctl (λw=>stepG_seq) rfl ?_
 refine eL.ctl (λw=>stepG_region) rfl ?_
 iterate 3 (refine eL.value (v:=(.pointer (some ⟨x,j,none⟩))) w rfl rfl (by simp[base]) (λτ d=>by first |rfl|simp[SQ,go_sem,Tg]) (λτ d=>by simp[SQ,go_sem,Tg]) ?_;walk_nrm)
 refine eL.of (ca.value (v:=.int .i32 1) w rfl rfl (by simp[base]) (λc h=>by cases h) λτ d=>by simp[SQ,go_sem,Tg,hc1] (ca.Nv ?_));walk_nrm
 refine eL.ctl (λw=>stepG_region_end) rfl ?_
 refine eL.ctl (λw=>stepG_seq) rfl ?_
 refine eL.ctl (λw=>stepG_region) rfl ?_
 (refine eL.value (v:=(.pointer (some ⟨x,j,none⟩))) w rfl rfl (by simp[base]) (λτ d=>by first |rfl|simp[SQ,go_sem,Tg]) (λτ d=>by simp[SQ,go_sem,Tg]) ?_;walk_nrm)
 (refine eL.value (v:=(.pointer (some ⟨x,j,none⟩))) w rfl rfl (by simp[base]) (λτ d=>by simp[SQ,go_sem,Tg, *]) (λτ d=>by simp[SQ,go_sem,Tg, *]) ?_;walk_nrm)
 refine eL.step (n':=0) rfl (λτ d=>stepG_markAt .releaseMerge (λa g h=>nomatch h) rfl rfl (by simp[base]) rfl Tryz.func63 (by kernel_rfl) (by kernel_rfl) (by kernel_rfl) N4 (ad:=⟨x,j,none⟩) (by simp[Tg])) rfl ?_;walk_nrm
 refine eL.ctl (λw=>stepG_region_end) rfl ?_
 refine eL.ctl (λw=>stepG_region) rfl ?_
 refine eL.step (n':=1) rfl (λτ d=>stepG_mark0 .disable (λg h=>nomatch h) rfl rfl (by simp[base]) rfl Tryz.func64 (by kernel_rfl) (by kernel_rfl) (by kernel_rfl) N3) rfl ?_;walk_nrm
 refine eL.ctl (λw=>stepG_region_end) rfl ?_
 refine eL.ctl (λw=>stepG_seq) rfl ?_
 refine eL.ctl (λw=>stepG_region) rfl ?_
 iterate 3 (refine eL.value (v:=(.pointer (some ⟨x,j,none⟩))) w rfl rfl (by simp[base]) (λτ d=>by first |rfl|simp[SQ,go_sem,Tg]) (λτ d=>by simp[SQ,go_sem,Tg]) ?_;walk_nrm)
 refine eL.step (n':=1) (w1:=w.setCell ⟨x,j,none⟩ (.int .i32 0)) rfl (λτ d=>Gn (ad:=⟨x,j,none⟩) rfl rfl (by simp[base]) rfl rfl rfl hc hz) rfl ?_;walk_nrm
 (refine eL.value (v:=(.int .i32 0)) (w.setCell ⟨x,j,none⟩ (.int .i32 0)) rfl rfl (by simp[base]) (λτ d=>by first |rfl|simp[SQ,go_sem,Tg]) (λτ d=>by simp[SQ,go_sem,Tg]) ?_;walk_nrm)
 refine eL.ctl (λw=>stepG_region_end) rfl ?_
 iterate 2 (refine eL.ctl (λw=>stepG_seq) rfl ?_)
 refine eL.ctl (λw=>stepG_region) rfl ?_
 (refine eL.value (v:=(.int .i32 0)) (w.setCell ⟨x,j,none⟩ (.int .i32 0)) rfl rfl (by simp[base]) (λτ d=>by first |rfl|simp[SQ,go_sem,Tg]) (λτ d=>by simp[SQ,go_sem,Tg]) ?_;walk_nrm)
 (refine eL.value (v:=(.bool false)) (w.setCell ⟨x,j,none⟩ (.int .i32 0)) rfl rfl (by simp[base]) (λτ d=>by first |rfl|simp[SQ,go_sem,Tg]) (λτ d=>by simp[SQ,go_sem,Tg]) ?_;walk_nrm)
 refine eL.ctl (λw=>stepG_region_end) rfl ?_
 refine eL.ctl (λw=>stepG_cond (t:=false) rfl) rfl ?_
 refine eL.ctl (λw=>stepG_skip) rfl ?_
 refine eL.ctl (λw=>stepG_region) rfl ?_
 refine eL.step (n':=0) rfl (λτ d=>stepG_mark0 .enable (λg h=>nomatch h) rfl rfl (by simp[base]) rfl Tryz.func65 (by kernel_rfl) (by kernel_rfl) (by kernel_rfl) P1) rfl ?_;walk_nrm
 refine eL.ctl (λw=>stepG_region_end) rfl ?_
 refine eL.ctl (λw=>stepG_end) rfl ?_
 exact eL.of (ca.FO rfl rfl rfl Tryz.func155 (λτ d=>results_none rfl _ _ _) H)
end
section
section
variable{P:Tq}{D:dZ P}
def tR(D:dZ P)(f:FuncId)(args:Array SW)(w:If)(R:If->Prop):Prop:=
 ∀(c:Tu)(cs:List Tu)(K:Tv->If->Prop),D.okF c.fn->c.mode= .returning->(∀w',R w'->D.H K (bO c cs) w')->D.H K (bO (Sv P f args .deferred) (c::cs)) w
theorem rV{f fn c args w R}(hok:D.okF f)(hf:P.funcs[f]?=some fn)(hb:fn.body=some c)(hr:fn.results=#[])
 (h:cL D c (λe a w=>(e= .normal\/e= .ret)/\a.defers=[]/\R w) {tmps:=args++SN (fn.ntmps-args.size) undef,defers:=[]} w):tR D f args w R:=λc₀ cs K h0 hu hK=>by
 let b:= {(default:Tu)with fn:=f,kind:=.deferred}
 have henter:Sv P f args .deferred=b.at {tmps:=args++SN (fn.ntmps-args.size) undef,defers:=[]} [.code c]:=by
  grind [Sv,Frame.at]
 have hback:∀(a':Act)(w':If)(todo:List Item),a'.defers=[]->R w'->D.H K (bO {b.at a' todo with mode:=.returning} (c₀::cs)) w':=λa' w' todo hd hR=>
  D.one (λu=>by
   have:=step_going_returned (P:=P) (fr:= {b.at a' todo with mode:=.returning}) (c:=c₀) (cs:=cs) (w:=u) (v:=.tuple #[]) rfl ⟨rfl,hd,fn,hf,results_none hr _ _ _⟩;rw[hu]at this;have e: {c₀ with mode:=settle .returning}=c₀:=by rw[show settle .returning= .returning from rfl,<- hu]
   rw[e]at this;omega) h0 (hK _ hR)
 rw[henter];refine h b [] (c₀::cs) K hok (by simp[b]) λe a' w' hq=> ?_
 obtain⟨he,hd,hR⟩:=hq;rcases he with rfl|rfl
 .exact D.one (λu=>step_end) hok (hback _ _ _ hd hR)
 .exactλtodo=>hback _ _ _ hd hR
def yb(D:dZ P)(R:If->Prop):List TC->If->Prop
 |[],w=>R w
 |d::ds,w=>∃fv cap f args,d.target= .fn fv cap/\(∀u:If,(invoke d.target d.args).run P u= .ok (.enter f args) u)/\D.okF f/\tR D f args w λw'=>yb D R ds w'
theorem vl{f fn c args w R}(hok:D.okF f)(hf:P.funcs[f]?=some fn)(hb:fn.body=some c)(hr:fn.results=#[])
 (h:cL D c (λe a w=>(e= .normal\/e= .ret)/\yb D R a.defers w) {tmps:=args++SN (fn.ntmps-args.size) undef,defers:=[]} w):
 cb D f args w λe w'=>e= .returned (.tuple #[])/\R w':=λcs K hK=>by
 let b:= {(default:Tu)with fn:=f,kind:=.normal}
 have henter:Sv P f args .normal=b.at {tmps:=args++SN (fn.ntmps-args.size) undef,defers:=[]} [.code c]:=by
  grind [Sv,Frame.at]
 have key:∀(ds:List TC)(fr:Tu)(w':If),fr.mode= .returning->fr.defers=ds->fr.fn=f->fr.kind= .normal->yb D R ds w'->D.H K (bO fr cs) w':=by
  intro ds;induction ds with
  |nil=>exactλfr w' h1 h2 h3 h4 h5=>hK _ _ _ ⟨rfl,h5⟩ (by simp) h3 ⟨h1,h2,h4,fn,by rw[h3];omega,results_none hr _ _ _⟩
  |cons d ds ih=>
   intro fr w' h1 h2 h3 h4 ⟨fv,cap,g,args',ht,hi,hg,hc⟩;refine D.one (λu=>step_defer (by simp[h1]) h2 ht (hi u)) (by simpa[Sv]using hg) (hc {fr with defers:=ds} cs K (by rw[h3];omega) h1 λw2 h=>ih _ _ h1 rfl h3 h4 h)
 rw[henter];refine h b [] cs K hok (by simp[b]) λe a' w' hq=> ?_
 obtain⟨he,hq⟩:=hq;rcases he with rfl|rfl
 .exact D.one (λu=>step_end) hok (key _ _ _ rfl rfl rfl rfl hq)
 .exactλtodo=>key _ _ _ rfl rfl rfl rfl hq
end
end
section
open Go.RowKit Go.Conc
attribute [local instance] fI
theorem DV{h0 h1 w w' g a v m t}(hp:bg h1 w w')(ho:rE h0 h1)(hF:fX Tryz.prog g (w'.setCell a v) m t):pH h0 Tryz.prog g (w.setCell a v) m t:=by
 obtain⟨⟨gs,sl,q,τ,d,rfl,hg,hL⟩,hH,hD⟩:=hF;exact⟨h1,⟨⟨gs,sl,q,_,rfl,(hp.setCell a v).ah τ d,hg,hL⟩,hH,hD⟩,ho⟩
section
variable{h0:Array Obj}{ops:Array Oper}{i:Nat}{rest:List Nat}{o:Oper}{Q:Exit->Act->If->Prop}{a:Act}{w:If}{x j:Nat}
theorem Hy{b:Tu}{k cs v w'}(hI:Iv (bO (b.at a (.inRegion ops (i::rest)::k)) cs) w)(hw:an w'):Iv (bO (b.at (a.put o.dst v) (.inRegion ops rest::k)) cs) w':=by
 have hjg:JG (bO (b.at a (.inRegion ops (i::rest)::k)) cs):=by
  rcases hI.2 with⟨⟨d,hd,_⟩,_⟩|⟨h,_⟩
  .cases hd
  omega
 have hpd:(a.put o.dst v).defers=a.defers:=by unfold SM;split <;>rfl
 refine⟨hw,.inr ⟨⟨⟨λit hit=> ?_,λd hd=>hjg.1.2 d (by have hd:d∈(a.put o.dst v).defers:=hd;rw[hpd]at hd;exact hd)⟩,hjg.2.1,nofun,nofun⟩,nofun⟩⟩;rcases OF.1 hit with rfl|hit
 .exactλj hj o ho=>hjg.1.1 (.inRegion ops (i::rest)) (SS ..) j (SU _ hj) o ho
 .exact hjg.1.1 it (SU _ hit)
theorem F5(ho:ops[i]?=some o)(hw:T0 o (yielded ops a.tmps)=true)(hx:∀u,(SQ a.eval o).run Tryz.prog u= .ok (.enter 154 #[.pointer (some ⟨x,j,none⟩)]) u)(hu:Hu Tryz.prog (SQ a.eval o))
 (hc:w.cell? ⟨x,j,none⟩=some (.int .i32 0)) (hz:w.frozen? ⟨x,j,none⟩=false) (hr:aV (br ek h0) ops Q rest (a.put o.dst (.tuple #[])) (w.setCell ⟨x,j,none⟩ (.int .i32 1))):aV (br ek h0) ops Q (i::rest) a w:=λb k cs K hok hk hcc=>by
 intro hI m t hF;obtain⟨h1,w',hp,h2,hD⟩:=hF.real;exact HF ho hw hk hx hu ((hp.cell _).trans hc) ((hp.frozen _).trans hz) (λm2 t2 h3=>hr b k cs K hok hk hcc (Hy hI (eO hI.1 _ _)) m2 t2 (DV hp h2 h3)) m t hD
theorem AV(ho:ops[i]?=some o)(hw:T0 o (yielded ops a.tmps)=true)(hx:∀u,(SQ a.eval o).run Tryz.prog u= .ok (.enter 155 #[.pointer (some ⟨x,j,none⟩)]) u)(hu:Hu Tryz.prog (SQ a.eval o))
 (hc:w.cell? ⟨x,j,none⟩=some (.int .i32 1)) (hz:w.frozen? ⟨x,j,none⟩=false) (hr:aV (br ek h0) ops Q rest (a.put o.dst (.tuple #[])) (w.setCell ⟨x,j,none⟩ (.int .i32 0))):aV (br ek h0) ops Q (i::rest) a w:=λb k cs K hok hk hcc=>by
 intro hI m t hF;obtain⟨h1,w',hp,h2,hD⟩:=hF.real;exact D4 ho hw hk hx hu ((hp.cell _).trans hc) ((hp.frozen _).trans hz) (λm2 t2 h3=>hr b k cs K hok hk hcc (Hy hI (eO hI.1 _ _)) m2 t2 (DV hp h2 h3)) m t hD
end
theorem jw.set{w w'}(h:jw w' w)(a v):jw (w'.setCell a v) (w.setCell a v):=⟨by simp[TO,h.heap],h.os,h.out⟩
theorem jw.trans{a b c}(h:jw a b)(k:jw b c):jw a c:=⟨h.heap.trans k.heap,h.os.trans k.os,h.out.trans k.out⟩
theorem jw.cell{w w'}(h:jw w' w)(a):w'.cell? a=w.cell? a:=by simp[Tj,h.heap]
theorem jw.frozen{w w'}(h:jw w' w)(a):w'.frozen? a=w.frozen? a:=by simp[World.frozen?,h.heap]
section
variable{h0:Array Obj}{w:If}{x j:Nat}
theorem Mo(hc:w.cell? ⟨x,j,none⟩=some (.int .i32 0))(hz:w.frozen? ⟨x,j,none⟩=false):
 cb (br ek h0) 128 #[.pointer (some ⟨x,j,none⟩)] w λe w'=>e= .returned (.tuple #[])/\jw w' (w.setCell ⟨x,j,none⟩ (.int .i32 1)):=by
 refine bu (bP (by decide)) (λw' h=>nomatch h.1) (PH.func Tryz.func128 (by decide)) rfl ?_;simp only[Tryz.ntmps128,SF,SH,SK,SP,SO,Sx,Sw,SG,Sy,SJ,SI];refine ao ?_;show aV _ _ _ (Tm 0 (3+1)) _ _;refine bq 0 3 1 (λN hN w1 e1=> ?_) (by decide);simp only[zq1];have c1:=(e1.cell _).trans hc;replace e1:=up e1;replace hc:=up hc;replace hz:=up hz;go_wp2;refine hN.out _ _ ?_;clear hN N;refine F5 (x:=x) (j:=j) (i:=3) (rest:=Tm 4 0) rfl rfl (λu=> ?_) ?_ ((e1.out.cell _).trans hc.out) ((e1.out.frozen _).trans hz.out) ?_
 .simp[SQ,go_sem,Tg]
 .exact uV Tryz.func154 rfl _
 refine az ?_;have r:=e1.out.set ⟨x,j,none⟩ (.int .i32 1);exact⟨rfl,_,results_none rfl _ _ _,rfl,r⟩
theorem Hm(hc:w.cell? ⟨x,j,none⟩=some (.int .i32 1))(hz:w.frozen? ⟨x,j,none⟩=false):
 tR (br ek h0) 129 #[.pointer (some ⟨x,j,none⟩)] w λw'=>jw w' (w.setCell ⟨x,j,none⟩ (.int .i32 0)):=by
 refine rV (bP (by decide)) (PH.func Tryz.func129 (by decide)) rfl rfl ?_;simp only[Tryz.ntmps129,SF,SH,SK,SP,SO,Sx,Sw,SG,Sy,SJ,SI];refine ao ?_;show aV _ _ _ (Tm 0 (3+1)) _ _;refine bq 0 3 1 (λN hN w1 e1=> ?_) (by decide);simp only[zq1];have c1:=(e1.cell _).trans hc;replace e1:=up e1;replace hc:=up hc;replace hz:=up hz;go_wp2;refine hN.out _ _ ?_;clear hN N;refine AV (x:=x) (j:=j) (i:=3) (rest:=Tm 4 0) rfl rfl (λu=> ?_) ?_ ((e1.out.cell _).trans hc.out) ((e1.out.frozen _).trans hz.out) ?_
 .simp[SQ,go_sem,Tg]
 .exact uV Tryz.func155 rfl _
 refine az ?_;exact⟨.inl rfl,rfl,e1.out.set ⟨x,j,none⟩ (.int .i32 0)⟩
end
end
structure MT where
 s:ByteArray
 f:Nat
 e:Nat
def dN(g:Nat->Nat)(p:Nat):Nat->Nat
 |0=>0
 |n+1=>(if p.testBit n then g n else 0)|||dN g p n
def iw(b0 b1 b2 b3:Int)(c:Nat):Bool:=(if c<64 then b0 else if c<128 then b1 else if c<192 then b2 else b3).toNat.testBit (c%64)
def wG(M:MT)(fin:Bool)(i:Nat):Bool:=match fin with
 |false=>(i==0&&M.e&&&1==0)||(M.f&&&2 !=0&&0<i&&i-1<M.s.size&&M.s.get! (i-1)==10)
 |true=>(i==M.s.size&&M.e&&&2==0)||(M.f&&&2 !=0&&i<M.s.size&&M.s.get! i==10)
def bS(least most:Int)(done:Nat):Nat:=if most<0/\least<=done then done else done+1
def pU(g:Nat->Nat)(least most:Int):Nat->Nat->Nat->Nat
 |0,_,_=>0
 |f+1,done,i=>(if least<=done then 1<<<i else 0)|||(if(done:Int)=most then 0 else dN (λk=>if i<k\/(done:Int)<least then pU g least most f (bS least most done) k else 0) (g i) 320)
mutual
def bv(M:MT):Nd->Nat->Nat
 | .set _ b0 b1 b2 b3,i=>if i<M.s.size&&iw b0 b1 b2 b3 (M.s.get! i).toNat then 1<<<(i+1)else 0
 | .edge _ fin,i=>if wG M fin i then 1<<<i else 0
 | .seq _ ks,i=>dL M ks i
 | .alt _ ks,i=>iK M ks i
 | .grp _ k _,i=>bv M k i
 | .rep _ k l m,i=>pU (bv M k) l m (l.toNat+400) 0 i
def dL(M:MT):List Nd->Nat->Nat
 |[],i=>1<<<i
 |k::ks,i=>dN (dL M ks) (bv M k i) 320
def iK(M:MT):List Nd->Nat->Nat
 |[],_=>0
 |k::ks,i=>bv M k i|||iK M ks i
end
def dI(M:MT)(k:Nd)(l m:Int)(done i:Nat):Nat:=pU (bv M k) l m (l.toNat+400) done i
def df(q:Nat->Bool)(p:Nat):Nat->Option Nat
 |0=>none
 |n+1=>if p.testBit n&&q n then some n else df q p n
abbrev Notes:=List (Int×Nat×Nat)
def jJ(M:MT)(k:Nd)(l m:Int)(wk:Nat->Nat->Notes)(j:Nat):Nat->Nat->Nat->Notes
 |0,_,_=>[]
 |f+1,done,i=>if i<j\/(done:Int)<l then
  match df (λc=>(decide (i<c)||decide ((done:Int)<l))&& (dI M k l m (bS l m done) c).testBit j) (bv M k i) 320 with
  |some c=>wk i c++jJ M k l m wk j f (bS l m done) c
  |none=>jJ M k l m wk j f (bS l m done) i
  else[]
mutual
def de(M:MT):Nd->Nat->Nat->Notes
 | .set ..,_,_=>[]
 | .edge ..,_,_=>[]
 | .seq _ ks,i,j=>jI M ks i j
 | .alt _ ks,i,j=>oq M ks i j
 | .grp _ k num,i,j=>(num,i,j)::de M k i j
 | .rep _ k l m,i,j=>jJ M k l m (de M k) j (l.toNat+400) 0 i
def jI(M:MT):List Nd->Nat->Nat->Notes
 |[],_,_=>[]
 |k::ks,i,j=>match df (λc=>(dL M ks c).testBit j) (bv M k i) 320 with
  |some c=>de M k i c++jI M ks c j
  |none=>jI M ks i j
def oq(M:MT):List Nd->Nat->Nat->Notes
 |[],_,_=>[]
 |k::ks,i,j=>if(bv M k i).testBit j then de M k i j else oq M ks i j
end
abbrev B4:=Int×Int×Int×Int
mutual
def bj:Nd->List B4×Bool
 | .set _ b0 b1 b2 b3=>([(b0,b1,b2,b3)],false)
 | .edge .. =>([],true)
 | .seq _ ks=>iD ks
 | .alt _ ks=>iF ks
 | .grp _ k _=>bj k
 | .rep _ k l _=>((bj k).1,(bj k).2||l==0)
def iD:List Nd->List B4×Bool
 |[]=>([],true)
 |k::ks=>if(bj k).2 then((bj k).1++(iD ks).1,(iD ks).2)else((bj k).1,false)
def iF:List Nd->List B4×Bool
 |[]=>([],false)
 |k::ks=>((bj k).1++(iF ks).1,(bj k).2||(iF ks).2)
end
def nn(notes:Notes)(g:Nat):Int×Int:=notes.foldl (λx n=>if n.1=(g:Int)then((n.2.1:Int),(n.2.2:Int))else x) (-1,-1)
def DR(M:MT)(nd:Nd)(groups:Nat)(i:Nat):Option (List (Int×Int)):=
 match df (λ_=>true) (bv M nd i) 320 with
 |some j=>some ((Tx (groups+1)).map (nn (((0:Int),i,j)::de M nd i j)))
 |none=>none
def JU(M:MT)(nd:Nd)(i:Nat):Bool:=(bj nd).2||(decide (i<M.s.size)&& (bj nd).1.any λb=>iw b.1 b.2.1 b.2.2.1 b.2.2.2 (M.s.get! i).toNat)
def fj(M:MT)(nd:Nd)(groups:Nat):Nat->Nat->Option (List (Int×Int))
 |0,_=>none
 |f+1,i=>if JU M nd i then(match DR M nd groups i with |some l=>some l|none=>fj M nd groups f (i+1))else fj M nd groups f (i+1)
theorem tN(i j):(1<<<i:Nat).testBit j=decide (i=j):=by
 rw[Nat.one_shiftLeft,Nat.testBit_two_pow]
theorem pd{g p n j}:(dN g p n).testBit j=true↔∃k,k<n/\p.testBit k=true/\(g k).testBit j=true:=by
 induction n with
 |zero=>simp[dN]
 |succ n ih=>
  rw[dN];grind
theorem wF{g g' p n}(h:∀k,k<n->p.testBit k=true->g k=g' k):dN g p n=dN g' p n:=by
 induction n with
 |zero=>rfl
 |succ n ih=>
  rw[dN,dN,ih λk hk=>h k (Tw hk)];by_cases hb:p.testBit n=true
  .rw[if_pos hb,if_pos hb,h n (T6 n) hb]
  grind
def Within(M:MT)(i p:Nat):Prop:=∀j,p.testBit j=true->i<=j/\j<=M.s.size
theorem gC{M i}:Within M i 0:=λj h=>by simp at h
theorem mX{M i k}(h1:i<=k)(h2:k<=M.s.size):Within M i (1<<<k):=λj h=>by
 rw[tN]at h;have:=of_decide_eq_true h;omega
theorem ye{M i p q}(hp:Within M i p)(hq:Within M i q):Within M i (p|||q):=λj h=>by
 rw[Tt,U6]at h;exact h.elim (hp j) (hq j)
theorem tY{M i p n g}(h:∀k,p.testBit k=true->Within M i (g k)):Within M i (dN g p n):=λj hj=>by
 obtain⟨k,_,h2,h3⟩:=pd.1 hj;exact h k h2 j h3
theorem Within.mono{M i k p}(h:Within M k p)(h0:i<=k):Within M i p:=λj hj=>⟨T5 h0 (h j hj).1,(h j hj).2⟩
theorem vz{M g l m}(hg:∀i,i<=M.s.size->Within M i (g i)):∀f done i,i<=M.s.size->Within M i (pU g l m f done i):=by
 intro f;induction f with
 |zero=>exactλ_ _ _=>gC
 |succ f ih=>
  intro done i hi;rw[pU];refine ye ?_ ?_
  .split
   .exact mX (AI i) hi
   .exact gC
  .split
   .exact gC
   .refine tY λk hk=> ?_
    split
    .exact(ih _ k (hg i hi k hk).2).mono (hg i hi k hk).1
    .exact gC
mutual
theorem bZ(M):∀nd i,i<=M.s.size->Within M i (bv M nd i)
 | .set _ b0 b1 b2 b3,i,hi=>by
  rw[bv];split
  .rename_i h;rw[TD,decide_eq_true_eq]at h;exact mX (by omega) h.1
  .exact gC
 | .edge _ fin,i,hi=>by
  rw[bv];split
  .exact mX (AI i) hi
  .exact gC
 | .seq _ ks,i,hi=>qH M ks i hi
 | .alt _ ks,i,hi=>vA M ks i hi
 | .grp _ k _,i,hi=>bZ M k i hi
 | .rep _ k l m,i,hi=>vz (λi hi=>bZ M k i hi) _ _ _ hi
theorem qH(M:MT):∀(ks:List Nd)(i:Nat),i<=M.s.size->Within M i (dL M ks i)
 |[],i,hi=>by rw[dL];exact mX (AI i) hi
 |k::ks,i,hi=>tY λc hc=>(qH M ks c (bZ M k i hi c hc).2).mono (bZ M k i hi c hc).1
theorem vA(M:MT):∀(ks:List Nd)(i:Nat),i<=M.s.size->Within M i (iK M ks i)
 |[],i,hi=>by rw[iK];exact gC
 |k::ks,i,hi=>ye (bZ M k i hi) (vA M ks i hi)
end
theorem Hn{M g}{l m:Int}(hg:∀i,i<=M.s.size->Within M i (g i)):∀(f f' done i:Nat),i<=M.s.size->(l-done).toNat+(M.s.size-i)<f->(l-done).toNat+(M.s.size-i)<f'->pU g l m f done i=pU g l m f' done i:=by
 intro f;induction f with
 |zero=>exactλ_ _ _ _ h=>absurd h (Nat.not_lt_zero _)
 |succ f ih=>
  intro f' done i hi h1 h2;cases f' with
  |zero=>exact absurd h2 (Nat.not_lt_zero _)
  |succ f'=>
   rw[pU,pU];by_cases hd:done=m
   .rw[if_pos hd,if_pos hd]
   .rw[if_neg hd,if_neg hd];refine congrArg _ (wF λk hk hb=> ?_);have hw:=hg i hi k hb;by_cases hc:i<k\/done<l
    .have:(l-bS l m done).toNat+(M.s.size-k)<(l-done).toNat+(M.s.size-i):=by
      grind [bS]
     grind
    grind
theorem Bd{M k l m done i}(hi:i<=M.s.size)(hs:M.s.size<=300):
 dI M k l m done i=(if l<=done then 1<<<i else 0)|||if(done:Int)=m then 0 else dN (λc=>if i<c\/(done:Int)<l then dI M k l m (bS l m done) c else 0) (bv M k i) 320:=by
 have hg:=λi hi=>bZ M k i hi
 unfold dI;conv=>lhs;rw[pU]
 by_cases hd:done=m
 .rw[if_pos hd,if_pos hd]
 .rw[if_neg hd,if_neg hd];refine congrArg _ (wF λc hc hb=> ?_);split
  .exact Hn hg _ _ _ _ (hg i hi c hb).2 (by omega) (by omega)
  rfl
theorem yK{M id k l m i}:bv M (.rep id k l m) i=dI M k l m 0 i:=by rw[bv,dI]
theorem oX{q p}:∀{n},df q p n=none↔∀c,c<n->p.testBit c=true->q c=false
 |0=>by simp[df]
 |n+1=>by
  rw[df];split
  .next h=>
   grind
  .next h=>
   rw[oX];grind
theorem j4{q p j}:∀{n},df q p n=some j↔j<n/\p.testBit j=true/\q j=true/\∀c,c<n->j<c->p.testBit c=true->q c=false
 |0=>by simp[df]
 |n+1=>by
  rw[df];split
  .next h=>
   grind
  .next h=>
   rw[j4];grind
section
open Go.RowKit
abbrev lM:List Nat:=lH
noncomputable abbrev PM:Tq:=PH
theorem PM.func{f fn}(hf:Tryz.prog.funcs[f]?=some fn)(h:lM.contains f=true):PM.funcs[f]?=some fn:=ry hf (bP h)
@[go_sem] theorem PM.Rc(args w):(IN 131 args).run PM w= .ok (.enter 131 args) w:=a8 (PM.func Tryz.func131 (by decide)) (by kernel_rfl) rfl args w
@[go_sem] theorem PM.Ql(args w):(IN 237 args).run PM w= .ok (.enter 237 args) w:=a8 (PM.func Tryz.func237 (by decide)) (by kernel_rfl) rfl args w
@[go_sem] theorem PM.Qq(args w):(IN 232 args).run PM w= .ok (.enter 232 args) w:=a8 (PM.func Tryz.func232 (by decide)) (by kernel_rfl) rfl args w
@[go_sem] theorem PM.Rn(args w):(IN 110 args).run PM w= .ok (.enter 110 args) w:=a8 (PM.func Tryz.func110 (by decide)) (by kernel_rfl) rfl args w
@[go_sem] theorem PM.Qr(args w):(IN 230 args).run PM w= .ok (.enter 230 args) w:=a8 (PM.func Tryz.func230 (by decide)) (by kernel_rfl) rfl args w
@[go_sem] theorem PM.RH(args w):(IN 81 args).run PM w= .ok (.enter 81 args) w:=a8 (PM.func Tryz.func81 (by decide)) (by kernel_rfl) rfl args w
@[go_sem] theorem PM.RJ(args w):(IN 79 args).run PM w= .ok (.enter 79 args) w:=a8 (PM.func Tryz.func79 (by decide)) (by kernel_rfl) rfl args w
@[go_sem] theorem PM.RI(args w):(IN 80 args).run PM w= .ok (.enter 80 args) w:=a8 (PM.func Tryz.func80 (by decide)) (by kernel_rfl) rfl args w
@[go_sem] theorem PM.Qc(args w):(IN 249 args).run PM w= .ok (.enter 249 args) w:=a8 (PM.func Tryz.func249 (by decide)) (by kernel_rfl) rfl args w
@[go_sem] theorem PM.Qa(args w):(IN 251 args).run PM w= .ok (.enter 251 args) w:=a8 (PM.func Tryz.func251 (by decide)) (by kernel_rfl) rfl args w
@[go_sem] theorem PM.Qf(args w):(IN 246 args).run PM w= .ok (.enter 246 args) w:=a8 (PM.func Tryz.func246 (by decide)) (by kernel_rfl) rfl args w
@[go_sem] theorem PM.Qd(args w):(IN 248 args).run PM w= .ok (.enter 248 args) w:=a8 (PM.func Tryz.func248 (by decide)) (by kernel_rfl) rfl args w
@[go_sem] theorem PM.Qp(args w):(IN 233 args).run PM w= .ok (.enter 233 args) w:=a8 (PM.func Tryz.func233 (by decide)) (by kernel_rfl) rfl args w
@[go_sem] theorem PM.Qn(args w):(IN 235 args).run PM w= .ok (.enter 235 args) w:=a8 (PM.func Tryz.func235 (by decide)) (by kernel_rfl) rfl args w
@[go_sem] theorem PM.Qm(args w):(IN 236 args).run PM w= .ok (.enter 236 args) w:=a8 (PM.func Tryz.func236 (by decide)) (by kernel_rfl) rfl args w
@[go_sem] theorem PM.ML(args w):(IN 238 args).run PM w= .ok (.enter 238 args) w:=a8 (PM.func Tryz.func238 (by decide)) (by kernel_rfl) rfl args w
@[go_sem] theorem PM.Qu(args w):(IN 226 args).run PM w= .ok (.enter 226 args) w:=a8 (PM.func Tryz.func226 (by decide)) (by kernel_rfl) rfl args w
@[go_sem] theorem PM.MM(args w):(IN 231 args).run PM w= .ok (.enter 231 args) w:=a8 (PM.func Tryz.func231 (by decide)) (by kernel_rfl) rfl args w
@[go_sem] theorem PM.Qs(args w):(IN 229 args).run PM w= .ok (.enter 229 args) w:=a8 (PM.func Tryz.func229 (by decide)) (by kernel_rfl) rfl args w
@[go_sem] theorem PM.Q9(args w):(IN 252 args).run PM w= .ok (.enter 252 args) w:=a8 (PM.func Tryz.func252 (by decide)) (by kernel_rfl) rfl args w
@[go_sem] theorem PM.Q7(args w):(IN 254 args).run PM w= .ok (.enter 254 args) w:=a8 (PM.func Tryz.func254 (by decide)) (by kernel_rfl) rfl args w
@[go_sem] theorem PM.Qk(args w):(IN 240 args).run PM w= .ok (.enter 240 args) w:=a8 (PM.func Tryz.func240 (by decide)) (by kernel_rfl) rfl args w
@[go_sem] theorem PM.Qi(args w):(IN 242 args).run PM w= .ok (.enter 242 args) w:=a8 (PM.func Tryz.func242 (by decide)) (by kernel_rfl) rfl args w
@[go_sem] theorem PM.Qh(args w):(IN 243 args).run PM w= .ok (.enter 243 args) w:=a8 (PM.func Tryz.func243 (by decide)) (by kernel_rfl) rfl args w
@[go_sem] theorem PM.MK(args w):(IN 245 args).run PM w= .ok (.enter 245 args) w:=a8 (PM.func Tryz.func245 (by decide)) (by kernel_rfl) rfl args w
@[go_sem] theorem PM.Qg(args w):(IN 244 args).run PM w= .ok (.enter 244 args) w:=a8 (PM.func Tryz.func244 (by decide)) (by kernel_rfl) rfl args w
@[go_sem] theorem PM.RL(args w):(IN 78 args).run PM w= .ok (.enter 78 args) w:=a8 (PM.func Tryz.func78 (by decide)) (by kernel_rfl) rfl args w
@[go_sem] theorem PM.Qb(args w):(IN 250 args).run PM w= .ok (.enter 250 args) w:=a8 (PM.func Tryz.func250 (by decide)) (by kernel_rfl) rfl args w
@[go_sem] theorem PM.Qe(args w):(IN 247 args).run PM w= .ok (.enter 247 args) w:=a8 (PM.func Tryz.func247 (by decide)) (by kernel_rfl) rfl args w
@[go_sem] theorem PM.Qo(args w):(IN 234 args).run PM w= .ok (.enter 234 args) w:=a8 (PM.func Tryz.func234 (by decide)) (by kernel_rfl) rfl args w
@[go_sem] theorem PM.Qt(args w):(IN 227 args).run PM w= .ok (.enter 227 args) w:=a8 (PM.func Tryz.func227 (by decide)) (by kernel_rfl) rfl args w
@[go_sem] theorem PM.Q8(args w):(IN 253 args).run PM w= .ok (.enter 253 args) w:=a8 (PM.func Tryz.func253 (by decide)) (by kernel_rfl) rfl args w
@[go_sem] theorem PM.Qj(args w):(IN 241 args).run PM w= .ok (.enter 241 args) w:=a8 (PM.func Tryz.func241 (by decide)) (by kernel_rfl) rfl args w
def fU(f:Nat->Int):Array SW:=#[.int .u64 (f 0),.int .u64 (f 1),.int .u64 (f 2),.int .u64 (f 3),.int .u64 (f 4)]
abbrev cR(p:Nat):Array SW:=fU (wz p.testBit)
def ep(p:Nat):SW:=.agg (cR p)
theorem oh{w q f i}(h:a7 w q 221 (fU f))(hi:i<5):w.cell? ⟨q,i,none⟩=some (.int .u64 (f i)):=by
 have:=h.cell i;rw[this];match i,hi with
 |0,_=>rfl
 |1,_=>rfl
 |2,_=>rfl
 |3,_=>rfl
 |4,_=>rfl
theorem DI{w q f g i}(h:a7 w q 221 (fU f))(hi:i<5)(ho:∀j,j≠i->g j=f j):a7 (w.setCell ⟨q,i,none⟩ (.int .u64 (g i))) q 221 (fU g):=by
 have:=h.bI i (.int .u64 (g i));have e:(fU f).setIfInBounds i (.int .u64 (g i))=fU g:=by
  match i,hi with
  |0,_=>simp[fU,ho 1,ho 2,ho 3,ho 4]
  |1,_=>simp[fU,ho 0,ho 2,ho 3,ho 4]
  |2,_=>simp[fU,ho 0,ho 1,ho 3,ho 4]
  |3,_=>simp[fU,ho 0,ho 1,ho 2,ho 4]
  |4,_=>simp[fU,ho 0,ho 1,ho 2,ho 3]
 rw[e]at this;omega
theorem Jm(i j:Nat)(hj:j<64):((64:Int)*i+j)/64=i:=by omega
theorem Lm(i j:Nat)(hj:j<64)(h:64*i+j<1000000):bits .and .i64 (64*i+j) 63=j:=by
 have:=bits_mask .i64 63 (by decide) λn h0 h1=>by rw[U0];omega 6 (by decide) (64*i+j) (by omega) (by omega)
 have h6:(2:Int)^6=64:=rfl;rw[h6,show(64:Int)-1=63 from rfl]at this;omega
structure Kq(B:Nat)(X:List Nat)(w w':If):Prop where
 kp:Kp B X w w'
 os:w'.os=w.os
 out:w'.output=w.output
section
variable{B B':Nat}{X X':List Nat}{w w' w2:If}
theorem Kq.refl(w):Kq B X w w:=⟨.refl w,rfl,rfl⟩
theorem Kq.trans(h:Kq B X w w')(k:Kq B X w' w2):Kq B X w w2:=⟨h.kp.trans k.kp,k.os.trans h.os,k.out.trans h.out⟩
theorem Kq.mono(h:Kq B X w w')(hB:B'<=B)(hX:∀x∈X,x<B'->x∈X'):Kq B' X' w w':=⟨h.kp.mono hB hX,h.os,h.out⟩
theorem Kq.alloc(h:Kq B X w w')(hB:B<=w.heap.size)(o):Kq B X w (w'.alloc o):=⟨h.kp.alloc hB o,h.os,h.out⟩
theorem Kq.setCell(h:Kq B X w w'){p}(hp:p.block<B->p.block∈X)(u):Kq B X w (w'.setCell p u):=⟨h.kp.setCell hp u,h.os,h.out⟩
theorem Kq.drewN(h:Kq B X w w')(n):Kq B X w (w'.drewN n):=⟨h.kp,h.os,h.out⟩
theorem Kq.drew(h:Kq B X w w'):Kq B X w w'.drew:=⟨h.kp,h.os,h.out⟩
theorem a7.kq{g t cs}(h:a7 w g t cs)(hk:Kq B X w w')(hg:g<B)(hx:g∉X):a7 w' g t cs:=h.kp hk.kp hg hx
end
theorem oW(q i p:Nat)(w)(hi:i<320)(hB:a7 w q 221 (cR p)):
 Calls PM 237 #[.pointer (some ⟨q,0,none⟩),.int .i64 i] w λe w'=>e= .returned (.tuple #[])/\a7 w' q 221 (cR (p|||1<<<i))/\Kq w.heap.size [q] w w':=by
 obtain⟨i,j,hj,rfl⟩:∃a j,j<64/\i=64*a+j:=⟨i/64,i%64,U4 _ (by decide),by omega⟩;have hi5:i<5:=by omega
 have f0:∀i,w.frozen? ⟨q,i,none⟩=false:=hB.frozen;have c0:w.cell? ⟨q,i,none⟩=some (.int .u64 (wz p.testBit i)):=oh hB hi5;have e1:=Jm i j hj;have e2:=Lm i j hj (by omega);have hp:(p|||1<<<(64*i+j)).testBit=ins p.testBit (64*i+j):=by
  funext x
  rw[Tt,tN,ins];refine congrArg _ ?_;rw[Bool.eq_iff_iff,decide_eq_true_eq,beq_iff_eq];exact⟨Eq.symm,Eq.symm⟩
 have e3:bits .or .u64 (wz p.testBit i) (IntKind.u64.wrap (2^j))=wz (p|||1<<<(64*i+j)).testBit i:=by
  have h6:(2:Int)^j=((2^j:Nat):Int):=by norm_cast
  have h7:(2:Nat)^j<2^64:=Nat.pow_lt_pow_right (by decide) hj;rw[h6,wraps_u64 _ (Int.natCast_nonneg _) (by exact_mod_cast h7),G4 p.testBit i j hj,hp]
 have hB':=up hB;have hp':=up hp;clear hB hp;generalize p|||1<<<(64*i+j)=p' at *
 go_enter PM.func Tryz.func237 (by decide),Tryz.ntmps237
 go_wp2;go_region
 go_end0
 exact⟨rfl,DI hB'.out hi5 λi' hi'=>by rw[hp'.out];exact s8 p.testBit i i' j hj hi',((Kq.refl w).setCell (p:=⟨q,i,none⟩) (λ_=>x5.2 rfl) _).drew⟩
theorem oV(i p:Nat)(w)(hi:i<320):
 Calls PM 131 #[ep p,.int .i64 i] w λe w'=>e= .returned (.bool (p.testBit i))/\Kq w.heap.size [] w w':=by
 obtain⟨i,j,hj,rfl⟩:∃a j,j<64/\i=64*a+j:=⟨i/64,i%64,U4 _ (by decide),by omega⟩;have hi5:i<5:=by omega
 have e1:=Jm i j hj;have e2:=Lm i j hj (by omega);have e3:=G5 p.testBit i j hj;have e4:((2^j:Nat):Int)=2^j:=by norm_cast
 rw[e4]at e3;have c0:(w.alloc (.cells (cR p) 221)).cell? ⟨w.heap.size,i,none⟩=some (.int .u64 (wz p.testBit i)):=oh (a7.new w 221 _) hi5;have hz:=lh p.testBit i;clear e4;unfold ep;go_enter PM.func Tryz.func131 (by decide),Tryz.ntmps131
 unfold cR at *;go_wp2;all_goals
  go_ret;exact⟨by simp[*],(Kq.refl w).alloc (AI _) _⟩
theorem r5(q p r w)(hB:a7 w q 221 (cR p)):
 Calls PM 232 #[.pointer (some ⟨q,0,none⟩),ep r] w λe w'=>e= .returned (.tuple #[])/\a7 w' q 221 (cR (p|||r))/\Kq w.heap.size [q] w w':=by
 unfold ep;have hlt:=hB.lt;have hn:a7 (w.alloc (.cells (cR r) 221)) w.heap.size 221 (cR r):=a7.new w 221 _;have hq:a7 (w.alloc (.cells (cR r) 221)) q 221 (cR p):=hB.alloc _;have hk:Kq w.heap.size [q] w (w.alloc (.cells (cR r) 221)):=(Kq.refl w).alloc (AI _) _;have hu:∀i,bits .or .u64 (wz p.testBit i) (wz r.testBit i)=wz (p|||r).testBit i:=λi=>by
  rw[Dp,show(p|||r).testBit=λx=>p.testBit x||r.testBit x from funext λx=>Tt ..]
 replace hn:=up hn;replace hq:=up hq;replace hk:=up hk;replace hu:=up hu;clear hB;go_enter PM.func Tryz.func232 (by decide),Tryz.ntmps232
 go_wp2;go_loopw [5] (λc wr=>∃k:Nat,k<=5/\c= .int .i64 k/\a7 wr q 221 (fU λj=>if j<k then wz (p|||r).testBit j else wz p.testBit j)/\a7 wr w.heap.size 221 (cR r)/\Kq w.heap.size [q] w wr) λc _=>5- (intOf c).toNat
 case atStart=>exact⟨0,by omega,rfl,hq.out,hn.out,hk.out⟩
 case round=>
  obtain⟨k,hk5,rfl,hB,hR,hK⟩:=hrel;clear hn hq hk;have hB':=up hB;have h0:=up hR;have hK':=up hK;by_cases h:k<5
  .have c0:wr.cell? ⟨q,k,none⟩=some (.int .u64 (wz p.testBit k)):=(oh hB h).trans (by rw[if_neg (SC _)]);have c1:wr.cell? ⟨w.heap.size,k,none⟩=some (.int .u64 (wz r.testBit k)):=oh hR h;have f0:∀i,wr.frozen? ⟨q,i,none⟩=false:=hB.frozen;have e0:=hu.out k;clear hB hR hK;obtain⟨z,hz⟩:∃z,wz (p|||r).testBit k=z:=⟨_,rfl⟩;rw[hz]at e0;replace hz:=up hz;go_wp2;go_region
   go_wp2;go_roundw
   case rel=>
    refine⟨k+1,by omega,by push_cast;rfl,?_,(h0.out.far (p:=⟨q,k,none⟩) (by show w.heap.size≠q;omega) _).drew,(hK'.out.setCell (p:=⟨q,k,none⟩) (λ_=>x5.2 rfl) _).drew⟩;have:=DI (g:=λj=>if j<k+1 then wz (p|||r).testBit j else wz p.testBit j) hB'.out h λj hj=>by
     by_cases h1:j<k
     .rw[if_pos h1,if_pos (Tw h1)]
     .rw[if_neg h1,if_neg (by omega)]
    rw[if_pos (T6 k),hz.out]at this;exact this.drew
   case measure=>simp[intOf];omega
  .obtain rfl:k=5:=by omega
   clear hB hR hK;go_wp2;go_end0
   refine⟨rfl,?_,hK'.out⟩;exact hB'.out
end
section
open Go.RowKit
attribute [local go_sem] Ta
theorem Mz{X}(p l n)(hn:1<=n)(J Jx:Nat->If->Prop)(W0)(hX:∀x∈X,x<W0.heap.size)
 (hJ:∀i W W',J i W->Kq W.heap.size [] W W'->J i W') (hs:∀i W,J (i+1) W->p.testBit i=false->J i W)
 (hY:∀i W,W0.heap.size<W.heap.size->i<320->p.testBit i=true->J (i+1) W->YieldAt SX (n-1) PM l #[.int .i64 i] W λe W'=>e= .returned (.bool true)/\J i W'/\Kq W.heap.size X W W'\/e= .returned (.bool false)/\Jx i W')
 (h0:J 320 W0):
 CallsIn SX n PM 110 #[ep p,.func (.yield l) #[] #[]] W0 λe W'=>(∃v,e= .returned v)/\(J 0 W'\/∃i,i<320/\p.testBit i=true/\Jx i W'):=by
 unfold ep;refine callsIn_of_wp (PM.func Tryz.func110 (by decide)) rfl trivial ?_ rfl;simp only[Tryz.ntmps110,SF,SH,SK,SP,SO,Sx,Sw,SG,Sy,SJ,SI];gi_wp2
 gi_loopw [4] (λc wr=>∃(k:Nat)(z:Int),k<=320/\z=(k:Int)-1/\c= .int .i64 z/\J k wr/\a7 wr W0.heap.size 221 (cR p)/\W0.heap.size<wr.heap.size) λc _=>(intOf c+1).toNat
 case atStart=>exact⟨320,319,by omega,by omega,rfl,hJ _ _ _ h0 ((Kq.refl _).alloc (AI _) _),a7.new _ _ _,by simp⟩
 case round=>
  obtain⟨k,z,hk,hz,rfl,hj,hB,hlt⟩:=hrel;cases k with
  |zero=>
   have hz':z<0:=by omega
   clear hz;gi_wp2
   go_end0
   exact⟨⟨_,rfl⟩,.inl hj⟩
  |succ i=>
   obtain rfl:z=(i:Int):=by omega
   clear hz;have hi:i<320:=by omega
   have c0:∀j,j<5->wr.cell? ⟨W0.heap.size,j,none⟩=some (.int .u64 (wz p.testBit j)):=λj hj=>oh hB hj
   have hH:=λw1=>callsIn_wide (n:=n-1).2 (oV i p w1 hi)
   unfold ep cR fU at hH;replace hB:=up hB;by_cases hb:p.testBit i=true
   .rw[hb]at hH;gi_wp2_with (first |(refine⟨trivial,?_⟩;gi_at_call 131;refine(hH _).mono ?_;clear hH;rintro e w' ⟨rfl,hk'⟩;obtain⟨fn,tmps,assign,body,hy,hR⟩:=hY i w' (by have:=hk'.kp.1;omega) hi hb (hJ _ _ _ hj hk'))|fail)
    refine hR.mono ?_;rintro e W' (⟨rfl,h7,hk⟩|⟨rfl,h6⟩)
    .gi_wp2
     go_roundw
     case rel=>
      have h1:=hk'.kp.1;have h2:=hk.kp.1;have h3:i<=320:=by omega
      have h4:W0.heap.size<W'.heap.size:=by omega
      have h5:W0.heap.size<w'.heap.size:=by omega
      exact⟨i,(i:Int)-1,h3,rfl,rfl,h7,(hB.out.kq hk' hlt AS).kq hk h5 λhx=>absurd (hX _ hx) (SC _),h4⟩
     case measure=>simp[intOf]
    .gi_wp2
     refine bodyPost_ret (results_none rfl _ _ _) rfl ?_;exact⟨⟨_,rfl⟩,.inr ⟨i,hi,hb,h6⟩⟩
   .rw[Th.2 hb]at hH;gi_wp2_with (first |(refine⟨trivial,?_⟩;gi_at_call 131;refine(hH _).mono ?_;clear hH;rintro e w' ⟨rfl,hk'⟩)|fail)
    refine⟨λ_ h=>(by cases h),?_⟩;gi_wp2
    go_roundw
    case rel=>
     have h1:=hk'.kp.1;have h3:i<=320:=by omega
     have h4:W0.heap.size<w'.heap.size:=by omega
     exact⟨i,(i:Int)-1,h3,rfl,rfl,hs _ _ (hJ _ _ _ hj hk') (Th.2 hb),hB.out.kq hk' hlt AS,h4⟩
    case measure=>simp[intOf]
end
section
open Go.RowKit
def jY(X:List Nat)(W:If)(Y:If->Prop)(Yx:Code->If->Prop):Exit->Act->If->Prop
 | .normal,_,W'=>Kq W.heap.size X W W'/\Y W'
 | .ret,_,W'=>Kq W.heap.size X W W'/\Yx .ret W'
 | .exit id,_,W'=>Kq W.heap.size X W W'/\Yx (.exit id) W'
 |_,_,_=>False
theorem Kq.put{B X w w'}(h:Kq B X w w'){l}(hl:l<B->l∈X)(o):Kq B X w (w'.putObj l o):=
 ⟨⟨by rw[show(w'.putObj l o).heap.size=w'.heap.size from by simp[World.putObj]];exact h.kp.1,λb hb hx=>by
  have hne:b≠l:=λe=>hx (e▸hl (e▸hb))
  rw[Sz hne];exact h.kp.2 b hb hx⟩,h.os,h.out⟩
theorem qe{X Q a w}{p t n:Nat}{g assign body}(hn:2<=n)
 (hg:a.eval g= .func (.func 110) #[ep p] #[]) (hX:∀x∈X,x<w.heap.size)
 (I:Nat->If->Prop) (Ix:Code->Nat->If->Prop) (hI:∀i W W',I i W->Kq w.heap.size [] W W'->I i W') (h7:∀c i W W',Ix c i W->Kq w.heap.size [] W W'->Ix c i W')
 (hs:∀i W,I (i+1) W->p.testBit i=false->I i W) (h0:I 320 w) (a1:Nat->Act)
 (hassign:∀(l i:Nat) W K,K (a1 i) W->assign.wpIn (Fence.wide.inRound l) (n-1-1) PM (Exit.then K λ_ _ _=>False) {tmps:=a.tmps.setIfInBounds t (.int .i64 i),defers:=[]} W)
 (hbody:∀l i W,w.heap.size<W.heap.size->i<320->p.testBit i=true->I (i+1) W->body.wpIn (Fence.wide.inRound l) (n-1-1) PM (jY X W (I i) λc=>Ix c i) (a1 i) W)
 (hdone:∀W,I 0 W->W.heap[w.heap.size]?=some (.deferred (some []))->Q .normal {a with defers:= {target:=.collected w.heap.size,args:=#[]}::a.defers} W)
 (h8:∀c i W,i<320->p.testBit i=true->Ix c i W->W.heap[w.heap.size]?=some (.deferred (some []))->c.wpIn SX n PM Q {a with defers:= {target:=.collected w.heap.size,args:=#[]}::a.defers} W):
 (Code.rangeFunc g #[t] assign body).wpIn SX n PM Q a w:=by
 refine wpIn_rangeFunc ?_;intro fn hfn;obtain⟨rec,h5⟩:∃rec:LoopState->Option Code->Loop,rec=λst pe=> {state:=st,pending:=pe,fn,tmps:=a.tmps,params:=#[t],assign,body,defers:=w.heap.size}:=⟨_,rfl⟩
 obtain⟨W1,hW1⟩:∃W1,(w.alloc (.deferred (some []))).alloc (.loop (rec .ready none))=W1:=⟨_,rfl⟩;have hsz:W1.heap.size=w.heap.size+2:=by rw[<- hW1];simp
 have hL1:W1.heap[w.heap.size+1]?=some (.loop (rec .ready none)):=by
  rw[<- hW1];have:=World.alloc_heap_new (w.alloc (.deferred (some []))) (.loop (rec .ready none));rwa [World.size_alloc]at this
 have hK1:W1.heap[w.heap.size]?=some (.deferred (some [])):=by
  rw[<- hW1];exact(Below.heap_alloc _ _ _ (by simp)).trans (World.alloc_heap_new w _)
 have hkq:Kq w.heap.size [] w W1:=by rw[<- hW1];exact((Kq.refl w).alloc (AI _) _).alloc (AI _) _
 refine⟨w.heap.size+1,[{target:=.collected w.heap.size,args:=#[]}],W1,{target:=.fn (.func 110) #[],args:=#[ep p,.func (.yield (w.heap.size+1)) #[] #[]]},W1,110,
  #[ep p,.func (.yield (w.heap.size+1)) #[] #[]],W1,?_,?_,?_,?_,λh=>absurd h (by simp[SX]),?_⟩
 .rw[<- hW1,h5];exact run_enterLoop_outer _ _ _ _ _
 .simp only[resolve,hg];simp[go_sem]
 .exactλf' _=>trivial
 .simp[invoke,go_sem]
 have stay:∀{W W':If}{b:Nat}{o:Obj},W.heap[b]?=some o->Kq W.heap.size [] W W'->W'.heap[b]?=some o:=λhb hk=>(hk.kp.2 _ (AT.1 hb).1 AS).trans hb
 have low:∀{W W':If}{o:Obj},W.heap[w.heap.size+1]?=some o->Kq W.heap.size [] W W'->Kq w.heap.size [] W W':=λhb hk=>hk.mono (Ty (Nat.lt_of_succ_lt (AT.1 hb).1)) λ_ h _=>h
 refine(Mz (X:=(w.heap.size+1)::X) p (w.heap.size+1) (n-1) (by omega)
  (λi W=>I i W/\W.heap[w.heap.size+1]?=some (.loop (rec .ready none))/\W.heap[w.heap.size]?=some (.deferred (some [])))
  (λi W=>∃c,Ix c i W/\W.heap[w.heap.size+1]?=some (.loop (rec .done (some c)))/\W.heap[w.heap.size]?=some (.deferred (some [])))
  W1 λx hx=>by grind
  (λi W W' h hk=>⟨hI i W W' h.1 (low h.2.1 hk),stay h.2.1 hk,stay h.2.2 hk⟩)
  (λi W h hb=>⟨hs i W h.1 hb,h.2⟩) ?_ ⟨hI _ _ _ h0 hkq,hL1,hK1⟩).mono ?_
 .rintro i W hlt hi hb ⟨ha,hl,hk⟩;have hc:w.heap.size+1<W.heap.size:=(AT.1 hl).1;have hy:(Instr.yield (w.heap.size+1) #[.int .i64 i]).run PM W= .ok (.round (w.heap.size+1) fn (a.tmps.setIfInBounds t (.int .i64 i)) assign body) W:=by
   have:=run_yield (P:=PM) (args:=#[.int .i64 i]) hl (by rw[h5];rfl);rw[h5]at this;simp_all
  refine⟨fn,_,assign,body,hy,roundIn_of_wpIn trivial (hassign _ i W _ ?_)⟩;refine⟨_,run_beginRound hl (by rw[h5]),?_⟩;have hl2:(W.putObj (w.heap.size+1) (.loop {rec .ready none with state:=.busy})).heap[w.heap.size+1]?=some (.loop {rec .ready none with state:=.busy}):=Ti hc;have hk2:(W.putObj (w.heap.size+1) (.loop {rec .ready none with state:=.busy})).heap[w.heap.size]?=some (.deferred (some [])):=(Sz (by omega)).trans hk;have hput:∀(W:If)(o:Obj),Kq w.heap.size [] W (W.putObj (w.heap.size+1) o):=λW o=>(Kq.refl W).put (λh=>absurd h (by omega)) o
  have hq2:Kq W.heap.size ((w.heap.size+1)::X) W (W.putObj (w.heap.size+1) (.loop {rec .ready none with state:=.busy})):=(Kq.refl W).put (λ_=>SS) _;have hsz2:(W.putObj (w.heap.size+1) (.loop {rec .ready none with state:=.busy})).heap.size=W.heap.size:=by simp[World.putObj]
  have hd:=hI _ _ _ ha (hput W (.loop {rec .ready none with state:=.busy}));generalize W.putObj (w.heap.size+1) (.loop {rec .ready none with state:=.busy})=W2 at *;refine wpIn_mono (hbody _ i W2 (by omega) hi hb hd) ?_;have fin:∀(jump:Option Code)(W3:If),Kq W2.heap.size X W2 W3->
   (Instr.endRound (w.heap.size+1) jump).run PM W3= .ok (.bool jump.isNone) (W3.putObj (w.heap.size+1) (.loop (rec (if jump.isNone then .ready else .done) jump)))/\
   (W3.putObj (w.heap.size+1) (.loop (rec (if jump.isNone then .ready else .done) jump))).heap[w.heap.size+1]?=some (.loop (rec (if jump.isNone then .ready else .done) jump))/\
   (W3.putObj (w.heap.size+1) (.loop (rec (if jump.isNone then .ready else .done) jump))).heap[w.heap.size]?=some (.deferred (some []))/\
   Kq W.heap.size ((w.heap.size+1)::X) W (W3.putObj (w.heap.size+1) (.loop (rec (if jump.isNone then .ready else .done) jump))):=λjump W3 hk3=>by
   have h9:=(hk3.kp.2 _ (AT.1 hl2).1 λh=>absurd (hX _ h) (by omega)).trans hl2;have hd3:=(hk3.kp.2 _ (AT.1 hk2).1 λh=>absurd (hX _ h) (by omega)).trans hk2;have:=run_endRound (P:=PM) jump h9;rw[h5]at this ⊢;refine⟨this,Ti (AT.1 h9).1,(Sz (by omega)).trans hd3,?_⟩;exact(hq2.trans (hk3.mono (by omega) λx hx _=>SU _ hx)).put (λ_=>SS) _
  rintro e a3 W3 hp;cases e with
  |normal=>
   obtain⟨hk3,h6⟩:=hp;obtain⟨h1,h2,h3,h4⟩:=fin none W3 hk3;exact⟨_,_,h1,.inl ⟨rfl,⟨hI _ _ _ h6 (hput _ _),h2,h3⟩,h4⟩⟩
  |ret=>
   obtain⟨hk3,h6⟩:=hp;obtain⟨h1,h2,h3,h4⟩:=fin (some .ret) W3 hk3;exact⟨_,_,h1,.inr ⟨rfl,_,h7 _ _ _ _ h6 (hput _ _),h2,h3⟩⟩
  |exit id=>
   obtain⟨hk3,h6⟩:=hp;obtain⟨h1,h2,h3,h4⟩:=fin (some (.exit id)) W3 hk3;exact⟨_,_,h1,.inr ⟨rfl,_,h7 _ _ _ _ h6 (hput _ _),h2,h3⟩⟩
  |goto t=>exact hp.elim
  |panic ch=>exact hp.elim
  |outgrown=>exact hp.elim
 .rintro e W2 ⟨⟨v,rfl⟩,(⟨hi,hl,hk⟩|⟨i,hi,hb,c,hx,hl,hk⟩)⟩
  .refine⟨none,_,by have:=run_endLoop (P:=PM) hl (by rw[h5];simp);rw[h5]at this;exact this,?_⟩;exact hdone _ (hI _ _ _ hi ((Kq.refl _).put (λh=>absurd h (by omega)) _)) ((Sz (by omega)).trans hk)
  .refine⟨some c,_,by have:=run_endLoop (P:=PM) hl (by rw[h5];simp);rw[h5]at this;exact this,?_⟩;exact h8 c i _ hi hb (h7 _ _ _ _ hx ((Kq.refl _).put (λh=>absurd h (by omega)) _)) ((Sz (by omega)).trans hk)
def kV(a b c:Int):SW:=.agg #[.int .i64 a,.int .i64 b,.int .i64 c]
def I64(a:Int):Prop:=(Lit.int .i64 a).wf=true
theorem uU:WideMaps.KeyLaw PM 336:=deep_law_laid (m:=2) (by kernel_rfl) (by decide) (by rw[show PM.types.size=355 from by kernel_rfl];decide) (by kernel_rfl) (by kernel_rfl)
theorem Bg:PM.underlying 336=Tryz.prog.underlying 336:=congrFun (aK ..) _
theorem Pv:PM.underlying 3=some (.int .i64):=(congrFun (aK ..) _).trans Tryz.underlying3
theorem ra:PM.underlying 216=some (.map 336 221):=(congrFun (aK ..) _).trans Tryz.underlying216
theorem Fh{a b c}(ha:I64 a)(hb:I64 b)(hc:I64 c):∃l,keyOf PM 336 (kV a b c)=some l:=by
 have h1:PM.keyType 336=true:=by kernel_rfl
 have h3:PM.types.size=355:=by kernel_rfl
 have hcells:PM.cellsOf 336=3:=by kernel_rfl
 have hcell1:PM.cellsOf 3=1:=by kernel_rfl
 have h4:∀v:SW,v=kV a b c->v.formed PM 336=true:=by
  rintro v rfl;show(match PM.underlying 336 with |some (.struct _)|some (.array _ _)=> #[Tp .i64 a,.int .i64 b,.int .i64 c].size==PM.cellsOf 336|_=>false)=true;rw[Bg,Tryz.underlying336,hcells];rfl
 unfold keyOf;rw[Bg,Tryz.underlying336];dsimp only;rw[h1,h4 _ rfl,h3];simp only[Bool.and_self,if_true];have e:(kV a b c).cells.toList=[.int .i64 a,.int .i64 b,.int .i64 c]:=rfl;have hk:∀(n:Nat)(x:Int),I64 x->PM.keyLits (n+1) 3 [.int .i64 x]=some [.int .i64 x]:=λn x hx=>by
  rw[Program.keyLits.eq_def];dsimp only;rw[Pv];dsimp only;rw[if_pos ⟨rfl,hx⟩]
 rw[e,Program.keyLits.eq_def];dsimp only;rw[Bg,Tryz.underlying336];dsimp only;simp[hcells,hcell1,hk _ _ ha,hk _ _ hb,hk _ _ hc]
def C7(es:Array MapEntry):Prop:=∀e∈es.toList,∃a b c,I64 a/\I64 b/\I64 c/\e.key=kV a b c
theorem Hl{w r clock es a b c}(hb:w.heap[r]?=some (.map es clock))(hk:C7 es)(ha:I64 a)(hb1:I64 b)(hc:I64 c):
 ((Tf 216 (.map (some r)) (kV a b c) true).run PM w= .ok (.tuple #[ep 0,.bool false]) w/\∀e∈es.toList,e.key≠kV a b c)\/∃e∈es.toList,e.key=kV a b c/\(Tf 216 (.map (some r)) (kV a b c) true).run PM w= .ok (.tuple #[e.val,.bool true]) w:=by
 obtain⟨l,hl⟩:=Fh ha hb1 hc;have hz:(zeroValue 221).run PM w= .ok (ep 0) w:=by kernel_rfl
 rcases uU.find w hl es.toList λe he=>by obtain⟨a,b,c,h1,h2,h3,h4⟩:=hk e he;rw[h4];exact Fh h1 h2 h3 with⟨h1,h2⟩|⟨j,e0,h1,h2,h3⟩
 .exact .inl ⟨by simp[Tf,run_underlying ra,T3 hb,uU.check w _ hl,h1,hz],h2⟩
 .exact .inr ⟨e0,List.mem_of_getElem? h2,h3,by simp[Tf,run_underlying ra,T3 hb,uU.check w _ hl,h1]⟩
theorem JS{w r clock es a b c v}(hb:w.heap[r]?=some (.map es clock))(hk:C7 es)(ha:I64 a)(hb1:I64 b)(hc:I64 c):
 ∃es' clock',(TE 216 (.map (some r)) (kV a b c) v).run PM w= .ok () (w.putObj r (.map es' clock'))/\∀e∈es'.toList,e∈es.toList\/e.key=kV a b c/\e.val=v:=by
 obtain⟨l,hl⟩:=Fh ha hb1 hc;have hset:∀o,(setObj r o).run PM w= .ok () (w.putObj r o):=λo=>(MapKept.run_setObj_map o hb).trans rfl
 rcases uU.find w hl es.toList λe he=>by obtain⟨a,b,c,h1,h2,h3,h4⟩:=hk e he;rw[h4];exact Fh h1 h2 h3 with⟨h1,h2⟩|⟨j,e0,h1,h2,h3⟩
 .refine⟨es.push {key:=kV a b c,val:=v,born:=clock},clock+1,by simp[TE,run_underlying ra,T3 hb,uU.check w _ hl,h1,hset],λe he=> ?_⟩;grind
 .have hj:es[j]?=some e0:=by rw[<- TL];omega
  refine⟨es.modify j λe=> {e with key:=kV a b c,val:=v},clock,by simp[TE,run_underlying ra,T3 hb,uU.check w _ hl,h1,hj,h3,uU.stays w hl,hset],λe he=> ?_⟩;obtain⟨i,hi⟩:=List.mem_iff_getElem?.1 he<;>grind
end
section
def Nd.id:Nd->Int
 | .set i _ _ _ _=>i
 | .edge i _=>i
 | .seq i _=>i
 | .alt i _=>i
 | .grp i _ _=>i
 | .rep i _ _ _=>i
mutual
def subs:Nd->List Nd
 | .set i a b c d=>[.set i a b c d]
 | .edge i f=>[.edge i f]
 | .seq i ks=>.seq i ks::gJ ks
 | .alt i ks=>.alt i ks::gJ ks
 | .grp i k n=>.grp i k n::subs k
 | .rep i k l m=>.rep i k l m::subs k
def gJ:List Nd->List Nd
 |[]=>[]
 |k::ks=>subs k++gJ ks
end
def Bt(b:Int):Prop:=0<=b/\b<18446744073709551616
mutual
def be(G lo hi:Int):Nd->Prop
 | .set i a b c d=>lo<i/\i<=hi/\Bt a/\Bt b/\Bt c/\Bt d
 | .edge i _=>lo<i/\i<=hi
 | .seq i ks=>lo<i/\bV G i hi ks
 | .alt i ks=>lo<i/\bV G i hi ks
 | .grp i k n=>lo<i/\0<n/\n<=G/\be G i hi k
 | .rep i k l m=>i<=hi/\0<=l/\l<=21/\m<=21/\be G lo (i-1) k
def bV(G lo hi:Int):List Nd->Prop
 |[]=>lo<=hi
 |k::ks=>∃mid,be G lo mid k/\bV G mid hi ks
end
mutual
theorem be.mono{G G' lo hi hi'}(hG:G<=G')(hh:hi<=hi'):∀nd,be G lo hi nd->be G' lo hi' nd
 | .set ..,h=>by grind [be]
 | .edge ..,h=>by grind [be]
 | .seq _ ks,h=>⟨h.1,bV.mono hG hh ks h.2⟩
 | .alt _ ks,h=>⟨h.1,bV.mono hG hh ks h.2⟩
 | .grp _ k _,h=>by simp[be]at h ⊢;exact⟨h.1,h.2.1,by omega,be.mono hG hh k h.2.2.2⟩
 | .rep i k _ _,h=>by simp[be]at h ⊢;exact⟨by omega,h.2.1,h.2.2.1,h.2.2.2.1,be.mono hG (No _) k h.2.2.2.2⟩
theorem bV.mono{G G' lo hi hi':Int}(hG:G<=G')(hh:hi<=hi'):∀ks,bV G lo hi ks->bV G' lo hi' ks
 |[],h=>by grind [bV]
 |k::ks,h=>by
  obtain⟨mid,h1,h2⟩:=h;exact⟨mid,be.mono hG (No _) k h1,bV.mono hG hh ks h2⟩
end
theorem be.low{G lo lo' hi}(hl:lo'<=lo):∀nd,be G lo hi nd->be G lo' hi nd
 | .set ..,h=>by grind [be]
 | .edge ..,h=>by grind [be]
 | .seq ..,h=>by grind [be]
 | .alt ..,h=>by grind [be]
 | .grp ..,h=>by grind [be]
 | .rep _ k _ _,h=>⟨h.1,h.2.1,h.2.2.1,h.2.2.2.1,be.low hl k h.2.2.2.2⟩
theorem bV.push{G lo mid hi k}:∀{ks},bV G lo mid ks->be G mid hi k->bV G lo hi (ks++[k])
 |[],h,hk=>⟨hi,be.low h k hk,No _⟩
 |x::ks,h,hk=>by
  obtain⟨m,h1,h2⟩:=h;exact⟨m,h1,bV.push h2 hk⟩
mutual
theorem be.lt{G lo hi}:∀nd,be G lo hi nd->lo<hi
 | .set ..,h=>by simp[be]at h;omega
 | .edge ..,h=>by simp[be]at h;omega
 | .seq _ ks,h=>by simp[be]at h;have:=bV.le ks h.2;omega
 | .alt _ ks,h=>by simp[be]at h;have:=bV.le ks h.2;omega
 | .grp _ k _,h=>by simp[be]at h;have:=be.lt k h.2.2.2;omega
 | .rep _ k _ _,h=>by simp[be]at h;have:=be.lt k h.2.2.2.2;omega
theorem bV.le{G lo hi:Int}:∀ks,bV G lo hi ks->lo+ks.length<=hi
 |[],h=>by simp_all[bV]
 |k::ks,h=>by
  obtain⟨mid,h1,h2⟩:=h;have:=be.lt k h1;have:=bV.le ks h2;grind
end
mutual
theorem be.ids{G lo hi}:∀nd,be G lo hi nd->∀a∈subs nd,lo<a.id/\a.id<=hi
 | .set ..,h,a,ha=>by simp[subs]at h ha;subst ha;exact⟨h.1,h.2.1⟩
 | .edge ..,h,a,ha=>by simp[subs]at h ha;subst ha;exact h
 | .seq i ks,h,a,ha=>by
  simp[be,subs]at h ha;have h2:=bV.le ks h.2;rcases ha with rfl|ha
  .simp[Nd.id];omega
  .have:=bV.ids ks h.2 a ha;omega
 | .alt i ks,h,a,ha=>by
  simp[be,subs]at h ha;have h2:=bV.le ks h.2;rcases ha with rfl|ha
  .simp[Nd.id];omega
  .have:=bV.ids ks h.2 a ha;omega
 | .grp i k _,h,a,ha=>by
  simp[be,subs]at h ha;have h2:=be.lt k h.2.2.2;rcases ha with rfl|ha
  .simp[Nd.id];omega
  .have:=be.ids k h.2.2.2 a ha;omega
 | .rep i k _ _,h,a,ha=>by
  simp[be,subs]at h ha;have h2:=be.lt k h.2.2.2.2;rcases ha with rfl|ha
  .simp[Nd.id];omega
  .have:=be.ids k h.2.2.2.2 a ha;omega
theorem bV.ids{G lo hi:Int}:∀ks,bV G lo hi ks->∀a∈gJ ks,lo<a.id/\a.id<=hi
 |[],h,a,ha=>by simp[gJ]at ha
 |k::ks,h,a,ha=>by
  simp[gJ]at h ha;obtain⟨mid,h1,h2⟩:=h;have h3:=be.lt k h1;have h4:=bV.le ks h2;rcases ha with ha|ha
  .have:=be.ids k h1 a ha;omega
  .have:=bV.ids ks h2 a ha;omega
end
mutual
theorem be.one{G lo hi}:∀nd,be G lo hi nd->∀a∈subs nd,∀b∈subs nd,a.id=b.id->a=b
 | .set ..,h,a,ha,b,hb,e=>by simp_all[subs]
 | .edge ..,h,a,ha,b,hb,e=>by simp_all[subs]
 | .seq i ks,h,a,ha,b,hb,e=>by
  simp[subs]at h ha hb;rcases ha with rfl|ha<;>rcases hb with rfl|hb
  .rfl
  .have:=bV.ids ks h.2 b hb;change i=b.id at e;omega
  .have:=bV.ids ks h.2 a ha;change a.id=i at e;omega
  .exact bV.one ks h.2 a ha b hb e
 | .alt i ks,h,a,ha,b,hb,e=>by
  simp[subs]at h ha hb;rcases ha with rfl|ha<;>rcases hb with rfl|hb
  .rfl
  .have:=bV.ids ks h.2 b hb;change i=b.id at e;omega
  .have:=bV.ids ks h.2 a ha;change a.id=i at e;omega
  .exact bV.one ks h.2 a ha b hb e
 | .grp i k _,h,a,ha,b,hb,e=>by
  simp[subs]at h ha hb;rcases ha with rfl|ha<;>rcases hb with rfl|hb
  .rfl
  .have:=be.ids k h.2.2.2 b hb;change i=b.id at e;omega
  .have:=be.ids k h.2.2.2 a ha;change a.id=i at e;omega
  .exact be.one k h.2.2.2 a ha b hb e
 | .rep i k _ _,h,a,ha,b,hb,e=>by
  simp[subs]at h ha hb;rcases ha with rfl|ha<;>rcases hb with rfl|hb
  .rfl
  .have:=be.ids k h.2.2.2.2 b hb;change i=b.id at e;omega
  .have:=be.ids k h.2.2.2.2 a ha;change a.id=i at e;omega
  .exact be.one k h.2.2.2.2 a ha b hb e
theorem bV.one{G lo hi:Int}:∀ks,bV G lo hi ks->∀a∈gJ ks,∀b∈gJ ks,a.id=b.id->a=b
 |[],h,a,ha,b,hb,e=>by simp[gJ]at ha
 |k::ks,h,a,ha,b,hb,e=>by
  simp[gJ]at h ha hb;obtain⟨mid,h1,h2⟩:=h;rcases ha with ha|ha<;>rcases hb with hb|hb
  .exact be.one k h1 a ha b hb e
  .have:=be.ids k h1 a ha;have:=bV.ids ks h2 b hb;omega
  .have:=be.ids k h1 b hb;have:=bV.ids ks h2 a ha;omega
  .exact bV.one ks h2 a ha b hb e
end
mutual
theorem be.sub{G lo hi}:∀nd,be G lo hi nd->∀a∈subs nd,∃l h,lo<=l/\h<=hi/\be G l h a
 | .set ..,h,a,ha=>by grind [subs,x5]
 | .edge ..,h,a,ha=>by grind [subs,x5]
 | .seq i ks,h,a,ha=>by
  simp only[subs,OF]at ha;rcases ha with rfl|ha
  .exact⟨_,_,No _,No _,h⟩
  .simp only[be]at h;obtain⟨l,u,h1,h2,h3⟩:=bV.sub ks h.2 a ha<;>grind
 | .alt i ks,h,a,ha=>by
  simp only[subs,OF]at ha;rcases ha with rfl|ha
  .exact⟨_,_,No _,No _,h⟩
  .simp only[be]at h;obtain⟨l,u,h1,h2,h3⟩:=bV.sub ks h.2 a ha<;>grind
 | .grp i k _,h,a,ha=>by
  simp only[subs,OF]at ha;rcases ha with rfl|ha
  .exact⟨_,_,No _,No _,h⟩
  .simp only[be]at h;obtain⟨l,u,h1,h2,h3⟩:=be.sub k h.2.2.2 a ha<;>grind
 | .rep i k _ _,h,a,ha=>by
  simp only[subs,OF]at ha;rcases ha with rfl|ha
  .exact⟨_,_,No _,No _,h⟩
  .simp[be]at h;obtain⟨l,u,h1,h2,h3⟩:=be.sub k h.2.2.2.2 a ha<;>grind
theorem bV.sub{G lo hi:Int}:∀ks,bV G lo hi ks->∀a∈gJ ks,∃l h,lo<=l/\h<=hi/\be G l h a
 |[],h,a,ha=>by simp[gJ]at ha
 |k::ks,h,a,ha=>by
  simp[bV,gJ,List.mem_append]at h ha;obtain⟨mid,h1,h2⟩:=h;have:=be.lt k h1;have:=bV.le ks h2;rcases ha with ha|ha
  .obtain⟨l,u,h3,h4,h5⟩:=be.sub k h1 a ha<;>grind
  .obtain⟨l,u,h3,h4,h5⟩:=bV.sub ks h2 a ha<;>grind
end
structure xf(t:Tok):Prop where
 b0:Bt t.b0
 b1:Bt t.b1
 b2:Bt t.b2
 b3:Bt t.b3
 l0:0<=t.least
 l1:t.least<=21
 m1:t.most<=21
theorem xf.plain{k a b}:xf ⟨k,a,0,0,0,0,0,0,b⟩:=by constructor<;>simp[Bt]
theorem xf.set{a S}:xf (iI a S):=⟨lh S 0,lh S 1,lh S 2,lh S 3,by simp[iI],by simp[iI],by simp[iI]⟩
theorem xf.rep{a l m b}(h1:0<=l)(h2:l<=21)(h3:m<=21):xf (od a l m b):=⟨by simp[od,Bt],by simp[od,Bt],by simp[od,Bt],by simp[od,Bt],h1,h2,h3⟩
theorem qK(ln fold l nt at_):∀f first S p x,jk ln fold l nt at_ f first S p=some x->xf x.t
 |0,_,_,_,_,h=>by cases h
 |f+1,first,S,p,x,h=>by
  unfold jk at h;split at h
  .cases h;exact .plain
  .split at h
   .cases h;exact .set
   split at h
   .split at h
    .cases h;exact .plain
    .exact qK ln fold l nt at_ f _ _ _ _ h
   split at h
   .split at h
    .cases h;exact .plain
    .exact qK ln fold l nt at_ f _ _ _ _ h
   .exact qK ln fold l nt at_ f _ _ _ _ h
theorem Ep(c p rest):xf (dS c p rest).t:=by
 unfold dS;split
 .exact .rep (by omega) (by omega) (by omega)
 split
 .exact .rep (by omega) (by omega) (by omega)
 split
 .exact .rep (by omega) (by omega) (by omega)
 .unfold dU;have h1:=λl=>Mh l
  split
  .exact .rep (by simp) (by simp) (by simp)
  .dsimp only;generalize Lib.cut _ _=c;have h2:=h1 c.1;split
   .exact .rep (by simp) (by omega) (by grind)
   split
   .exact .rep (by simp) (by omega) (by simp)
   .exact .rep (by simp) (by omega) (by grind)
theorem zW{ln fold l p x}(hx:eB ln fold l p=some x):xf x.t:=by
 unfold eB at hx;split at hx
 .cases hx;exact .plain
 .split at hx
  .cases hx;exact .plain
  split at hx
  .cases hx;exact Ep _ _ _
  split at hx
  .exact qK _ _ _ _ _ _ _ _ _ _ hx
  split at hx
  .cases hx;exact .set
  split at hx
  .split at hx
   .cases hx;exact .plain
   split at hx
   .cases hx;exact .plain
   split at hx
   .cases hx;exact .plain
   .cases hx;exact .set
  .cases hx;exact .set
section
variable{ln fold:Bool}{l:List UInt8}
theorem qi{p x}(hp:p<=l.length)(hx:eB ln fold l p=some x)(h0:x.t.kind≠0)(hw:x.wr=none\/x.t.kind≠7/\x.t.kind≠8):p<x.p/\x.p<=l.length:=by
 obtain⟨y,hy,h1,h2,h3,h4⟩:=ib ln fold l p hp;cases hx.symm.trans hy;refine⟨h2 ?_,h3⟩;cases hm:x.more
 .have hb:x.t.bad=false:=by
   rcases hw with hw|hw
   .simp[h4.bad,hw]
   .cases hb:x.t.bad
    .rfl
    .rcases h4.bk hb with h|h<;>omega
  rcases h4.last hm with h|h<;>grind
 rfl
def pC(l:List UInt8)(s:pD)(c:Int)(W:Int->Int->Nd->Prop):Option (g8 Nd)->Prop
 |some (.ok a s')=>s.p<=s'.p/\s'.p<=l.length/\s'.n+c<=s.n+3*((s'.p:Int)-s.p)/\s.g<=s'.g/\(s.g<=9->s'.g<=9)/\W s'.g s'.n a
 |_=>True
theorem qX{s c c' W W' x f}(hx:pC l s c W x)
 (hf:∀a s',s.p<=s'.p->s'.p<=l.length->s'.n+c<=s.n+3*((s'.p:Int)-s.p)->s.g<=s'.g->(s.g<=9->s'.g<=9)->W s'.g s'.n a->pC l s c' W' (f a s')):pC l s c' W' (mb x f):=by
 cases x with
 |none=>trivial
 |some r=>
  cases r with
  |ok a s'=>obtain⟨h1,h2,h3,h4,h5,h6⟩:=hx;exact hf a s' h1 h2 h3 h4 h5 h6
  |err=>trivial
theorem pC.from_{s s' c c' W W' x}(h:pC l s' c W x)(hp:s.p<=s'.p)(hn:s'.n+c'<=s.n+3*((s'.p:Int)-s.p)+c)(hg:s.g<=s'.g)(h0:s.g<=9->s'.g<=9)
 (hW:∀G hi a,s'.g<=G->W G hi a->W' G hi a):pC l s c' W' x:=by
 cases x with
 |none=>trivial
 |some r=>
  cases r with
  |ok a s2=>obtain⟨h1,h2,h3,h4,h5,h6⟩:=h;exact⟨by omega,h2,by omega,by omega,λh=>h5 (h0 h),hW _ _ _ h4 h6⟩
  |err=>trivial
theorem Nn(f):(∀d s,s.p<=l.length->0<=s.g->pC l s 0 (λG hi=>be G s.n hi) (qY ln fold l f d s))/\
 (∀d id ks s,s.p<=l.length->0<=s.g->bV s.g id s.n ks->pC l s 1 (λG hi=>be G (id-1) hi) (lV ln fold l f d id ks s))/\
 (∀d s,s.p<=l.length->0<=s.g->pC l s 1 (λG hi=>be G s.n hi) (sL ln fold l f d s))/\
 (∀d id ks s,s.p<=l.length->0<=s.g->bV s.g id s.n ks->pC l s (if ks.length=0 then 2 else 0) (λG hi=>be G (id-1) hi) (lU ln fold l f d id ks s))/\
 (∀d s,s.p<=l.length->0<=s.g->(∀x,eB ln fold l s.p=some x->x.t.kind≠0)->pC l s 2 (λG hi=>be G s.n hi) (oe ln fold l f d s))/\
 (∀k s lo,s.p<=l.length->0<=s.g->be s.g lo s.n k->pC l s 0 (λG hi=>be G lo hi) (iC ln fold l f k s))/\
 (∀d s,s.p<=l.length->0<=s.g->(∀x,eB ln fold l s.p=some x->x.t.kind≠0)->pC l s 2 (λG hi=>be G s.n hi) (oU ln fold l f d s))/\
 ∀d s,s.p<=l.length->0<=s.g->(∀x,eB ln fold l s.p=some x->x.t.kind=4)->pC l s 2 (λG hi=>be G s.n hi) (og ln fold l f d s):=by
 induction f with
 |zero=>exact⟨λ_ _ _ _=>trivial,λ_ _ _ _ _ _ _=>trivial,λ_ _ _ _=>trivial,λ_ _ _ _ _ _ _=>trivial,λ_ _ _ _ _=>trivial,λ_ _ _ _ _ _=>trivial,λ_ _ _ _ _=>trivial,λ_ _ _ _ _=>trivial⟩
 |succ f ih=>
  obtain⟨i1,i2,i3,i4,i5,i6,i7,i8⟩:=ih;refine⟨λd s hp hg=> ?_,λd id ks s hp hg hk=> ?_,λd s hp hg=> ?_,λd id ks s hp hg hk=> ?_,λd s hp hg h0=> ?_,λk s lo hp hg hk=> ?_,λd s hp hg h0=> ?_,λd s hp hg h0=> ?_⟩
  .unfold qY;refine(i2 d (s.n+1) [] ⟨s.p,s.n+1,s.g⟩ hp hg (by simp[bV])).from_ (AI _) (by simp) (No _) id λG hi a _ h=> ?_
   grind
  .unfold lV;refine qX (i3 d s hp hg) λk s' h1 h2 h3 h4 h5 h6=> ?_
   have hk':bV s'.g id s'.n (ks++[k]):=(bV.mono h4 (No _) ks hk).push h6;split
   .trivial
   .next x hx=>
    split
    .next h=>
     obtain⟨h7,h8⟩:=qi h2 hx (by omega) (.inr (by omega));exact(i2 d id (ks++[k]) ⟨x.p,s'.n,s'.g⟩ h8 (by grind) hk').from_ (by grind) (by grind) h4 h5 λ_ _ _ _ h=>h
    .exact⟨h1,h2,h3,h4,h5,by grind [be]⟩
  .unfold sL;refine(i4 d (s.n+1) [] ⟨s.p,s.n+1,s.g⟩ hp hg (by simp[bV])).from_ (AI _) (by simp;omega) (No _) id λG hi a _ h=> ?_
   exact be.low (by omega) a h
  .unfold lU;obtain⟨c,hc⟩:∃c,(if ks.length=0 then(2:Int)else 0)=c:=⟨_,rfl⟩;rw[hc];split
   .trivial
   .next x hx=>
    split
    .split
     .trivial
     split
     .trivial
     .next h=>exact⟨AI _,hp,by rw[if_neg h]at hc;omega,No _,λh=>h,by simp only[be];exact⟨by omega,hk⟩⟩
    .next h0=>
     split
     .trivial
     .refine qX (i5 d s hp hg λy hy=>by cases hx.symm.trans hy<;>omega) λk s' h1 h2 h3 h4 h5 h6=> ?_
      refine(i4 d id (ks++[k]) s' h2 (by omega) ((bV.mono h4 (No _) ks hk).push h6)).from_ h1 ?_ h4 h5 λ_ _ _ _ h=>h
      rw[if_neg (by simp:¬ (ks++[k]).length=0)];split at hc<;>omega
  .unfold oe;refine qX (i7 d s hp hg h0) λk s' h1 h2 h3 h4 h5 h6=> ?_
   exact(i6 k s' s.n h2 (by omega) h6).from_ h1 (by omega) h4 h5 λ_ _ _ _ h=>h
  .unfold iC;split
   .trivial
   .next x hx=>
    split
    .split
     .trivial
     .next h7 hw=>
      obtain⟨h8,h9⟩:=qi hp hx (by omega) (.inl hw);have ht:=zW hx;refine(i6 (.rep (s.n+1) k x.t.least x.t.most) ⟨x.p,s.n+1,s.g⟩ lo h9 hg ?_).from_ (by dsimp only;omega) (by dsimp only;omega) (No _) id λ_ _ _ _ h=>h
      simp only[be];exact⟨No _,ht.l0,ht.l1,ht.m1,by rw[show s.n+1-1=s.n from by omega];omega⟩
    .exact⟨AI _,hp,by omega,No _,id,hk⟩
  .unfold oU;split
   .trivial
   .next x hx=>
    split
    .trivial
    .next hw=>
     split
     .next h4=>exact i8 d s hp hg λy hy=>by cases hx.symm.trans hy;exact h4
     .obtain⟨h8,h9⟩:=qi hp hx (h0 x hx) (.inl hw);have ht:=zW hx;split
      .exact⟨by dsimp only;omega,h9,by dsimp only;omega,No _,id,by simp only[be];omega⟩
      split
      .exact⟨by dsimp only;omega,h9,by dsimp only;omega,No _,id,by simp only[be];omega⟩
      .exact⟨by dsimp only;omega,h9,by dsimp only;omega,No _,id,by simp only[be];exact⟨by omega,by omega,ht.b0,ht.b1,ht.b2,ht.b3⟩⟩
  .unfold og;split
   .trivial
   .next x hx=>
    split
    .trivial
    .next h9g=>
     have hk4:=h0 x hx;obtain⟨h8,h9⟩:=qi hp hx (by omega) (.inr (by omega));have hi:=(i1 (d+1) ⟨x.p,s.n+1,s.g+1⟩ h9 (by dsimp only;omega)).from_ (s:=s) (c':= -1+3) (W':=λG hi a=>s.g+1<=G/\be G (s.n+1) hi a) (by dsimp only;omega) (by dsimp only;omega) (by dsimp only;omega) (by dsimp only;omega) λG hi a h1 h2=>⟨h1,h2⟩
     refine qX hi λk s' h1 h2 h3 h4 h5 h6=> ?_
     split
     .trivial
     .next y hy=>
      split
      .next h=>
       obtain⟨h10,h11⟩:=qi h2 hy (by omega) (.inr (by omega));exact⟨by dsimp only;omega,h11,by dsimp only;omega,h4,h5,by simp only[be];exact⟨by omega,by omega,h6.1,h6.2⟩⟩
      .trivial
end
structure je(nd:Nd)(G:Int):Prop where
 g0:0<=G
 g9:G<=9
 w:∃hi,hi<=400/\be G 0 hi nd
theorem N9{ln fold l nd σ}(hl:l.length<=120)(h:xP ln fold l=some (.ok nd σ)):je nd σ.g:=by
 have:=(Nn (ln:=ln) (fold:=fold) (l:=l) (deep+8)).1 0 ⟨0,0,0⟩ (Tl _) (No _);unfold xP at h;rw[h]at this;obtain⟨h1,h2,h3,h4,h5,h6⟩:=this;dsimp only at h1 h3 h4 h5 h6;exact⟨h4,h5 (by omega),σ.n,by omega,h6⟩
end
section
open Go.RowKit
structure ME where
 M:MT
 R:Nd
 m:Nat
 r:Nat
 sp:SW
 S:Nat->Prop
structure fu(E:ME):Prop where
 size:E.M.s.size<=300
 f:E.M.f<256
 e:E.M.e<256
 one:∀a∈subs E.R,∀b∈subs E.R,a.id=b.id->a=b
 id:∀a∈subs E.R,I64 a.id
 rep:∀i k l m,Nd.rep i k l m∈subs E.R->0<=l/\l<1000000/\m<1000000
 kids:∀i ks,Nd.seq i ks∈subs E.R->ks.length<1000000
 away:¬ E.S E.r
 low:∀b,E.S b->b<E.m
def Says(M:MT):Nd->Nat->Nat->Nat->Prop
 | .seq _ ks,d,i,p=>p=dL M (ks.drop d) i
 | .alt _ ks,d,i,p=>p=iK M ks i
 | .rep _ k l m,d,i,p=>p=dI M k l m d i
 |_,_,_,_=>False
theorem Says.one{M nd d i p q}(h:Says M nd d i p)(k:Says M nd d i q):p=q:=by
 cases nd<;>first |exact h.trans k.symm|exact h.elim
def C6(E:ME)(es:Array MapEntry):Prop:=∀e∈es.toList,∃nd∈subs E.R,∃d i p:Nat,d<3000000/\i<=300/\e.key=kV nd.id d i/\e.val=ep p/\Says E.M nd d i p
structure cI(E:ME)(w:If):Prop where
 blk:a7 w E.m 218 #[.string E.M.s,.int .u8 E.M.f,.int .u8 E.M.e,.map (some E.r),E.sp]
 map:∃es clock,w.heap[E.r]?=some (.map es clock)/\C6 E es
 root:∃v,Repr w E.S v E.R
theorem p9{n:Nat}(h:n<3000000):I64 n:=by
 have h1:IntKind.i64.min= -9223372036854775808:=rfl;have h2:IntKind.i64.max=9223372036854775807:=rfl;show(decide (IntKind.i64.min<=n)&&decide (n<=IntKind.i64.max))=true;rw[TD,decide_eq_true_eq,decide_eq_true_eq];omega
theorem C6.keys{E es}(hE:fu E)(h:C6 E es):C7 es:=λe he=>by
 obtain⟨nd,hn,d,i,p,h1,h2,h3,_⟩:=h e he;exact⟨_,_,_,hE.id nd hn,p9 h1,p9 (by omega),h3⟩
theorem cI.kq{E w w'}(h:cI E w)(hk:Kq w.heap.size [] w w'):cI E w':=by
 obtain⟨es,clock,h1,h2⟩:=h.map;obtain⟨v,hv⟩:=h.root;exact⟨h.blk.kq hk h.blk.lt AS,⟨es,clock,(hk.kp.2 _ (AT.1 h1).1 AS).trans h1,h2⟩,v,hv.keep λb _ hlt=>hk.kp.2 b hlt AS⟩
theorem xQ:(PM.info? 221).map (·.size)=some 5:=by kernel_rfl
theorem uQ:∃n e,PM.underlying 221=some (.array n e):=⟨_,_,(congrFun (aK ..) _).trans Tryz.underlying221⟩
theorem cO{fn p}(h:fn.results=#[.cell p 221]){R a w g b0 b1 b2 b3 b4}(hp:a.tmps.getD p undef= .pointer (some ⟨g,0,none⟩))(hg:a7 w g 221 #[b0,b1,b2,b3,b4])(hd:a.defers=[])
 (hR:R (.returned (.agg #[b0,b1,b2,b3,b4])) w):bodyPost PM fn R .ret a w:=by
 obtain⟨n,d,hu⟩:=uQ;exact bodyPost_ret (results_cell_row h a.tmps w g _ _ _ _ hp hg hu rfl xQ) hd hR
theorem dc{w g q c0 c1 c2 c3 c4}(h:a7 w g 221 #[c0,c1,c2,c3,c4]):
 a7 (((((w.setCell ⟨g,0,none⟩ (.int .u64 (wz q.testBit 0))).setCell ⟨g,1,none⟩ (.int .u64 (wz q.testBit 1))).setCell ⟨g,2,none⟩ (.int .u64 (wz q.testBit 2))).setCell ⟨g,3,none⟩ (.int .u64 (wz q.testBit 3))).setCell ⟨g,4,none⟩ (.int .u64 (wz q.testBit 4))) g 221 (cR q):=by
 have:=((((h.bI 0 (.int .u64 (wz q.testBit 0))).bI 1 (.int .u64 (wz q.testBit 1))).bI 2 (.int .u64 (wz q.testBit 2))).bI 3 (.int .u64 (wz q.testBit 3))).bI 4 (.int .u64 (wz q.testBit 4));simp[List.setIfInBounds_toArray]at this;exact this
theorem ba{w}{g q B:Nat}{X w0}(h:Kq B X w0 w)(hg:g<B->g∈X):
 Kq B X w0 (((((w.setCell ⟨g,0,none⟩ (.int .u64 (wz q.testBit 0))).setCell ⟨g,1,none⟩ (.int .u64 (wz q.testBit 1))).setCell ⟨g,2,none⟩ (.int .u64 (wz q.testBit 2))).setCell ⟨g,3,none⟩ (.int .u64 (wz q.testBit 3))).setCell ⟨g,4,none⟩ (.int .u64 (wz q.testBit 4))):=by
 have no:∀i,(⟨g,i,none⟩:Addr).block<B->(⟨g,i,none⟩:Addr).block∈X:=λi hlt=>hg hlt
 exact((((h.setCell (no 0) _).setCell (no 1) _).setCell (no 2) _).setCell (no 3) _).setCell (no 4) _
theorem cI.hZ{E w w'}(hE:fu E)(h:cI E w){X}(hX:∀x∈X,x≠E.m/\x≠E.r/\¬ E.S x)(hk:Kq w.heap.size X w w'):cI E w':=by
 obtain⟨es,clock,h1,h2⟩:=h.map;obtain⟨v,hv⟩:=h.root;exact⟨h.blk.kq hk h.blk.lt λhx=>(hX _ hx).1 rfl,⟨es,clock,(hk.kp.2 _ (AT.1 h1).1 λhx=>(hX _ hx).2.1 rfl).trans h1,h2⟩,v,hv.keep λb hb hlt=>hk.kp.2 b hlt λhx=>(hX _ hx).2.2 hb⟩
theorem y7{E}(hE:fu E){nd}(hn:nd∈subs E.R){d i p}(hd:d<3000000)(hi:i<=300)(hp:Says E.M nd d i p)(work:Nat)(cap w)
 (hcall:∀args w,(IN work args).run PM w= .ok (.enter work args) w)
 (hM:cI E w) (hw:∀w1,Kq w.heap.size [] w w1->cI E w1->Calls PM work cap w1 λe w'=>e= .returned (ep p)/\cI E w'/\Kq w1.heap.size [E.r] w1 w'):
 Calls PM 230 #[.pointer (some ⟨E.m,0,none⟩),kV nd.id d i,.func (.func work) #[] cap] w λe w'=>e= .returned (ep p)/\cI E w'/\Kq w.heap.size [E.r] w w':=by
 obtain⟨es,clock,hm,hes⟩:=hM.map;have hid:=hE.id nd hn;have h0:(∀w:If,w.heap[E.r]?=some (.map es clock)->(Tf 216 (.map (some E.r)) (kV nd.id d i) true).run PM w= .ok (.tuple #[ep 0,.bool false]) w)\/
  ∀w:If,w.heap[E.r]?=some (.map es clock)->(Tf 216 (.map (some E.r)) (kV nd.id d i) true).run PM w= .ok (.tuple #[ep p,.bool true]) w:=by
  have hl:=λ(w:If) hb=>Hl (w:=w) (r:=E.r) (es:=es) (clock:=clock) hb (hes.keys hE) hid (p9 hd) (p9 (by omega:i<3000000))
  by_cases hx:∃e∈es.toList,e.key=kV nd.id d i
  .obtain⟨e,he,hf⟩:=hx;refine .inr λw hb=> ?_
   rcases hl w hb with⟨_,h⟩|⟨e1,h1,h2,h3⟩
   .exact absurd hf (h e he)
   .obtain⟨nd',hn',d',i',p',_,_,hk,hv,hs⟩:=hes e1 h1;rw[hk]at h2;have h4:nd'.id=nd.id/\(d':Int)=d/\(i':Int)=i:=by simpa[kV]using h2
    obtain rfl:=hE.one nd' hn' nd hn h4.1;obtain rfl:d'=d:=by omega
    obtain rfl:i'=i:=by omega
    rw[h3,hv,hs.one hp]
  .refine .inl λw hb=> ?_
   rcases hl w hb with⟨h,_⟩|⟨e1,h1,h2,h3⟩
   .exact h
   .exact absurd ⟨e1,h1,h2⟩ hx
 generalize hia:nd.id=a at *;replace hia:=up hia;unfold kV;go_enter PM.func Tryz.func230 (by decide),Tryz.ntmps230
 go_wp2;have k1:Kq w.heap.size [] w ((w.alloc (.cells #[.int .i64 a,.int .i64 d,.int .i64 i] 336)).alloc (.cells #[.int .u64 0,.int .u64 0,.int .u64 0,.int .u64 0,.int .u64 0] 221)):=((Kq.refl w).alloc (AI _) _).alloc (AI _) _;have b1:a7 ((w.alloc (.cells #[.int .i64 a,.int .i64 d,.int .i64 i] 336)).alloc (.cells #[.int .u64 0,.int .u64 0,.int .u64 0,.int .u64 0,.int .u64 0] 221)) w.heap.size 336 #[.int .i64 a,.int .i64 d,.int .i64 i]:=(a7.new w 336 _).alloc _;have b2:a7 ((w.alloc (.cells #[.int .i64 a,.int .i64 d,.int .i64 i] 336)).alloc (.cells #[.int .u64 0,.int .u64 0,.int .u64 0,.int .u64 0,.int .u64 0] 221)) (w.heap.size+1) 221 #[.int .u64 0,.int .u64 0,.int .u64 0,.int .u64 0,.int .u64 0]:=a7.new2 _ _ _ _;have hsz:((w.alloc (.cells #[.int .i64 a,.int .i64 d,.int .i64 i] 336)).alloc (.cells #[.int .u64 0,.int .u64 0,.int .u64 0,.int .u64 0,.int .u64 0] 221)).heap.size=w.heap.size+2:=by simp
 have hM1:=hM.kq k1;have h7:=(k1.kp.2 _ (AT.1 hm).1 AS).trans hm;generalize (w.alloc (.cells #[.int .i64 a,.int .i64 d,.int .i64 i] 336)).alloc (.cells #[.int .u64 0,.int .u64 0,.int .u64 0,.int .u64 0,.int .u64 0] 221)=W1 at *;have c3:W1.cell? ⟨E.m,3,none⟩=some (.map (some E.r)):=hM1.blk.cell 3;have q0:W1.cell? ⟨w.heap.size,0,none⟩=some (.int .i64 a):=b1.cell 0;have q1:W1.cell? ⟨w.heap.size,1,none⟩=some (.int .i64 d):=b1.cell 1;have q2:W1.cell? ⟨w.heap.size,2,none⟩=some (.int .i64 i):=b1.cell 2;have hlt:=hM1.blk.lt;have ha:(W1.alloc (.cells #[.int .u64 0,.int .u64 0,.int .u64 0,.int .u64 0,.int .u64 0] 221)).heap[E.r]?=some (.map es clock):=(Below.heap_alloc _ _ _ (AT.1 h7).1).trans h7;have hlt2:w.heap.size<W1.heap.size:=b1.lt;replace hM1:=up hM1;replace h7:=up h7;replace hM:=up hM;replace hm:=up hm;replace k1:=up k1;replace b1:=up b1;replace b2:=up b2;replace hsz:=up hsz;replace hes:=up hes;replace hw:=up hw;rcases h0 with h0|h0
 .have l1:=h0 W1.drew h7.out;have l2:=h0 (W1.alloc (.cells #[.int .u64 0,.int .u64 0,.int .u64 0,.int .u64 0,.int .u64 0] 221)).drew ha;clear h0 ha;unfold kV ep cR fU at l1 l2;go_region
  all_goals
   go_wp2;have kx1:Kq W1.heap.size [] W1 (W1.alloc (.cells #[.int .u64 (wz (BY 0) 0),.int .u64 (wz (BY 0) 1),.int .u64 (wz (BY 0) 2),.int .u64 (wz (BY 0) 3),.int .u64 (wz (BY 0) 4)] 221)).drew:=((Kq.refl _).alloc (AI _) _).drew;generalize (W1.alloc (.cells #[.int .u64 (wz (BY 0) 0),.int .u64 (wz (BY 0) 1),.int .u64 (wz (BY 0) 2),.int .u64 (wz (BY 0) 3),.int .u64 (wz (BY 0) 4)] 221)).drew=WX at kx1 ⊢;have kx:Kq w.heap.size [] w WX:=k1.out.trans (kx1.mono k1.out.kp.1 λ_ h _=>h);refine(hw.out WX kx (hM1.out.kq kx1)).mono ?_;rintro e w4 ⟨rfl,h9,k4⟩;have hsx:W1.heap.size<=WX.heap.size:=kx1.kp.1;have hne:∀b,w.heap.size<=b->b∉[E.r]:=λb hb hx=>by
    obtain rfl:=x5.1 hx;have:=(AT.1 hm.out).1;omega
   have b4:=(b1.out.kq kx1 b1.out.lt AS).kq k4 (T1 b1.out.lt hsx) (hne _ (AI _));have b5:=(b2.out.kq kx1 b2.out.lt AS).kq k4 (T1 b2.out.lt hsx) (hne _ (TY _));have kw4:Kq w.heap.size [E.r] w w4:=(kx.mono (AI _) nofun).trans (k4.mono kx.kp.1 λ_ h _=>h);obtain⟨es4,clock4,hc,h6⟩:=h9.map;replace h9:=up h9;replace hc:=up hc;replace h6:=up h6;replace kw4:=up kw4;replace b4:=up b4;replace b5:=up b5;clear k4 kx kx1 hsx hne l1 l2 q0 q1 q2 c3;unfold ep cR fU;go_wp2;have k5:Kq w4.heap.size [] w4 (w4.alloc (.cells #[.int .u64 (wz p.testBit 0),.int .u64 (wz p.testBit 1),.int .u64 (wz p.testBit 2),.int .u64 (wz p.testBit 3),.int .u64 (wz p.testBit 4)] 221)):=(Kq.refl _).alloc (AI _) _;have n5:a7 (w4.alloc (.cells #[.int .u64 (wz p.testBit 0),.int .u64 (wz p.testBit 1),.int .u64 (wz p.testBit 2),.int .u64 (wz p.testBit 3),.int .u64 (wz p.testBit 4)] 221)) w4.heap.size 221 (cR p):=a7.new w4 221 _;generalize w4.alloc (.cells #[.int .u64 (wz p.testBit 0),.int .u64 (wz p.testBit 1),.int .u64 (wz p.testBit 2),.int .u64 (wz p.testBit 3),.int .u64 (wz p.testBit 4)] 221)=W5 at k5 n5 ⊢;have hm5:=(k5.kp.2 _ (AT.1 hc.out).1 AS).trans hc.out;have h5:=h9.out.kq k5;obtain⟨es6,clock6,hput,h8⟩:=JS (w:=W5.drew) (v:=.agg #[.int .u64 (wz p.testBit 0),.int .u64 (wz p.testBit 1),.int .u64 (wz p.testBit 2),.int .u64 (wz p.testBit 3),.int .u64 (wz p.testBit 4)]) hm5 (h6.out.keys hE) hid (p9 hd) (p9 (by omega:i<3000000));replace b4:=b4.out.kq k5 b4.out.lt AS;replace b5:=b5.out.kq k5 b5.out.lt AS;have g0:W5.cell? ⟨w.heap.size,0,none⟩=some (.int .i64 a):=b4.cell 0;have g1:W5.cell? ⟨w.heap.size,1,none⟩=some (.int .i64 d):=b4.cell 1;have g2:W5.cell? ⟨w.heap.size,2,none⟩=some (.int .i64 i):=b4.cell 2;have g3:W5.cell? ⟨E.m,3,none⟩=some (.map (some E.r)):=h5.blk.cell 3;have p0:W5.cell? ⟨w4.heap.size,0,none⟩=some (.int .u64 (wz p.testBit 0)):=n5.cell 0;have p1:W5.cell? ⟨w4.heap.size,1,none⟩=some (.int .u64 (wz p.testBit 1)):=n5.cell 1;have p2:W5.cell? ⟨w4.heap.size,2,none⟩=some (.int .u64 (wz p.testBit 2)):=n5.cell 2;have p3:W5.cell? ⟨w4.heap.size,3,none⟩=some (.int .u64 (wz p.testBit 3)):=n5.cell 3;have p4:W5.cell? ⟨w4.heap.size,4,none⟩=some (.int .u64 (wz p.testBit 4)):=n5.cell 4;replace h5:=up h5;replace hm5:=up hm5;replace k5:=up k5;replace b4:=up b4;replace b5:=up b5;replace n5:=up n5;replace h8:=up h8;unfold kV at hput;go_region
   have k6:Kq W5.heap.size [E.r] W5 (W5.drew.putObj E.r (.map es6 clock6)):=((Kq.refl _).drew).put (λ_=>x5.2 rfl) _;have hm6:(W5.drew.putObj E.r (.map es6 clock6)).heap[E.r]?=some (.map es6 clock6):=Ti (AT.1 hm5.out).1;generalize W5.drew.putObj E.r (.map es6 clock6)=W6 at k6 hm6 ⊢;have hmr:∀b t c,a7 W5 b t c->b∉[E.r]:=λb t c hb hx=>by
    obtain rfl:=x5.1 hx;exact absurd (hb.symm.trans hm5.out) (by simp)
   have hM6:cI E W6:=by
    obtain⟨v,hv⟩:=h5.out.root;refine⟨h5.out.blk.kq k6 h5.out.blk.lt (hmr _ _ _ h5.out.blk),⟨es6,clock6,hm6,λe he=> ?_⟩,v,hv.keep λb hb hlt=>k6.kp.2 b hlt λhx=> ?_⟩
    .rcases h8.out e he with h|⟨h1,h2⟩
     .exact h6.out e h
     .exact⟨nd,hn,d,i,p,hd,hi,by rw[h1,hia.out],h2,hp⟩
    .obtain rfl:=x5.1 hx;exact hE.away hb
   have b7:=b5.out.kq k6 b5.out.lt (hmr _ _ _ b5.out);have n6:=n5.out.kq k6 n5.out.lt (hmr _ _ _ n5.out);have kw6:Kq w.heap.size [E.r] w W6:=(kw4.out.trans (k5.out.mono kw4.out.kp.1 nofun)).trans (k6.mono (T5 kw4.out.kp.1 k5.out.kp.1) λ_ h _=>h);replace hM6:=up hM6;replace kw6:=up kw6;clear k6 hm6 hmr hput h8 h6 b5 n5 b4 kw4 h9 h5 hm5 k5 g0 g1 g2 g3 p0 p1 p2 p3 p4;have f7:∀j,W6.frozen? ⟨w.heap.size+1,j,none⟩=false:=b7.frozen;have p0:W6.cell? ⟨w4.heap.size,0,none⟩=some (.int .u64 (wz p.testBit 0)):=n6.cell 0;have p1:W6.cell? ⟨w4.heap.size,1,none⟩=some (.int .u64 (wz p.testBit 1)):=n6.cell 1;have p2:W6.cell? ⟨w4.heap.size,2,none⟩=some (.int .u64 (wz p.testBit 2)):=n6.cell 2;have p3:W6.cell? ⟨w4.heap.size,3,none⟩=some (.int .u64 (wz p.testBit 3)):=n6.cell 3;have p4:W6.cell? ⟨w4.heap.size,4,none⟩=some (.int .u64 (wz p.testBit 4)):=n6.cell 4;have r0:W6.cell? ⟨w.heap.size+1,0,none⟩=some (.int .u64 0):=b7.cell 0;have r1:W6.cell? ⟨w.heap.size+1,1,none⟩=some (.int .u64 0):=b7.cell 1;have r2:W6.cell? ⟨w.heap.size+1,2,none⟩=some (.int .u64 0):=b7.cell 2;have r3:W6.cell? ⟨w.heap.size+1,3,none⟩=some (.int .u64 0):=b7.cell 3;have r4:W6.cell? ⟨w.heap.size+1,4,none⟩=some (.int .u64 0):=b7.cell 4;replace b7:=up b7;replace n6:=up n6;go_wp2;have hlo:=hM.out.blk.lt;have hlr:=(AT.1 hm.out).1;refine cO rfl rfl (dc b7.out) rfl ⟨rfl,hM6.out.hZ hE (X:=[w.heap.size+1]) (λx hx=> ?_) (ba (Kq.refl _) λ_=>x5.2 rfl),ba kw6.out λh=>absurd h (by omega)⟩;obtain rfl:=x5.1 hx;exact⟨by omega,by omega,λh=>by have:=hE.low _ h;omega⟩
 .have l1:=h0 W1.drew h7.out;have l2:=h0 (W1.alloc (.cells #[.int .u64 0,.int .u64 0,.int .u64 0,.int .u64 0,.int .u64 0] 221)).drew ha;clear h0 ha;unfold kV ep cR fU at l1 l2;go_region
  all_goals
   have kx1:Kq W1.heap.size [] W1 (W1.alloc (.cells #[.int .u64 (wz p.testBit 0),.int .u64 (wz p.testBit 1),.int .u64 (wz p.testBit 2),.int .u64 (wz p.testBit 3),.int .u64 (wz p.testBit 4)] 221)).drew:=((Kq.refl _).alloc (AI _) _).drew;have n6:a7 (W1.alloc (.cells #[.int .u64 (wz p.testBit 0),.int .u64 (wz p.testBit 1),.int .u64 (wz p.testBit 2),.int .u64 (wz p.testBit 3),.int .u64 (wz p.testBit 4)] 221)).drew W1.heap.size 221 (cR p):=a7.new W1 221 _;generalize (W1.alloc (.cells #[.int .u64 (wz p.testBit 0),.int .u64 (wz p.testBit 1),.int .u64 (wz p.testBit 2),.int .u64 (wz p.testBit 3),.int .u64 (wz p.testBit 4)] 221)).drew=W6 at kx1 n6 ⊢;have hM6:=up (hM1.out.kq kx1);have kw6:Kq w.heap.size [E.r] w W6:=(k1.out.trans (kx1.mono k1.out.kp.1 λ_ h _=>h)).mono (AI _) nofun;replace kw6:=up kw6;have b7:=b2.out.kq kx1 b2.out.lt AS;clear kx1 l1 l2 q0 q1 q2 c3;have f7:∀j,W6.frozen? ⟨w.heap.size+1,j,none⟩=false:=b7.frozen;have p0:W6.cell? ⟨W1.heap.size,0,none⟩=some (.int .u64 (wz p.testBit 0)):=n6.cell 0;have p1:W6.cell? ⟨W1.heap.size,1,none⟩=some (.int .u64 (wz p.testBit 1)):=n6.cell 1;have p2:W6.cell? ⟨W1.heap.size,2,none⟩=some (.int .u64 (wz p.testBit 2)):=n6.cell 2;have p3:W6.cell? ⟨W1.heap.size,3,none⟩=some (.int .u64 (wz p.testBit 3)):=n6.cell 3;have p4:W6.cell? ⟨W1.heap.size,4,none⟩=some (.int .u64 (wz p.testBit 4)):=n6.cell 4;have r0:W6.cell? ⟨w.heap.size+1,0,none⟩=some (.int .u64 0):=b7.cell 0;have r1:W6.cell? ⟨w.heap.size+1,1,none⟩=some (.int .u64 0):=b7.cell 1;have r2:W6.cell? ⟨w.heap.size+1,2,none⟩=some (.int .u64 0):=b7.cell 2;have r3:W6.cell? ⟨w.heap.size+1,3,none⟩=some (.int .u64 0):=b7.cell 3;have r4:W6.cell? ⟨w.heap.size+1,4,none⟩=some (.int .u64 0):=b7.cell 4;replace b7:=up b7;replace n6:=up n6;go_wp2;have hlo:=hM.out.blk.lt;have hlr:=(AT.1 hm.out).1;refine cO rfl rfl (dc b7.out) rfl ⟨rfl,hM6.out.hZ hE (X:=[w.heap.size+1]) (λx hx=> ?_) (ba (Kq.refl _) λ_=>x5.2 rfl),ba kw6.out λh=>absurd h (by omega)⟩;obtain rfl:=x5.1 hx;exact⟨by omega,by omega,λh=>by have:=hE.low _ h;omega⟩
theorem Lk{b0 b1 b2 b3}(h0:0<=b0/\b0<18446744073709551616)(h1:0<=b1/\b1<18446744073709551616)(h2:0<=b2/\b2<18446744073709551616)(h3:0<=b3/\b3<18446744073709551616):
 ∃S,(∀c,c<256->S c=iw b0 b1 b2 b3 c)/\b0=wz S 0/\b1=wz S 1/\b2=wz S 2/\b3=wz S 3:=by
 have key:∀(k:Nat)(b:Int),0<=b/\b<18446744073709551616->(∀j,j<64->b.toNat.testBit j=iw b0 b1 b2 b3 (64*k+j))->b=wz (iw b0 b1 b2 b3) k:=λk b hb h=>by
  have:=oN (iw b0 b1 b2 b3) k b.toNat (by omega) h;unfold wz;omega
 refine⟨iw b0 b1 b2 b3,λ_ _=>rfl,key 0 b0 h0 λj hj=> ?_,key 1 b1 h1 λj hj=> ?_,key 2 b2 h2 λj hj=> ?_,key 3 b3 h3 λj hj=> ?_⟩
 .unfold iw;rw[if_pos (by omega),show(64*0+j)%64=j from by omega]
 .unfold iw;rw[if_neg (by omega),if_pos (by omega),show(64*1+j)%64=j from by omega]
 .unfold iw;rw[if_neg (by omega),if_neg (by omega),if_pos (by omega),show(64*2+j)%64=j from by omega]
 .unfold iw;rw[if_neg (by omega),if_neg (by omega),if_neg (by omega),show(64*3+j)%64=j from by omega]
theorem u8_and63:∀n:Nat,n<256->bits .and .u8 (n:Int) 63=((n%64:Nat):Int):=by decide+kernel
theorem BU(S)(c:Nat)(hc:c<256)(w):
 Calls PM 80 #[kL S,.int .u8 c] w λe w'=>e= .returned (.bool (S c))/\Kq w.heap.size [] w w':=by
 obtain⟨i,j,hj,rfl⟩:∃a j,j<64/\c=64*a+j:=⟨c/64,c%64,U4 _ (by decide),by omega⟩;have hi4:i<4:=by omega
 have e1:=Jm i j hj;have e2:bits .and .u8 (64*i+j:Int) 63=j:=by
  have:=u8_and63 (64*i+j) hc;rw[show(64*i+j)%64=j from by omega]at this;push_cast at this
  exact this
 have e3:=G5 S i j hj;have e4:((2^j:Nat):Int)=2^j:=by norm_cast
 rw[e4]at e3;have c0:(w.alloc (.cells (words S) 101)).cell? ⟨w.heap.size,i,none⟩=some (.int .u64 (wz S i)):=eu (a7.new w 101 _) hi4;have hz:=lh S i;clear e4;unfold kL;go_enter PM.func Tryz.func80 (by decide),Tryz.ntmps80
 unfold words at *;go_wp2;all_goals
  go_ret;exact⟨by simp[*],(Kq.refl w).alloc (AI _) _⟩
theorem dz:cR 0=#[.int .u64 0,.int .u64 0,.int .u64 0,.int .u64 0,.int .u64 0]:=by
 have:BY 0=co:=funext λx=>Nat.zero_testBit x
 simp_all[qd,fU]
def iH(E:ME)(i p:Nat)(w:If)(e:Ending)(w':If):Prop:=e= .returned (ep p)/\cI E w'/\Kq w.heap.size [E.r] w w'
theorem CL{E}(hE:fu E){id b0 b1 b2 b3 q i w}(h0:0<=b0/\b0<18446744073709551616)(h1:0<=b1/\b1<18446744073709551616)(h2:0<=b2/\b2<18446744073709551616)(h3:0<=b3/\b3<18446744073709551616)
 (hM:cI E w) (hB:a7 w q 307 #[.int .i64 id,.int .u64 b0,.int .u64 b1,.int .u64 b2,.int .u64 b3]) (hi:i<=E.M.s.size):
 Calls PM 249 #[.pointer (some ⟨q,0,none⟩),.pointer (some ⟨E.m,0,none⟩),.int .i64 i] w (iH E i (bv E.M (.set id b0 b1 b2 b3) i) w):=by
 rw[bv];obtain⟨S,hS,rfl,rfl,rfl,rfl⟩:=Lk h0 h1 h2 h3;clear h0 h1 h2 h3;have hsz:=hE.size;have hlm:=hM.blk.lt;have h6:=hB.lt;have Z:=dz;have k1:Kq w.heap.size [] w (w.alloc (.cells #[.int .u64 0,.int .u64 0,.int .u64 0,.int .u64 0,.int .u64 0] 221)):=(Kq.refl w).alloc (AI _) _;have n1:a7 (w.alloc (.cells #[.int .u64 0,.int .u64 0,.int .u64 0,.int .u64 0,.int .u64 0] 221)) w.heap.size 221 (cR 0):=by rw[Z];exact a7.new w 221 _
 clear Z;have hM1:=hM.kq k1;have hB1:=hB.kq k1 h6 AS;have hlr:=(AT.1 hM.map.choose_spec.choose_spec.1).1;have hnew:Hid (w.heap.size≠E.m/\w.heap.size≠E.r/\¬ E.S w.heap.size):=up ⟨by omega,by omega,λh=>by have:=hE.low _ h;omega⟩;clear hlr;replace hM:=up hM;replace k1:=up k1;replace n1:=up n1;clear hB;by_cases hlt:i<E.M.s.size
 .have hg:E.M.s.get! i=E.M.s[i]:=by
   show E.M.s.data[i]! =_;rw[getElem!_pos E.M.s.data i hlt];rfl
  have hc:=E.M.s[i].toNat_lt;rw[hg,<- hS _ hc];have hH:=BU S E.M.s[i].toNat hc;unfold kL at hH;generalize hcc:E.M.s[i].toNat=c at hH hc ⊢;replace hcc:=up hcc;by_cases hs:S c=true
  .rw[hs]at hH;rw[if_pos (by simp[hlt,hs])];clear hS hg hs;go_enter PM.func Tryz.func249 (by decide),Tryz.ntmps249
   go_wp2;generalize w.alloc (.cells #[.int .u64 0,.int .u64 0,.int .u64 0,.int .u64 0,.int .u64 0] 221)=W1 at *;have h4:=up hM1.blk;replace hB1:=up hB1;replace hM1:=up hM1;have c0:W1.cell? ⟨E.m,0,none⟩=some (.string E.M.s):=h4.out.cell 0;have s1:W1.cell? ⟨q,1,none⟩=some (.int .u64 (wz S 0)):=hB1.out.cell 1;have s2:W1.cell? ⟨q,2,none⟩=some (.int .u64 (wz S 1)):=hB1.out.cell 2;have s3:W1.cell? ⟨q,3,none⟩=some (.int .u64 (wz S 2)):=hB1.out.cell 3;have s4:W1.cell? ⟨q,4,none⟩=some (.int .u64 (wz S 3)):=hB1.out.cell 4;go_still_tail 18,by kernel_rfl
   change wpList _ _ _ _ _ W1.drew;rw[hcc.out]at *;go_wp2_with (first |(go_at_call 80;refine(hH _).mono ?_;rintro e w2 ⟨rfl,k2⟩)|fail)
   replace k2:Kq W1.heap.size [] W1 w2:=⟨k2.kp,k2.os,k2.out⟩;have n2:=n1.out.kq k2 n1.out.lt AS;have hA:=oW w.heap.size (i+1) 0 w2 (by omega) n2;rw[show((i+1:Nat):Int)=(i:Int)+1 from by push_cast;rfl,SY]at hA;refine hA.mono ?_;rintro e w3 ⟨rfl,hb,k3⟩;have kk:Kq w.heap.size [E.r] w w3:=((k1.out.trans (k2.mono k1.out.kp.1 nofun)).mono (AI _) nofun).trans (k3.mono (T5 k1.out.kp.1 k2.kp.1) λx hx hlt=>absurd hlt (by rw[x5.1 hx];exact SC _));have hm:=(hM1.out.kq k2).hZ hE (X:=[w.heap.size]) (λx hx=>by rw[x5.1 hx];exact hnew.out) k3;replace hm:=up hm;replace hb:=up hb;have hk:=up kk;clear kk k3 k2 n2 hA c0 s1 s2 s3 s4;have fz:∀j,w3.frozen? ⟨w.heap.size,j,none⟩=false:=hb.out.frozen;have r0:w3.cell? ⟨w.heap.size,0,none⟩=some (.int .u64 (wz (1<<<(i+1)).testBit 0)):=hb.out.cell 0;have r1:w3.cell? ⟨w.heap.size,1,none⟩=some (.int .u64 (wz (1<<<(i+1)).testBit 1)):=hb.out.cell 1;have r2:w3.cell? ⟨w.heap.size,2,none⟩=some (.int .u64 (wz (1<<<(i+1)).testBit 2)):=hb.out.cell 2;have r3:w3.cell? ⟨w.heap.size,3,none⟩=some (.int .u64 (wz (1<<<(i+1)).testBit 3)):=hb.out.cell 3;have r4:w3.cell? ⟨w.heap.size,4,none⟩=some (.int .u64 (wz (1<<<(i+1)).testBit 4)):=hb.out.cell 4;go_wp2;refine cO rfl rfl (dc hb.out) rfl ⟨rfl,hm.out.hZ hE (X:=[w.heap.size]) (λx hx=> ?_) (ba (Kq.refl _) λ_=>x5.2 rfl),ba hk.out λh=>absurd h (by omega)⟩;obtain rfl:=x5.1 hx;exact hnew.out
  .have h5:S c=false:=by simpa using hs
   rw[h5]at hH;rw[if_neg (by simp[h5])];clear hS hg hs h5;go_enter PM.func Tryz.func249 (by decide),Tryz.ntmps249
   go_wp2;generalize w.alloc (.cells #[.int .u64 0,.int .u64 0,.int .u64 0,.int .u64 0,.int .u64 0] 221)=W1 at *;have h4:=up hM1.blk;replace hB1:=up hB1;replace hM1:=up hM1;have c0:W1.cell? ⟨E.m,0,none⟩=some (.string E.M.s):=h4.out.cell 0;have s1:W1.cell? ⟨q,1,none⟩=some (.int .u64 (wz S 0)):=hB1.out.cell 1;have s2:W1.cell? ⟨q,2,none⟩=some (.int .u64 (wz S 1)):=hB1.out.cell 2;have s3:W1.cell? ⟨q,3,none⟩=some (.int .u64 (wz S 2)):=hB1.out.cell 3;have s4:W1.cell? ⟨q,4,none⟩=some (.int .u64 (wz S 3)):=hB1.out.cell 4;go_still_tail 18,by kernel_rfl
   change wpList _ _ _ _ _ W1.drew;rw[hcc.out]at *;go_wp2_with (first |(go_at_call 80;refine(hH _).mono ?_;rintro e w2 ⟨rfl,k2⟩;replace k2:Kq W1.heap.size [] W1 w2:=⟨k2.kp,k2.os,k2.out⟩;have hb:=up (n1.out.kq k2 n1.out.lt AS);have hm:=up (hM1.out.kq k2);have hk:=up ((k1.out.trans (k2.mono k1.out.kp.1 nofun)).mono (AI _) nofun:Kq w.heap.size [E.r] w w2);have fz:∀j,w2.frozen? ⟨w.heap.size,j,none⟩=false:=hb.out.frozen;have r0:w2.cell? ⟨w.heap.size,0,none⟩=some (.int .u64 (wz (BY 0) 0)):=hb.out.cell 0;have r1:w2.cell? ⟨w.heap.size,1,none⟩=some (.int .u64 (wz (BY 0) 1)):=hb.out.cell 1;have r2:w2.cell? ⟨w.heap.size,2,none⟩=some (.int .u64 (wz (BY 0) 2)):=hb.out.cell 2;have r3:w2.cell? ⟨w.heap.size,3,none⟩=some (.int .u64 (wz (BY 0) 3)):=hb.out.cell 3;have r4:w2.cell? ⟨w.heap.size,4,none⟩=some (.int .u64 (wz (BY 0) 4)):=hb.out.cell 4;clear k2)|fail)
   refine cO rfl rfl (dc hb.out) rfl ⟨rfl,hm.out.hZ hE (X:=[w.heap.size]) (λx hx=> ?_) (ba (Kq.refl _) λ_=>x5.2 rfl),ba hk.out λh=>absurd h (by omega)⟩;obtain rfl:=x5.1 hx;exact hnew.out
 .rw[if_neg (by simp[hlt])];clear hS;have hd1:decide (i<E.M.s.size)=false:=by simpa using hlt
  have hd2:decide ((i:Int)<(E.M.s.size:Int))=false:=by simpa using hlt
  have hd3:¬ (i:Int)<(E.M.s.size:Int):=by omega
  go_enter PM.func Tryz.func249 (by decide),Tryz.ntmps249
  go_wp2;generalize w.alloc (.cells #[.int .u64 0,.int .u64 0,.int .u64 0,.int .u64 0,.int .u64 0] 221)=W1 at *;have h4:=up hM1.blk;replace hB1:=up hB1;replace hM1:=up hM1;have c0:W1.cell? ⟨E.m,0,none⟩=some (.string E.M.s):=h4.out.cell 0;have s1:W1.cell? ⟨q,1,none⟩=some (.int .u64 (wz S 0)):=hB1.out.cell 1;have s2:W1.cell? ⟨q,2,none⟩=some (.int .u64 (wz S 1)):=hB1.out.cell 2;have s3:W1.cell? ⟨q,3,none⟩=some (.int .u64 (wz S 2)):=hB1.out.cell 3;have s4:W1.cell? ⟨q,4,none⟩=some (.int .u64 (wz S 3)):=hB1.out.cell 4;go_quiet (fail)
  have kd:Kq W1.heap.size [] W1 (W1.drewN nq):=(Kq.refl _).drewN _;have nd:a7 (W1.drewN nq) w.heap.size 221 (cR 0):=n1.out;generalize W1.drewN nq=WD at *;have fz:∀j,WD.frozen? ⟨w.heap.size,j,none⟩=false:=nd.frozen;have r0:WD.cell? ⟨w.heap.size,0,none⟩=some (.int .u64 (wz (BY 0) 0)):=nd.cell 0;have r1:WD.cell? ⟨w.heap.size,1,none⟩=some (.int .u64 (wz (BY 0) 1)):=nd.cell 1;have r2:WD.cell? ⟨w.heap.size,2,none⟩=some (.int .u64 (wz (BY 0) 2)):=nd.cell 2;have r3:WD.cell? ⟨w.heap.size,3,none⟩=some (.int .u64 (wz (BY 0) 3)):=nd.cell 3;have r4:WD.cell? ⟨w.heap.size,4,none⟩=some (.int .u64 (wz (BY 0) 4)):=nd.cell 4;have hm:=up (hM1.out.kq kd);have hk:=up ((k1.out.trans (kd.mono k1.out.kp.1 nofun)).mono (AI _) nofun:Kq w.heap.size [E.r] w WD);have hb:=up nd;clear kd nd c0 s1 s2 s3 s4;go_wp2;refine cO rfl rfl (dc hb.out) rfl ⟨rfl,hm.out.hZ hE (X:=[w.heap.size]) (λx hx=> ?_) (ba (Kq.refl _) λ_=>x5.2 rfl),ba hk.out λh=>absurd h (by omega)⟩;obtain rfl:=x5.1 hx;exact hnew.out
theorem JR:∀n,n<256->(n&&&2==0)=decide (n/2%2=0):=by decide+kernel
theorem Hi:∀n,n<256->(n&&&2 !=0)=decide (n/2%2=1):=by decide+kernel
theorem get_at(s:ByteArray)(i:Nat)(h):s.get! i=s[i]:=by
 show s.data[i]! =_;rw[getElem!_pos s.data i h];rfl
theorem FE{M i}(hf:M.f<256)(he:M.e<256)(hi:i<=M.s.size):wG M false i=(decide (i=0)&&decide (M.e%2=0)||decide (M.f/2%2=1)&&decide (0<i)&&M.s.get! (i-1)==10):=by
 grind [Hi,wG]
theorem Ks{M i}(hf:M.f<256)(he:M.e<256)(hi:i<=M.s.size):wG M true i=(decide (i=M.s.size)&&decide (M.e/2%2=0)||decide (M.f/2%2=1)&&decide (i<M.s.size)&&M.s.get! i==10):=by
 grind [JR,wG]
theorem BF{E}(hE:fu E){id fin q i w}(hM:cI E w)(hB:a7 w q 304 #[.int .i64 id,.bool fin])(hi:i<=E.M.s.size):
 Calls PM 246 #[.pointer (some ⟨q,0,none⟩),.pointer (some ⟨E.m,0,none⟩),.int .i64 i] w (iH E i (bv E.M (.edge id fin) i) w):=by
 rw[bv];have hsz:=hE.size;have hlm:=hM.blk.lt;have h8:=hB.lt;have Z:=dz;have k1:Kq w.heap.size [] w (w.alloc (.cells #[.int .u64 0,.int .u64 0,.int .u64 0,.int .u64 0,.int .u64 0] 221)):=(Kq.refl w).alloc (AI _) _;have n1:a7 (w.alloc (.cells #[.int .u64 0,.int .u64 0,.int .u64 0,.int .u64 0,.int .u64 0] 221)) w.heap.size 221 (cR 0):=by rw[Z];exact a7.new w 221 _
 clear Z;have hM1:=up (hM.kq k1);have hB1:=up (hB.kq k1 h8 AS);have hlr:=(AT.1 hM.map.choose_spec.choose_spec.1).1;have hnew:Hid (w.heap.size≠E.m/\w.heap.size≠E.r/\¬ E.S w.heap.size):=up ⟨by omega,by omega,λh=>by have:=hE.low _ h;omega⟩;have e1:bits .and .u8 (E.M.e:Int) 1=if E.M.e%2=1 then 1 else 0:=Dr _ hE.e
 have e2:bits .and .u8 (E.M.e:Int) 2=if E.M.e/2%2=1 then 2 else 0:=tA _ hE.e
 have e3:bits .and .u8 (E.M.f:Int) 2=if E.M.f/2%2=1 then 2 else 0:=tA _ hE.f
 have h5:=FE hE.f hE.e hi;have h6:=Ks hE.f hE.e hi;have h7:=up hM;have hB':=up hB;clear hlr hM hB;replace k1:=up k1;replace n1:=up n1;have c0:w.cell? ⟨E.m,0,none⟩=some (.string E.M.s):=h7.out.blk.cell 0;have c1:w.cell? ⟨E.m,1,none⟩=some (.int .u8 E.M.f):=h7.out.blk.cell 1;have c2:w.cell? ⟨E.m,2,none⟩=some (.int .u8 E.M.e):=h7.out.blk.cell 2;have s1:w.cell? ⟨q,1,none⟩=some (.bool fin):=hB'.out.cell 1;have hA:∀w1,a7 w1 w.heap.size 221 (cR 0)->Calls PM 237 #[.pointer (some ⟨w.heap.size,0,none⟩),.int .i64 i] w1 λe w'=>e= .returned (.tuple #[])/\a7 w' w.heap.size 221 (cR (1<<<i))/\Kq w1.heap.size [w.heap.size] w1 w':=λw1 hb=>by
  have:=oW w.heap.size i 0 w1 (by omega) hb;rw[SY]at this;exact this
 have hff:=hE.f;have hee:=hE.e;replace hnew:=hnew;cases fin
 .clear h6 e2;rw[h5];clear h5;by_cases h0:i=0
  .have a0:((i:Int)==0)=true:=by simp[h0]
   have g0:decide (0<=(i:Int)-1)=false:=by simp[h0]
   have g1:decide (1<=(i:Int))=false:=by simp[h0]
   by_cases h1:E.M.e%2=1
   .rw[if_pos h1]at e1;rw[if_neg (by simp;omega)];clear h1 h0;by_cases h2:E.M.f/2%2=1
    .rw[if_pos h2]at e3;clear h2;go_enter (PM.func Tryz.func246 (by decide)),Tryz.ntmps246
     go_wp2_with (first |(go_at_call 237;refine(hA _ n1.out).mono ?_;rintro e w3 ⟨rfl,hb,k3⟩;have fz:∀j,w3.frozen? ⟨w.heap.size,j,none⟩=false:=hb.frozen;have r0:w3.cell? ⟨w.heap.size,0,none⟩=some (.int .u64 (wz (1<<<i).testBit 0)):=hb.cell 0;have r1:w3.cell? ⟨w.heap.size,1,none⟩=some (.int .u64 (wz (1<<<i).testBit 1)):=hb.cell 1;have r2:w3.cell? ⟨w.heap.size,2,none⟩=some (.int .u64 (wz (1<<<i).testBit 2)):=hb.cell 2;have r3:w3.cell? ⟨w.heap.size,3,none⟩=some (.int .u64 (wz (1<<<i).testBit 3)):=hb.cell 3;have r4:w3.cell? ⟨w.heap.size,4,none⟩=some (.int .u64 (wz (1<<<i).testBit 4)):=hb.cell 4;have hb':=up hb;clear hb)|fail)
     refine cO rfl rfl (a7.new w 221 _) rfl ⟨by rw[show ep 0= .agg (cR 0)from rfl,dz],hM1.out,k1.out.mono (AI _) nofun⟩
    .rw[if_neg h2]at e3;clear h2;go_enter (PM.func Tryz.func246 (by decide)),Tryz.ntmps246
     go_wp2_with (first |(go_at_call 237;refine(hA _ n1.out).mono ?_;rintro e w3 ⟨rfl,hb,k3⟩;have fz:∀j,w3.frozen? ⟨w.heap.size,j,none⟩=false:=hb.frozen;have r0:w3.cell? ⟨w.heap.size,0,none⟩=some (.int .u64 (wz (1<<<i).testBit 0)):=hb.cell 0;have r1:w3.cell? ⟨w.heap.size,1,none⟩=some (.int .u64 (wz (1<<<i).testBit 1)):=hb.cell 1;have r2:w3.cell? ⟨w.heap.size,2,none⟩=some (.int .u64 (wz (1<<<i).testBit 2)):=hb.cell 2;have r3:w3.cell? ⟨w.heap.size,3,none⟩=some (.int .u64 (wz (1<<<i).testBit 3)):=hb.cell 3;have r4:w3.cell? ⟨w.heap.size,4,none⟩=some (.int .u64 (wz (1<<<i).testBit 4)):=hb.cell 4;have hb':=up hb;clear hb)|fail)
     refine cO rfl rfl (a7.new w 221 _) rfl ⟨by rw[show ep 0= .agg (cR 0)from rfl,dz],hM1.out,k1.out.mono (AI _) nofun⟩
   .rw[if_neg h1]at e1;rw[if_pos (by simp;omega)];clear h1 e3 h0;go_enter (PM.func Tryz.func246 (by decide)),Tryz.ntmps246
    go_wp2_with (first |(go_at_call 237;refine(hA _ n1.out).mono ?_;rintro e w3 ⟨rfl,hb,k3⟩;have fz:∀j,w3.frozen? ⟨w.heap.size,j,none⟩=false:=hb.frozen;have r0:w3.cell? ⟨w.heap.size,0,none⟩=some (.int .u64 (wz (1<<<i).testBit 0)):=hb.cell 0;have r1:w3.cell? ⟨w.heap.size,1,none⟩=some (.int .u64 (wz (1<<<i).testBit 1)):=hb.cell 1;have r2:w3.cell? ⟨w.heap.size,2,none⟩=some (.int .u64 (wz (1<<<i).testBit 2)):=hb.cell 2;have r3:w3.cell? ⟨w.heap.size,3,none⟩=some (.int .u64 (wz (1<<<i).testBit 3)):=hb.cell 3;have r4:w3.cell? ⟨w.heap.size,4,none⟩=some (.int .u64 (wz (1<<<i).testBit 4)):=hb.cell 4;have hb':=up hb;clear hb)|fail)
    refine cO rfl rfl (dc hb'.out) rfl ⟨rfl,(hM1.out.hZ hE (X:=[w.heap.size]) (λx hx=>by obtain rfl:=x5.1 hx;exact hnew.out) k3).hZ hE (X:=[w.heap.size]) (λx hx=>by obtain rfl:=x5.1 hx;exact hnew.out) (ba (Kq.refl _) λ_=>x5.2 rfl),ba ((k1.out.mono (AI _) nofun).trans (k3.mono k1.out.kp.1 λx hx hlt=>absurd hlt (by rw[x5.1 hx];exact SC _))) λh=>absurd h (by omega)⟩
  .have a0:((i:Int)==0)=false:=by simp[h0]
   obtain⟨j,hj⟩:∃j,i=j+1:=⟨i-1,by omega⟩;have hje:(i:Int)-1=(j:Int):=by omega
   have hjl:j<E.M.s.size:=by omega
   have hg:E.M.s.get! (i-1)=E.M.s[j]:=by rw[show i-1=j from by omega];exact get_at _ _ hjl
   have hc8:=E.M.s[j].toNat_lt;rw[hg];have h4:0<i:=by omega
   replace hj:=up hj;clear hg e1;by_cases h2:E.M.f/2%2=1
   .rw[if_pos h2]at e3;by_cases h3:E.M.s[j]=10
    .have t1:((E.M.s[j].toNat:Int)==10)=true:=by rw[h3];rfl
     rw[if_pos (by rw[h3];simp[h2,h4])];clear h2 h0 h3 h4;go_enter PM.func Tryz.func246 (by decide),Tryz.ntmps246
     go_wp2_with (first |(go_at_call 237;refine(hA _ n1.out).mono ?_;rintro e w3 ⟨rfl,hb,k3⟩;have fz:∀j,w3.frozen? ⟨w.heap.size,j,none⟩=false:=hb.frozen;have r0:w3.cell? ⟨w.heap.size,0,none⟩=some (.int .u64 (wz (1<<<i).testBit 0)):=hb.cell 0;have r1:w3.cell? ⟨w.heap.size,1,none⟩=some (.int .u64 (wz (1<<<i).testBit 1)):=hb.cell 1;have r2:w3.cell? ⟨w.heap.size,2,none⟩=some (.int .u64 (wz (1<<<i).testBit 2)):=hb.cell 2;have r3:w3.cell? ⟨w.heap.size,3,none⟩=some (.int .u64 (wz (1<<<i).testBit 3)):=hb.cell 3;have r4:w3.cell? ⟨w.heap.size,4,none⟩=some (.int .u64 (wz (1<<<i).testBit 4)):=hb.cell 4;have hb':=up hb;clear hb)|fail)
     refine cO rfl rfl (dc hb'.out) rfl ⟨rfl,(hM1.out.hZ hE (X:=[w.heap.size]) (λx hx=>by obtain rfl:=x5.1 hx;exact hnew.out) k3).hZ hE (X:=[w.heap.size]) (λx hx=>by obtain rfl:=x5.1 hx;exact hnew.out) (ba (Kq.refl _) λ_=>x5.2 rfl),ba ((k1.out.mono (AI _) nofun).trans (k3.mono k1.out.kp.1 λx hx hlt=>absurd hlt (by rw[x5.1 hx];exact SC _))) λh=>absurd h (by omega)⟩
    .have t1:((E.M.s[j].toNat:Int)==10)=false:=by
      rw[beq_eq_false_iff_ne];intro h;exact h3 (U1.1 (by have h10:(10:UInt8).toNat=10:=rfl;omega))
     rw[if_neg (by simp[h0,h3])];clear h2 h0 h3 h4;go_enter PM.func Tryz.func246 (by decide),Tryz.ntmps246
     go_wp2_with (first |(go_at_call 237;refine(hA _ n1.out).mono ?_;rintro e w3 ⟨rfl,hb,k3⟩;have fz:∀j,w3.frozen? ⟨w.heap.size,j,none⟩=false:=hb.frozen;have r0:w3.cell? ⟨w.heap.size,0,none⟩=some (.int .u64 (wz (1<<<i).testBit 0)):=hb.cell 0;have r1:w3.cell? ⟨w.heap.size,1,none⟩=some (.int .u64 (wz (1<<<i).testBit 1)):=hb.cell 1;have r2:w3.cell? ⟨w.heap.size,2,none⟩=some (.int .u64 (wz (1<<<i).testBit 2)):=hb.cell 2;have r3:w3.cell? ⟨w.heap.size,3,none⟩=some (.int .u64 (wz (1<<<i).testBit 3)):=hb.cell 3;have r4:w3.cell? ⟨w.heap.size,4,none⟩=some (.int .u64 (wz (1<<<i).testBit 4)):=hb.cell 4;have hb':=up hb;clear hb)|fail)
     refine cO rfl rfl (a7.new w 221 _) rfl ⟨by rw[show ep 0= .agg (cR 0)from rfl,dz],hM1.out,k1.out.mono (AI _) nofun⟩
   .rw[if_neg h2]at e3;rw[if_neg (by simp[h0,h2])];clear h2 h0 h4;go_enter PM.func Tryz.func246 (by decide),Tryz.ntmps246
    go_wp2_with (first |(go_at_call 237;refine(hA _ n1.out).mono ?_;rintro e w3 ⟨rfl,hb,k3⟩;have fz:∀j,w3.frozen? ⟨w.heap.size,j,none⟩=false:=hb.frozen;have r0:w3.cell? ⟨w.heap.size,0,none⟩=some (.int .u64 (wz (1<<<i).testBit 0)):=hb.cell 0;have r1:w3.cell? ⟨w.heap.size,1,none⟩=some (.int .u64 (wz (1<<<i).testBit 1)):=hb.cell 1;have r2:w3.cell? ⟨w.heap.size,2,none⟩=some (.int .u64 (wz (1<<<i).testBit 2)):=hb.cell 2;have r3:w3.cell? ⟨w.heap.size,3,none⟩=some (.int .u64 (wz (1<<<i).testBit 3)):=hb.cell 3;have r4:w3.cell? ⟨w.heap.size,4,none⟩=some (.int .u64 (wz (1<<<i).testBit 4)):=hb.cell 4;have hb':=up hb;clear hb)|fail)
    refine cO rfl rfl (a7.new w 221 _) rfl ⟨by rw[show ep 0= .agg (cR 0)from rfl,dz],hM1.out,k1.out.mono (AI _) nofun⟩
 .clear h5 e1;rw[h6];clear h6;by_cases h0:i=E.M.s.size
  .have a0:((i:Int)==(E.M.s.size:Int))=true:=by simp[h0]
   have l0:decide (i<E.M.s.size)=false:=by simp[h0]
   by_cases h1:E.M.e/2%2=1
   .rw[if_pos h1]at e2;rw[if_neg (by simp[h0,h1])];clear h1 h0;by_cases h2:E.M.f/2%2=1
    .rw[if_pos h2]at e3;clear h2;go_enter PM.func Tryz.func246 (by decide),Tryz.ntmps246
     go_wp2_with (first |(go_at_call 237;refine(hA _ n1.out).mono ?_;rintro e w3 ⟨rfl,hb,k3⟩;have fz:∀j,w3.frozen? ⟨w.heap.size,j,none⟩=false:=hb.frozen;have r0:w3.cell? ⟨w.heap.size,0,none⟩=some (.int .u64 (wz (1<<<i).testBit 0)):=hb.cell 0;have r1:w3.cell? ⟨w.heap.size,1,none⟩=some (.int .u64 (wz (1<<<i).testBit 1)):=hb.cell 1;have r2:w3.cell? ⟨w.heap.size,2,none⟩=some (.int .u64 (wz (1<<<i).testBit 2)):=hb.cell 2;have r3:w3.cell? ⟨w.heap.size,3,none⟩=some (.int .u64 (wz (1<<<i).testBit 3)):=hb.cell 3;have r4:w3.cell? ⟨w.heap.size,4,none⟩=some (.int .u64 (wz (1<<<i).testBit 4)):=hb.cell 4;have hb':=up hb;clear hb)|fail)
     refine cO rfl rfl (a7.new w 221 _) rfl ⟨by rw[show ep 0= .agg (cR 0)from rfl,dz],hM1.out,k1.out.mono (AI _) nofun⟩
    .rw[if_neg h2]at e3;clear h2;go_enter PM.func Tryz.func246 (by decide),Tryz.ntmps246
     go_wp2_with (first |(go_at_call 237;refine(hA _ n1.out).mono ?_;rintro e w3 ⟨rfl,hb,k3⟩;have fz:∀j,w3.frozen? ⟨w.heap.size,j,none⟩=false:=hb.frozen;have r0:w3.cell? ⟨w.heap.size,0,none⟩=some (.int .u64 (wz (1<<<i).testBit 0)):=hb.cell 0;have r1:w3.cell? ⟨w.heap.size,1,none⟩=some (.int .u64 (wz (1<<<i).testBit 1)):=hb.cell 1;have r2:w3.cell? ⟨w.heap.size,2,none⟩=some (.int .u64 (wz (1<<<i).testBit 2)):=hb.cell 2;have r3:w3.cell? ⟨w.heap.size,3,none⟩=some (.int .u64 (wz (1<<<i).testBit 3)):=hb.cell 3;have r4:w3.cell? ⟨w.heap.size,4,none⟩=some (.int .u64 (wz (1<<<i).testBit 4)):=hb.cell 4;have hb':=up hb;clear hb)|fail)
     refine cO rfl rfl (a7.new w 221 _) rfl ⟨by rw[show ep 0= .agg (cR 0)from rfl,dz],hM1.out,k1.out.mono (AI _) nofun⟩
   .rw[if_neg h1]at e2;rw[if_pos (by simp[h0];omega)];clear h1 e3 h0 l0;go_enter PM.func Tryz.func246 (by decide),Tryz.ntmps246
    go_wp2_with (first |(go_at_call 237;refine(hA _ n1.out).mono ?_;rintro e w3 ⟨rfl,hb,k3⟩;have fz:∀j,w3.frozen? ⟨w.heap.size,j,none⟩=false:=hb.frozen;have r0:w3.cell? ⟨w.heap.size,0,none⟩=some (.int .u64 (wz (1<<<i).testBit 0)):=hb.cell 0;have r1:w3.cell? ⟨w.heap.size,1,none⟩=some (.int .u64 (wz (1<<<i).testBit 1)):=hb.cell 1;have r2:w3.cell? ⟨w.heap.size,2,none⟩=some (.int .u64 (wz (1<<<i).testBit 2)):=hb.cell 2;have r3:w3.cell? ⟨w.heap.size,3,none⟩=some (.int .u64 (wz (1<<<i).testBit 3)):=hb.cell 3;have r4:w3.cell? ⟨w.heap.size,4,none⟩=some (.int .u64 (wz (1<<<i).testBit 4)):=hb.cell 4;have hb':=up hb;clear hb)|fail)
    refine cO rfl rfl (dc hb'.out) rfl ⟨rfl,(hM1.out.hZ hE (X:=[w.heap.size]) (λx hx=>by obtain rfl:=x5.1 hx;exact hnew.out) k3).hZ hE (X:=[w.heap.size]) (λx hx=>by obtain rfl:=x5.1 hx;exact hnew.out) (ba (Kq.refl _) λ_=>x5.2 rfl),ba ((k1.out.mono (AI _) nofun).trans (k3.mono k1.out.kp.1 λx hx hlt=>absurd hlt (by rw[x5.1 hx];exact SC _))) λh=>absurd h (by omega)⟩
  .have a0:((i:Int)==(E.M.s.size:Int))=false:=by simp;omega
   have hjl:i<E.M.s.size:=by omega
   have hg:E.M.s.get! i=E.M.s[i]:=get_at _ _ hjl;have hc8:=E.M.s[i].toNat_lt;rw[hg];clear hg e2;by_cases h2:E.M.f/2%2=1
   .rw[if_pos h2]at e3;by_cases h3:E.M.s[i]=10
    .have t1:((E.M.s[i].toNat:Int)==10)=true:=by rw[h3];rfl
     rw[if_pos (by rw[h3];simp[h2,hjl])];clear h2 h0 h3;go_enter PM.func Tryz.func246 (by decide),Tryz.ntmps246
     go_wp2_with (first |(go_at_call 237;refine(hA _ n1.out).mono ?_;rintro e w3 ⟨rfl,hb,k3⟩;have fz:∀j,w3.frozen? ⟨w.heap.size,j,none⟩=false:=hb.frozen;have r0:w3.cell? ⟨w.heap.size,0,none⟩=some (.int .u64 (wz (1<<<i).testBit 0)):=hb.cell 0;have r1:w3.cell? ⟨w.heap.size,1,none⟩=some (.int .u64 (wz (1<<<i).testBit 1)):=hb.cell 1;have r2:w3.cell? ⟨w.heap.size,2,none⟩=some (.int .u64 (wz (1<<<i).testBit 2)):=hb.cell 2;have r3:w3.cell? ⟨w.heap.size,3,none⟩=some (.int .u64 (wz (1<<<i).testBit 3)):=hb.cell 3;have r4:w3.cell? ⟨w.heap.size,4,none⟩=some (.int .u64 (wz (1<<<i).testBit 4)):=hb.cell 4;have hb':=up hb;clear hb)|fail)
     refine cO rfl rfl (dc hb'.out) rfl ⟨rfl,(hM1.out.hZ hE (X:=[w.heap.size]) (λx hx=>by obtain rfl:=x5.1 hx;exact hnew.out) k3).hZ hE (X:=[w.heap.size]) (λx hx=>by obtain rfl:=x5.1 hx;exact hnew.out) (ba (Kq.refl _) λ_=>x5.2 rfl),ba ((k1.out.mono (AI _) nofun).trans (k3.mono k1.out.kp.1 λx hx hlt=>absurd hlt (by rw[x5.1 hx];exact SC _))) λh=>absurd h (by omega)⟩
    .have t1:((E.M.s[i].toNat:Int)==10)=false:=by
      rw[beq_eq_false_iff_ne];intro h;exact h3 (U1.1 (by have h10:(10:UInt8).toNat=10:=rfl;omega))
     rw[if_neg (by simp[h0,h3])];clear h2 h0 h3;go_enter PM.func Tryz.func246 (by decide),Tryz.ntmps246
     go_wp2_with (first |(go_at_call 237;refine(hA _ n1.out).mono ?_;rintro e w3 ⟨rfl,hb,k3⟩;have fz:∀j,w3.frozen? ⟨w.heap.size,j,none⟩=false:=hb.frozen;have r0:w3.cell? ⟨w.heap.size,0,none⟩=some (.int .u64 (wz (1<<<i).testBit 0)):=hb.cell 0;have r1:w3.cell? ⟨w.heap.size,1,none⟩=some (.int .u64 (wz (1<<<i).testBit 1)):=hb.cell 1;have r2:w3.cell? ⟨w.heap.size,2,none⟩=some (.int .u64 (wz (1<<<i).testBit 2)):=hb.cell 2;have r3:w3.cell? ⟨w.heap.size,3,none⟩=some (.int .u64 (wz (1<<<i).testBit 3)):=hb.cell 3;have r4:w3.cell? ⟨w.heap.size,4,none⟩=some (.int .u64 (wz (1<<<i).testBit 4)):=hb.cell 4;have hb':=up hb;clear hb)|fail)
     refine cO rfl rfl (a7.new w 221 _) rfl ⟨by rw[show ep 0= .agg (cR 0)from rfl,dz],hM1.out,k1.out.mono (AI _) nofun⟩
   .rw[if_neg h2]at e3;rw[if_neg (by simp[h0,h2])];clear h2 h0;go_enter PM.func Tryz.func246 (by decide),Tryz.ntmps246
    go_wp2_with (first |(go_at_call 237;refine(hA _ n1.out).mono ?_;rintro e w3 ⟨rfl,hb,k3⟩;have fz:∀j,w3.frozen? ⟨w.heap.size,j,none⟩=false:=hb.frozen;have r0:w3.cell? ⟨w.heap.size,0,none⟩=some (.int .u64 (wz (1<<<i).testBit 0)):=hb.cell 0;have r1:w3.cell? ⟨w.heap.size,1,none⟩=some (.int .u64 (wz (1<<<i).testBit 1)):=hb.cell 1;have r2:w3.cell? ⟨w.heap.size,2,none⟩=some (.int .u64 (wz (1<<<i).testBit 2)):=hb.cell 2;have r3:w3.cell? ⟨w.heap.size,3,none⟩=some (.int .u64 (wz (1<<<i).testBit 3)):=hb.cell 3;have r4:w3.cell? ⟨w.heap.size,4,none⟩=some (.int .u64 (wz (1<<<i).testBit 4)):=hb.cell 4;have hb':=up hb;clear hb)|fail)
    refine cO rfl rfl (a7.new w 221 _) rfl ⟨by rw[show ep 0= .agg (cR 0)from rfl,dz],hM1.out,k1.out.mono (AI _) nofun⟩
def bn:Nd->Tz
 | .set .. =>305
 | .edge .. =>302
 | .seq .. =>268
 | .alt .. =>244
 | .grp .. =>313
 | .rep .. =>286
def mq:Nd->Nat
 | .set .. =>249
 | .edge .. =>246
 | .seq .. =>233
 | .alt .. =>226
 | .grp .. =>252
 | .rep .. =>240
theorem ed{w S v nd}(h:Repr w S v nd):∃q,v= .iface (bn nd) (.pointer (some ⟨q,0,none⟩)):=by cases h<;>exact⟨_,rfl⟩
theorem fN(nd a w):(method 455 (bn nd) (.pointer (some a)) "posix/tree.ends").run PM w= .ok (mq nd,.pointer (some a)) w:=by cases nd<;>kernel_rfl
theorem gu(nd a w):(nilAhead 455 (bn nd) (.pointer (some a)) "posix/tree.ends").run PM w= .ok (some false) w:=by cases nd<;>kernel_rfl
theorem i9(nd args w):(IN (mq nd) args).run PM w= .ok (.enter (mq nd) args) w:=by cases nd<;>simp[mq,go_sem]
def gy(E:ME)(nd:Nd):Prop:=∀(w:If)(q i:Nat),cI E w->Repr w E.S (.iface (bn nd) (.pointer (some ⟨q,0,none⟩))) nd->i<=E.M.s.size->Calls PM (mq nd) #[.pointer (some ⟨q,0,none⟩),.pointer (some ⟨E.m,0,none⟩),.int .i64 i] w (iH E i (bv E.M nd i) w)
theorem Db{E}(hE:fu E){id num k}(hk:gy E k):gy E (.grp id k num):=by
 intro w q i hM hR hi;cases hR with
 |grp hS hB hR=>
 obtain⟨p,rfl⟩:=ed hR;have h1:=fN k ⟨p,0,none⟩;have h2:=gu k ⟨p,0,none⟩;have h3:=i9 k;have hlq:=hB.lt;have c1:w.cell? ⟨q,1,none⟩=some (.iface (bn k) (.pointer (some ⟨p,0,none⟩))):=hB.cell 1;have k1:Kq w.heap.size [] w (w.alloc (.cells #[.int .u64 0,.int .u64 0,.int .u64 0,.int .u64 0,.int .u64 0] 221)):=(Kq.refl w).alloc (AI _) _;have n1:a7 (w.alloc (.cells #[.int .u64 0,.int .u64 0,.int .u64 0,.int .u64 0,.int .u64 0] 221)) w.heap.size 221 #[.int .u64 0,.int .u64 0,.int .u64 0,.int .u64 0,.int .u64 0]:=a7.new w 221 _;have hlr:=(AT.1 hM.map.choose_spec.choose_spec.1).1;have hlm:=hM.blk.lt;have hnew:Hid (w.heap.size≠E.m/\w.heap.size≠E.r/\¬ E.S w.heap.size):=up ⟨by omega,by omega,λh=>by have:=hE.low _ h;omega⟩;have hC:=hk _ p i (hM.kq k1) (hR.keep λb hb hlt=>k1.kp.2 b hlt AS) hi;rw[bv];show Calls PM 252 _ _ _;replace hC:=up hC;replace k1:=up k1;replace n1:=up n1;clear hM hR hk hB hS hlr;generalize mq k=fk at *;generalize bn k=tk at *;generalize bv E.M k i=P at *;go_enter PM.func Tryz.func252 (by decide),Tryz.ntmps252
 go_wp2;refine hC.out.mono ?_;rintro e w2 ⟨rfl,h0,k2⟩;have hb:=n1.out.kq k2 n1.out.lt λhx=>hnew.out.2.1 (x5.1 hx)
 have hk:=up ((k1.out.mono (AI _) nofun:Kq w.heap.size [E.r] w _).trans (k2.mono k1.out.kp.1 λ_ h _=>h));have hm:=up h0;clear hC k1 n1 h0 k2;have fz:∀j,w2.frozen? ⟨w.heap.size,j,none⟩=false:=hb.frozen;have r0:w2.cell? ⟨w.heap.size,0,none⟩=some (.int .u64 0):=hb.cell 0;have r1:w2.cell? ⟨w.heap.size,1,none⟩=some (.int .u64 0):=hb.cell 1;have r2:w2.cell? ⟨w.heap.size,2,none⟩=some (.int .u64 0):=hb.cell 2;have r3:w2.cell? ⟨w.heap.size,3,none⟩=some (.int .u64 0):=hb.cell 3;have r4:w2.cell? ⟨w.heap.size,4,none⟩=some (.int .u64 0):=hb.cell 4;replace hb:=up hb;unfold ep cR fU;go_wp2;refine cO rfl rfl (dc hb.out) rfl ⟨rfl,hm.out.hZ hE (X:=[w.heap.size]) (λx hx=> ?_) (ba (Kq.refl _) λ_=>x5.2 rfl),ba hk.out λh=>absurd h (by omega)⟩;obtain rfl:=x5.1 hx;exact hnew.out
end
section
open Go.RowKit
attribute [local go_sem] Ta
structure Caps(w:If)(g1 g2 g3 g4:Nat)(t:Tz)(q m d i:Nat):Prop where
 b1:a7 w g1 t #[.pointer (some ⟨q,0,none⟩)]
 b2:a7 w g2 3 #[.int .i64 d]
 b3:a7 w g3 174 #[.pointer (some ⟨m,0,none⟩)]
 b4:a7 w g4 3 #[.int .i64 i]
theorem Caps.kq{w w' B X g1 g2 g3 g4 t q m d i}(h:Caps w g1 g2 g3 g4 t q m d i)(hk:Kq B X w w')(hB:∀g∈[g1,g2,g3,g4],g<B/\g∉X):Caps w' g1 g2 g3 g4 t q m d i:=
 ⟨h.b1.kq hk (hB _ (by simp)).1 (hB _ (by simp)).2,h.b2.kq hk (hB _ (by simp)).1 (hB _ (by simp)).2,h.b3.kq hk (hB _ (by simp)).1 (hB _ (by simp)).2,h.b4.kq hk (hB _ (by simp)).1 (hB _ (by simp)).2⟩
theorem Caps.lt{w g1 g2 g3 g4 t q m d i}(h:Caps w g1 g2 g3 g4 t q m d i):∀g∈[g1,g2,g3,g4],g<w.heap.size:=λg hg=>by
 simp[OF]at hg;rcases hg with rfl|rfl|rfl|rfl
 .exact h.b1.lt
 .exact h.b2.lt
 .exact h.b3.lt
 .exact h.b4.lt
theorem o7{w sl vs}{d:Nat}{v}(h:w.ownsRow 0 86 1 sl vs.length vs)(hv:vs[d]?=some v):∃g cap cur,sl= .slice (some ⟨g,0,none⟩) vs.length cap/\a7 w g 86 cur/\cur[d]?=some v:=by
 obtain⟨h1,⟨rfl,h2⟩|⟨g,cap,cur,rfl,h3,h4,h5,h6,h7,h8⟩⟩:=h
 .have:=(SV.1 hv).1;omega
 .refine⟨g,cap,cur,rfl,h4,?_⟩;have hlt:=(SV.1 hv).1;rw[<- h8,List.getElem?_take_of_lt (by omega)]at hv;rw[<- TL];omega
structure EB(E:ME)(nd:Nd)(tq:Tz)(q g1 g2 g3 g4 d i:Nat)(w0 W:If):Prop where
 mem:cI E W
 rep:Repr W E.S (.iface tq (.pointer (some ⟨q,0,none⟩))) nd
 caps:Caps W g1 g2 g3 g4 tq q E.m d i
 kq:Kq w0.heap.size [E.r] w0 W
 lt:∀g∈[g1,g2,g3,g4],g<w0.heap.size/\g≠E.r
 new:E.m<w0.heap.size/\E.r<w0.heap.size/\∀b,E.S b->b<w0.heap.size
theorem EB.start{E}(hE:fu E){nd tq q g1 g2 g3 g4 d i w}(hM:cI E w)(hR:Repr w E.S (.iface tq (.pointer (some ⟨q,0,none⟩))) nd)(hc:Caps w g1 g2 g3 g4 tq q E.m d i):EB E nd tq q g1 g2 g3 g4 d i w w:=by
 obtain⟨es,clock,hm,_⟩:=hM.map;refine⟨hM,hR,hc,.refl _,λg hg=>⟨hc.lt g hg,?_⟩,hM.blk.lt,(AT.1 hm).1,λb hb=>Nat.lt_trans (hE.low b hb) hM.blk.lt⟩;rintro rfl;have no:∀{t c},¬ a7 w E.r t c:=λ{t c} h=>absurd (h.symm.trans hm) (by simp)
 simp[OF]at hg;rcases hg with h|h|h|h
 .exact no (h▸hc.b1)
 .exact no (h▸hc.b2)
 .exact no (h▸hc.b3)
 .exact no (h▸hc.b4)
section
variable{E:ME}{nd:Nd}{tq:Tz}{q g1 g2 g3 g4 d i:Nat}{w0 W W':If}
theorem EB.own(h:EB E nd tq q g1 g2 g3 g4 d i w0 W){B X}(hB:w0.heap.size<=B)(hX:∀x∈X,w0.heap.size<=x)(hk:Kq B X W W'):EB E nd tq q g1 g2 g3 g4 d i w0 W':=by
 have hn:=h.new;have st:∀b,b<w0.heap.size->W'.heap[b]?=W.heap[b]?:=λb hb=>hk.kp.2 b (by omega) λhx=>by have:=hX b hx;omega
 have bl:∀{b t c},b<w0.heap.size->a7 W b t c->a7 W' b t c:=λhb hB=>(st _ hb).trans hB
 obtain⟨es,clock,h1,h2⟩:=h.mem.map;obtain⟨v,hv⟩:=h.mem.root;have hl:=λg hg=>(h.lt g hg).1
 exact⟨⟨bl hn.1 h.mem.blk,⟨es,clock,(st _ hn.2.1).trans h1,h2⟩,v,hv.keep λb hb _=>st b (hn.2.2 b hb)⟩,h.rep.keep λb hb _=>st b (hn.2.2 b hb),
  ⟨bl (hl _ (by simp)) h.caps.b1,bl (hl _ (by simp)) h.caps.b2,bl (hl _ (by simp)) h.caps.b3,bl (hl _ (by simp)) h.caps.b4⟩,h.kq.trans (hk.mono hB λx hx hlt=>absurd hlt (Nat.not_lt.2 (hX x hx))),h.lt,hn⟩
theorem EB.asked(hE:fu E)(h:EB E nd tq q g1 g2 g3 g4 d i w0 W)(hM:cI E W')(hk:Kq W.heap.size [E.r] W W'):EB E nd tq q g1 g2 g3 g4 d i w0 W':=by
 have hz:=h.kq.kp.1;refine⟨hM,h.rep.keep λb hb hlt=>hk.kp.2 b hlt λhx=>hE.away (x5.1 hx▸hb),h.caps.kq hk λg hg=>⟨T1 (h.lt g hg).1 hz,λhx=>(h.lt g hg).2 (x5.1 hx)⟩,h.kq.trans (hk.mono hz λ_ h _=>h),h.lt,h.new⟩
theorem EB.old(hE:fu E)(h:EB E nd tq q g1 g2 g3 g4 d i w0 W):∀b,E.S b->W.heap[b]?=w0.heap[b]?:=λb hb=>h.kq.kp.2 b (h.new.2.2 b hb) λhx=>hE.away (x5.1 hx▸hb)
theorem EB.stay(h:EB E nd tq q g1 g2 g3 g4 d i w0 W){b t c}(hb:a7 W b t c)(hlo:w0.heap.size<=b)(hk:Kq W.heap.size [E.r] W W'):a7 W' b t c:=hb.kq hk hb.lt λhx=>by
 have:=h.new.2.1;rw[x5.1 hx]at hlo;omega
end
theorem Ax{fn p n D g P R a W}(h:fn.results=#[.cell p 221])(hp:a.tmps.getD p undef= .pointer (some ⟨g,0,none⟩))(hg:a7 W g 221 (cR P))
 (hd:a.defers=[{target:=.collected D,args:=#[]}]) (hD:W.heap[D]?=some (.deferred (some []))) (hR:a7 (W.putObj D (.deferred none)) g 221 (cR P)->R (.returned (ep P)) (W.putObj D (.deferred none))):bodyPostM SX n PM fn R .ret a W:=by
 show LeavesInM _ _ _ _ _ _ _ _ _;rw[hd];refine⟨by simp,.inl ⟨D,_,rfl,run_takeDeferred hD,?_⟩⟩;have h0:a7 (W.putObj D (.deferred none)) g 221 (cR P):=(Sz (by rintro rfl;exact absurd (hg.symm.trans hD) (by simp))).trans hg;obtain⟨k,e,hu⟩:=uQ;exact⟨_,results_cell_row h a.tmps _ g _ _ _ _ hp h0 hu rfl xQ,hR h0⟩
theorem At{E}(hE:fu E){id ks d i q g1 g2 g3 g4 w k}(hd:ks[d]?=some k)(hk:gy E k)
 (hn:Nd.seq id ks∈subs E.R) (hi:i<=E.M.s.size) (hM:cI E w) (hR:Repr w E.S (.iface 268 (.pointer (some ⟨q,0,none⟩))) (.seq id ks)) (hc:Caps w g1 g2 g3 g4 268 q E.m d i)
 (hr:∀w1 c,cI E w1->Repr w1 E.S (.iface 268 (.pointer (some ⟨q,0,none⟩))) (.seq id ks)->c<=E.M.s.size->Calls PM 236 #[.pointer (some ⟨q,0,none⟩),.pointer (some ⟨E.m,0,none⟩),.int .i64 ((d+1:Nat):Int),.int .i64 c] w1 (iH E c (dL E.M (ks.drop (d+1)) c) w1)):
 Calls PM 238 #[.pointer (some ⟨g1,0,none⟩),.pointer (some ⟨g2,0,none⟩),.pointer (some ⟨g3,0,none⟩),.pointer (some ⟨g4,0,none⟩)] w (iH E i (dL E.M (ks.drop d) i) w):=by
 refine callsIn_wide (n:=4).1 (callsIn_of_wp_marks (PM.func Tryz.func238 (by decide)) rfl trivial ?_ rfl);simp only[Tryz.ntmps238,SF,SH,SK,SP,SO,Sx,Sw,SG,Sy,SJ,SI];refine wpIn_wide.2 ?_;obtain⟨sl,vs,hB,hrow,hS,hlen,hkid⟩:∃sl vs,a7 w q 269 #[.int .i64 id,sl]/\w.ownsRow 0 86 1 sl vs.length vs/\(∀b,sl.ownBlock=some b->E.S b)/\vs.length=ks.length/\∀(i:Nat) v k,vs[i]?=some v->ks[i]?=some k->Repr w E.S v k:=by
  cases hR with
  |seq a b c d e f=>exact⟨_,_,b,c,d,e,f⟩
 have hdl:=(SV.1 hd).1;have hP:dL E.M (ks.drop d) i=dN (dL E.M (ks.drop (d+1))) (bv E.M k i) 320:=by
  rw[Su hdl,dL,(SV.1 hd).2]
 rw[hP];clear hP;have h9:vs[d]?=some vs[d]:=By (by omega);obtain⟨g,cap,cur,rfl,hG,h7⟩:=o7 hrow h9;have hRk:=hkid d _ _ h9 hd;obtain⟨p,hp⟩:=ed hRk;rw[hp]at h7 hRk;have k1:Kq w.heap.size [] w (w.alloc (.cells #[.int .u64 0,.int .u64 0,.int .u64 0,.int .u64 0,.int .u64 0] 221)):=(Kq.refl w).alloc (AI _) _;have n1:a7 (w.alloc (.cells #[.int .u64 0,.int .u64 0,.int .u64 0,.int .u64 0,.int .u64 0] 221)) w.heap.size 221 (cR 0):=by rw[dz];exact a7.new w 221 _
 have h1:=fN k ⟨p,0,none⟩;have h2:=gu k ⟨p,0,none⟩;have h3:=i9 k;have E1:=(EB.start hE hM hR hc).own (X:=[]) (AI _) (λ_ h=>nomatch h) k1;go_wp2;generalize w.alloc (.cells #[.int .u64 0,.int .u64 0,.int .u64 0,.int .u64 0,.int .u64 0] 221)=W1 at k1 n1 E1 ⊢;have hRk1:=hRk.keep (w':=W1) λb _ hlt=>k1.kp.2 b hlt AS
 have hB1:=hB.kq k1 hB.lt AS;have hG1:=hG.kq k1 hG.lt AS;have v1:W1.cell? ⟨g1,0,none⟩=some (.pointer (some ⟨q,0,none⟩)):=E1.caps.b1.cell 0;have v2:W1.cell? ⟨g2,0,none⟩=some (.int .i64 d):=E1.caps.b2.cell 0;have v3:W1.cell? ⟨g3,0,none⟩=some (.pointer (some ⟨E.m,0,none⟩)):=E1.caps.b3.cell 0;have v4:W1.cell? ⟨g4,0,none⟩=some (.int .i64 i):=E1.caps.b4.cell 0;have v5:W1.cell? ⟨q,1,none⟩=some (.slice (some ⟨g,0,none⟩) vs.length cap):=hB1.cell 1;have v6:W1.cell? ⟨g,d,none⟩=some (.iface (bn k) (.pointer (some ⟨p,0,none⟩))):=(hG1.cell d).trans h7;have hdv:d<vs.length:=by omega
 have hC:=hk W1.drew p i (E1.mem.kq (Kq.refl _).drew) (hRk1.keep λ_ _ _=>rfl) hi;replace E1:=E1.own (X:=[]) (AI _) (λ_ h=>nomatch h) (Kq.refl _).drew;replace n1:a7 W1.drew w.heap.size 221 (cR 0):=n1;replace hC:=up hC;replace E1:=up E1;replace n1:=up n1;replace hr:=up hr;have hks:=hE.kids id ks hn;clear hc hB hG hR hkid hrow hS hB1 hG1 h7 hRk hp hk hM h9 k1 hRk1;go_still_tail 9,by kernel_rfl
 change wpList _ _ _ _ _ W1.drew;go_wp2;refine hC.out.mono ?_;rintro e w2 ⟨rfl,h8,k2⟩;have E2:=up (E1.out.asked hE h8 k2);have n2:=up (E1.out.stay n1.out (AI _) k2);clear hC h8 k2 E1 n1 v1 v2 v3 v4 v5 v6 h1 h2 h3;go_wp2;have hw:=up (bZ E.M k i hi);refine wpIn_wide (n:=4).1 (qe (X:=[E.r,w.heap.size]) (t:=17) (p:=bv E.M k i) (by decide) rfl ?hX
  (λj W=>EB E (.seq id ks) 268 q g1 g2 g3 g4 d i w W/\∃r,a7 W w.heap.size 221 (cR r)/\r|||dN (dL E.M (ks.drop (d+1))) (bv E.M k i) j=dN (dL E.M (ks.drop (d+1))) (bv E.M k i) 320)
  (λ_ _ _=>False) ?hI (λ_ _ _ _ h _=>h) ?hs ?h0 ?a1 ?hassign ?hbody ?hdone λ_ _ _ _ _ h=>h.elim)
 case hassign=>
  intro l j W K hK;gi_wp2
  exact hK
 case hX=>
  intro x hx;have:=E2.out.new;have:=n2.out.lt;have:=E2.out.kq.kp.1;simp only[OF,AS,or_false]at hx;rcases hx with rfl|rfl<;>omega
 case hI=>
  rintro j W W' ⟨h4,r,h5,h6⟩ hk;have h2:=n2.out.lt;exact⟨h4.own (X:=[]) (Ty h2) (λ_ h=>nomatch h) hk,r,h5.kq hk h2 AS,h6⟩
 case hs=>
  rintro j W ⟨h4,r,h5,h6⟩ hb;refine⟨h4,r,h5,?_⟩;rw[<- h6,dN,if_neg (by rw[hb];simp),SY]
 case h0=>exact⟨E2.out,0,n2.out,by rw[SY]⟩
 case hdone=>
  rintro W ⟨h4,r,h5,h6⟩ hK;have hlt2:=n2.out.lt;rw[dN,TF]at h6;subst h6;have hb:=up h5;have hf:=up h4;clear h5 h4 hr;generalize dN (dL E.M (ks.drop (d+1))) (bv E.M k i) 320=P at *;have fz:∀j,W.frozen? ⟨w.heap.size,j,none⟩=false:=hb.out.frozen;have r0:W.cell? ⟨w.heap.size,0,none⟩=some (.int .u64 (wz P.testBit 0)):=hb.out.cell 0;have r1:W.cell? ⟨w.heap.size,1,none⟩=some (.int .u64 (wz P.testBit 1)):=hb.out.cell 1;have r2:W.cell? ⟨w.heap.size,2,none⟩=some (.int .u64 (wz P.testBit 2)):=hb.out.cell 2;have r3:W.cell? ⟨w.heap.size,3,none⟩=some (.int .u64 (wz P.testBit 3)):=hb.out.cell 3;have r4:W.cell? ⟨w.heap.size,4,none⟩=some (.int .u64 (wz P.testBit 4)):=hb.out.cell 4;replace hK:=up hK;go_wp2;have b5:=dc (q:=P) hb.out;have kf:=ba (q:=P) (g:=w.heap.size) (Kq.refl (B:=w2.heap.size+1) (X:=[w.heap.size]) W) λ_=>x5.2 rfl
  generalize TO _ _ _=WF at b5 kf ⊢;have hD:=(kf.kp.2 w2.heap.size (T6 _) λhx=>by have:=x5.1 hx;omega).trans hK.out;refine Ax rfl rfl b5 rfl hD λhg=> ?_
  have E4:=hf.out.own (X:=[w.heap.size]) E2.out.kq.kp.1 (λx hx=>by rw[x5.1 hx];exact AI _) ((kf.mono (TY _) λ_ h _=>h).put (l:=w2.heap.size) (λh=>absurd h (SC _)) (.deferred none));exact⟨rfl,E4.mem,E4.kq⟩
 case hbody=>
  rintro l j W hlt hj hb ⟨h4,r,h5,h6⟩;have hh:=(hw.out j hb).2;have hH:=hr.out W j h4.mem h4.rep hh;rw[show((d+1:Nat):Int)=(d:Int)+1 from by push_cast;rfl]at hH;replace hH:=up hH;have ha:=up h4;have he:=up h5;have v1:W.cell? ⟨g1,0,none⟩=some (.pointer (some ⟨q,0,none⟩)):=h4.caps.b1.cell 0;have v2:W.cell? ⟨g2,0,none⟩=some (.int .i64 d):=h4.caps.b2.cell 0;have v3:W.cell? ⟨g3,0,none⟩=some (.pointer (some ⟨E.m,0,none⟩)):=h4.caps.b3.cell 0;clear h4 h5;gi_wp2
  refine⟨trivial,(Ts l (callsIn_wide.2 hH.out)).mono ?_⟩;rintro e W2 ⟨rfl,h8,k2⟩;have E3:=up (ha.out.asked hE h8 k2);have n3:=up (ha.out.stay he.out (AI _) k2);have hJ:=r5 w.heap.size r (dL E.M (ks.drop (d+1)) j) W2 n3.out;replace hJ:=up hJ;replace k2:=up k2;clear v1 v2 v3 hH;gi_wp2
  refine⟨trivial,(Ts l (callsIn_wide.2 hJ.out)).mono ?_⟩;rintro e W3 ⟨rfl,b3,k3⟩;have z1:=n2.out.lt;have z2:=k2.out.kp.1;replace k3:=up k3;replace b3:=up b3;gi_wp2
  refine⟨(k2.out.mono (AI _) λx hx _=>by simp at hx ⊢;exact .inl hx).trans (k3.out.mono z2 λx hx _=>by simp at hx ⊢;exact .inr hx),E3.out.own (X:=[w.heap.size]) (by have:=E3.out.kq.kp.1;exact this) (λx hx=>by rw[x5.1 hx];exact AI _) k3.out,_,b3.out,?_⟩;rw[<- h6,dN,if_pos hb,TQ]
end
section
open Go.RowKit
abbrev fY:Array SW:=#[.int .u64 0,.int .u64 0,.int .u64 0,.int .u64 0,.int .u64 0]
theorem KL(w t q m d i):
 Caps (((((w.alloc (.cells #[.pointer (some ⟨q,0,none⟩)] t)).alloc (.cells #[.pointer (some ⟨m,0,none⟩)] 174)).alloc (.cells #[.int .i64 d] 3)).alloc (.cells #[.int .i64 i] 3)).alloc (.cells fY 221)) w.heap.size (w.heap.size+1+1) (w.heap.size+1) (w.heap.size+1+1+1) t q m d i/\
 a7 (((((w.alloc (.cells #[.pointer (some ⟨q,0,none⟩)] t)).alloc (.cells #[.pointer (some ⟨m,0,none⟩)] 174)).alloc (.cells #[.int .i64 d] 3)).alloc (.cells #[.int .i64 i] 3)).alloc (.cells fY 221)) (w.heap.size+1+1+1+1) 221 (cR 0)/\
 Kq w.heap.size [] w (((((w.alloc (.cells #[.pointer (some ⟨q,0,none⟩)] t)).alloc (.cells #[.pointer (some ⟨m,0,none⟩)] 174)).alloc (.cells #[.int .i64 d] 3)).alloc (.cells #[.int .i64 i] 3)).alloc (.cells fY 221)):=by
 have st:∀(W:If)(o:Obj){b:Nat}{t c},a7 W b t c->a7 (W.alloc o) b t c:=λW o{b t c} h=>h.alloc o
 have nw:∀(W:If)(t c)(n:Nat),W.heap.size=n->a7 (W.alloc (.cells c t)) n t c:=λW t c n h=>h▸a7.new W t c
 refine⟨⟨st _ _ (st _ _ (st _ _ (st _ _ (a7.new w t _)))),st _ _ (st _ _ (nw _ _ _ _ (by simp))),st _ _ (st _ _ (st _ _ (nw _ _ _ _ (by simp)))),st _ _ (nw _ _ _ _ (by simp))⟩,?_,(((((Kq.refl w).alloc (AI _) _).alloc (by simp) _).alloc (by simp) _).alloc (by simp) _).alloc (by simp) _⟩
 .simp[dz, *]
def KS(E:ME)(id:Int)(ks:List Nd)(d:Nat):Prop:=∀(w:If)(q i:Nat),cI E w->Repr w E.S (.iface 268 (.pointer (some ⟨q,0,none⟩))) (.seq id ks)->i<=E.M.s.size->
 Calls PM 236 #[.pointer (some ⟨q,0,none⟩),.pointer (some ⟨E.m,0,none⟩),.int .i64 d,.int .i64 i] w (iH E i (dL E.M (ks.drop d) i) w)
theorem cI.fresh{E w}(hE:fu E)(hM:cI E w):E.m<w.heap.size/\E.r<w.heap.size/\∀b,E.S b->b<w.heap.size:=by
 obtain⟨es,clock,h,_⟩:=hM.map;exact⟨hM.blk.lt,(AT.1 h).1,λb hb=>Nat.lt_trans (hE.low b hb) hM.blk.lt⟩
theorem nH{w:If}{sl vs}(h:w.ownsRow 0 86 1 sl vs.length vs):∃a cap,sl= .slice a vs.length cap:=by
 obtain⟨h1,⟨rfl,h2⟩|⟨g,cap,cur,rfl,_⟩⟩:=h<;>simp_all
theorem ul{E}(hE:fu E){id ks}(hk:∀k∈ks,gy E k)(hn:Nd.seq id ks∈subs E.R)(n):∀d,ks.length-d=n->d<=ks.length->KS E id ks d:=by
 induction n with
 |zero=>
  intro d hd hdl w q i hM hR hi;obtain rfl:d=ks.length:=by omega
  obtain⟨sl,vs,hB,hrow,hlen⟩:∃sl vs,a7 w q 269 #[.int .i64 id,sl]/\w.ownsRow 0 86 1 sl vs.length vs/\vs.length=ks.length:=by
   cases hR with
   |seq a b c d e f=>exact⟨_,_,b,c,e⟩
  obtain⟨g,cap,rfl⟩:=nH hrow;have hks:=hE.kids id ks hn;rw[hlen]at hB;have hP:dL E.M (ks.drop ks.length) i=1<<<i:=by rw[T7,dL]
  rw[hP];clear hP hrow;obtain⟨hc,n1,k1⟩:=KL w 268 q E.m ks.length i;go_enter PM.func Tryz.func236 (by decide),Tryz.ntmps236
  go_wp2;generalize T9 _ _=W1 at hc n1 k1 ⊢;have hM1:=hM.kq k1;have hB1:=hB.kq k1 hB.lt AS;have fr:=hM.fresh hE;have v1:W1.cell? ⟨w.heap.size,0,none⟩=some (.pointer (some ⟨q,0,none⟩)):=hc.b1.cell 0;have v2:W1.cell? ⟨w.heap.size+1+1,0,none⟩=some (.int .i64 ks.length):=hc.b2.cell 0;have v4:W1.cell? ⟨w.heap.size+1+1+1,0,none⟩=some (.int .i64 i):=hc.b4.cell 0;have v5:W1.cell? ⟨q,1,none⟩=some (.slice g ks.length cap):=hB1.cell 1;replace n1:=up n1;replace k1:=up k1;replace hM1:=up hM1;clear hM hR hB hB1 hc;go_quiet (fail)
  replace v1:=show(W1.drewN nq).cell? _=_ from v1;replace v2:=show(W1.drewN nq).cell? _=_ from v2;replace v4:=show(W1.drewN nq).cell? _=_ from v4;replace v5:=show(W1.drewN nq).cell? _=_ from v5;replace n1:=up (show a7 (W1.drewN nq) _ _ _ from n1.out);replace hM1:=up (hM1.out.kq ((Kq.refl _).drewN nq));replace k1:=up (k1.out.drewN nq);generalize W1.drewN nq=W2 at *;have hsz:=hE.size;have hA:=oW (w.heap.size+1+1+1+1) i 0 W2 (by omega) n1.out;rw[SY]at hA;replace hA:=up hA;go_wp2_with (first |(go_at_call 237;refine hA.out.mono ?_;rintro e w3 ⟨rfl,hb,k3⟩;replace hb:=up hb;have hk:=up ((k1.out.mono (AI _) nofun:Kq w.heap.size [E.r] w W2).trans (k3.mono k1.out.kp.1 λx hx hlt=>absurd hlt (by rw[x5.1 hx];omega)));have hm:=up (hM1.out.hZ hE (X:=[w.heap.size+1+1+1+1]) (λx hx=>by rw[x5.1 hx];exact⟨by omega,by omega,λh=>by have:=fr.2.2 _ h;omega⟩) k3);clear k3 v1 v2 v4 v5 hA;have fz:∀j,w3.frozen? ⟨w.heap.size+1+1+1+1,j,none⟩=false:=hb.out.frozen;have r0:w3.cell? ⟨w.heap.size+1+1+1+1,0,none⟩=some (.int .u64 (wz (1<<<i).testBit 0)):=hb.out.cell 0;have r1:w3.cell? ⟨w.heap.size+1+1+1+1,1,none⟩=some (.int .u64 (wz (1<<<i).testBit 1)):=hb.out.cell 1;have r2:w3.cell? ⟨w.heap.size+1+1+1+1,2,none⟩=some (.int .u64 (wz (1<<<i).testBit 2)):=hb.out.cell 2;have r3:w3.cell? ⟨w.heap.size+1+1+1+1,3,none⟩=some (.int .u64 (wz (1<<<i).testBit 3)):=hb.out.cell 3;have r4:w3.cell? ⟨w.heap.size+1+1+1+1,4,none⟩=some (.int .u64 (wz (1<<<i).testBit 4)):=hb.out.cell 4)|fail)
  refine cO rfl rfl (dc hb.out) rfl ⟨rfl,hm.out.hZ hE (X:=[w.heap.size+1+1+1+1]) (λx hx=> ?_) (ba (Kq.refl _) λ_=>x5.2 rfl),ba hk.out λh=>absurd h (by omega)⟩;obtain rfl:=x5.1 hx;exact⟨by omega,by omega,λh=>by have:=fr.2.2 _ h;omega⟩
 |succ n ih=>
  intro d hd hdl w q i hM hR hi;have hlt:d<ks.length:=by omega
  have hr:=ih (d+1) (by omega) (by omega);obtain⟨sl,vs,hB,hrow,hlen⟩:∃sl vs,a7 w q 269 #[.int .i64 id,sl]/\w.ownsRow 0 86 1 sl vs.length vs/\vs.length=ks.length:=by
   cases hR with
   |seq a b c d e f=>exact⟨_,_,b,c,e⟩
  obtain⟨g,cap,cur,rfl,_,_⟩:=o7 hrow (By (by omega:d<vs.length));have hks:=hE.kids id ks hn;have hne:((d:Int)==(ks.length:Int))=false:=by simp;omega
  rw[hlen]at hB;obtain⟨hc,n1,k1⟩:=KL w 268 q E.m d i;go_enter PM.func Tryz.func236 (by decide),Tryz.ntmps236
  go_wp2;generalize T9 _ _=W1 at hc n1 k1 ⊢;have hM1:=hM.kq k1;have hR1:=hR.keep (w':=W1) λb _ hlt=>k1.kp.2 b hlt AS
  have hB1:=hB.kq k1 hB.lt AS;have fr:=hM.fresh hE;have v1:W1.cell? ⟨w.heap.size,0,none⟩=some (.pointer (some ⟨q,0,none⟩)):=hc.b1.cell 0;have v2:W1.cell? ⟨w.heap.size+1+1,0,none⟩=some (.int .i64 d):=hc.b2.cell 0;have v3:W1.cell? ⟨w.heap.size+1,0,none⟩=some (.pointer (some ⟨E.m,0,none⟩)):=hc.b3.cell 0;have v4:W1.cell? ⟨w.heap.size+1+1+1,0,none⟩=some (.int .i64 i):=hc.b4.cell 0;have v5:W1.cell? ⟨q,1,none⟩=some (.slice (some ⟨g,0,none⟩) ks.length cap):=hB1.cell 1;have v6:W1.cell? ⟨q,0,none⟩=some (.int .i64 id):=hB1.cell 0;replace hc:=up hc;replace n1:=up n1;replace k1:=up k1;replace hM1:=up hM1;replace hR1:=up hR1;replace hr:=up hr;clear hM hR hB hrow hB1;go_quiet (fail)
  replace v1:=show(W1.drewN nq).cell? _=_ from v1;replace v2:=show(W1.drewN nq).cell? _=_ from v2;replace v3:=show(W1.drewN nq).cell? _=_ from v3;replace v4:=show(W1.drewN nq).cell? _=_ from v4;replace v5:=show(W1.drewN nq).cell? _=_ from v5;replace v6:=show(W1.drewN nq).cell? _=_ from v6;replace n1:=up (show a7 (W1.drewN nq) _ _ _ from n1.out);replace hM1:=up (hM1.out.kq ((Kq.refl _).drewN nq));replace hR1:=up (hR1.out.keep (w':=W1.drewN nq) λ_ _ _=>rfl);replace k1:=up (k1.out.drewN nq);replace hc:=up (hc.out.kq ((Kq.refl W1).drewN nq) λg hg=>⟨hc.out.lt g hg,AS⟩);generalize W1.drewN nq=W2 at *;go_wp2;go_still_tail 10,by kernel_rfl
  change wpList _ _ _ _ _ W2.drew;go_wp2;have h0:∀args w,(IN 238 args).run PM w= .ok (.enter 238 args) w:=λargs w=>PM.ML args w
  have hz:=k1.out.kp.1;refine(y7 hE hn (d:=d) (i:=i) (by omega) (by have:=hE.size;omega) rfl 238 _ W2.drew h0 (hM1.out.kq (Kq.refl _).drew) λw1 kw h2=> ?_).mono ?_
  .refine At hE (By hlt) (hk _ (SL hlt)) hn hi h2 (hR1.out.keep λb _ hlt=>kw.kp.2 b hlt AS) ((hc.out.kq (Kq.refl W2).drew λg hg=>⟨hc.out.lt g hg,AS⟩).kq kw λg hg=>⟨hc.out.lt g hg,AS⟩) λw2 c hm h3 hcs=> ?_
   exact hr.out w2 q c hm h3 hcs
  .rintro e w4 ⟨rfl,h1,k4⟩;have k4':Kq W2.heap.size [E.r] W2 w4:=⟨k4.kp,k4.os,k4.out⟩;have hb:=up (n1.out.kq k4' n1.out.lt λhx=>by have:=x5.1 hx;omega);have hk:=up ((k1.out.mono (AI _) nofun:Kq w.heap.size [E.r] w W2).trans (k4'.mono hz λ_ h _=>h));have hm:=up h1;clear k4 k4' h1 n1 k1 hc hR1 hM1 hr v1 v2 v3 v4 v5 v6;generalize dL E.M (ks.drop d) i=P at *;have fz:∀j,w4.frozen? ⟨w.heap.size+1+1+1+1,j,none⟩=false:=hb.out.frozen;have r0:w4.cell? ⟨w.heap.size+1+1+1+1,0,none⟩=some (.int .u64 (wz (BY 0) 0)):=hb.out.cell 0;have r1:w4.cell? ⟨w.heap.size+1+1+1+1,1,none⟩=some (.int .u64 (wz (BY 0) 1)):=hb.out.cell 1;have r2:w4.cell? ⟨w.heap.size+1+1+1+1,2,none⟩=some (.int .u64 (wz (BY 0) 2)):=hb.out.cell 2;have r3:w4.cell? ⟨w.heap.size+1+1+1+1,3,none⟩=some (.int .u64 (wz (BY 0) 3)):=hb.out.cell 3;have r4:w4.cell? ⟨w.heap.size+1+1+1+1,4,none⟩=some (.int .u64 (wz (BY 0) 4)):=hb.out.cell 4;unfold ep cR fU;go_wp2;refine cO rfl rfl (dc hb.out) rfl ⟨rfl,hm.out.hZ hE (X:=[w.heap.size+1+1+1+1]) (λx hx=> ?_) (ba (Kq.refl _) λ_=>x5.2 rfl),ba hk.out λh=>absurd h (by omega)⟩;obtain rfl:=x5.1 hx;exact⟨by omega,by omega,λh=>by have:=fr.2.2 _ h;omega⟩
end
section
open Go.RowKit
attribute [local go_sem] Ta
theorem CN{E}(hE:fu E){id ks}(hs:KS E id ks 0):gy E (.seq id ks):=by
 intro w q i hM hR hi;rw[bv];show Calls PM 233 _ _ _;have k1:Kq w.heap.size [] w (w.alloc (.cells fY 221)):=(Kq.refl w).alloc (AI _) _;have n1:a7 (w.alloc (.cells fY 221)) w.heap.size 221 (cR 0):=by rw[dz];exact a7.new w 221 _
 have fr:=hM.fresh hE;have hC:=hs _ q i (hM.kq k1) (hR.keep λb hb hlt=>k1.kp.2 b hlt AS) hi;rw[SE]at hC;replace hC:=up hC;replace k1:=up k1;replace n1:=up n1;clear hM hR hs;generalize dL E.M ks i=P at *;go_enter PM.func Tryz.func233 (by decide),Tryz.ntmps233
 go_wp2;refine hC.out.mono ?_;rintro e w2 ⟨rfl,h0,k2⟩;have hb:=up (n1.out.kq k2 n1.out.lt λhx=>by have:=x5.1 hx;omega);have hk:=up ((k1.out.mono (AI _) nofun:Kq w.heap.size [E.r] w _).trans (k2.mono k1.out.kp.1 λ_ h _=>h));have hm:=up h0;clear hC k1 n1 h0 k2;have fz:∀j,w2.frozen? ⟨w.heap.size,j,none⟩=false:=hb.out.frozen;have r0:w2.cell? ⟨w.heap.size,0,none⟩=some (.int .u64 (wz (BY 0) 0)):=hb.out.cell 0;have r1:w2.cell? ⟨w.heap.size,1,none⟩=some (.int .u64 (wz (BY 0) 1)):=hb.out.cell 1;have r2:w2.cell? ⟨w.heap.size,2,none⟩=some (.int .u64 (wz (BY 0) 2)):=hb.out.cell 2;have r3:w2.cell? ⟨w.heap.size,3,none⟩=some (.int .u64 (wz (BY 0) 3)):=hb.out.cell 3;have r4:w2.cell? ⟨w.heap.size,4,none⟩=some (.int .u64 (wz (BY 0) 4)):=hb.out.cell 4;unfold ep cR fU;go_wp2;refine cO rfl rfl (dc hb.out) rfl ⟨rfl,hm.out.hZ hE (X:=[w.heap.size]) (λx hx=> ?_) (ba (Kq.refl _) λ_=>x5.2 rfl),ba hk.out λh=>absurd h (by omega)⟩;obtain rfl:=x5.1 hx;exact⟨by omega,by omega,λh=>by have:=fr.2.2 _ h;omega⟩
structure nD(w:If)(g1 g2 g3:Nat)(t:Tz)(q m i:Nat):Prop where
 b1:a7 w g1 t #[.pointer (some ⟨q,0,none⟩)]
 b2:a7 w g2 174 #[.pointer (some ⟨m,0,none⟩)]
 b3:a7 w g3 3 #[.int .i64 i]
theorem nD.caps{w g1 g2 g3 t q m i}(h:nD w g1 g2 g3 t q m i):Caps w g1 g3 g2 g3 t q m i i:=⟨h.b1,h.b3,h.b2,h.b3⟩
theorem Ho{M}{ks:List Nd}{n i}(h):iK M (ks.drop n) i=bv M ks[n] i|||iK M (ks.drop (n+1)) i:=by rw[Su h,iK]
theorem C0{E}(hE:fu E){id ks i q g1 g2 g3 w}(hk:∀k∈ks,gy E k)
 (hn:Nd.alt id ks∈subs E.R) (hlen:ks.length<1000000) (hi:i<=E.M.s.size) (hM:cI E w) (hR:Repr w E.S (.iface 244 (.pointer (some ⟨q,0,none⟩))) (.alt id ks)) (hc:nD w g1 g2 g3 244 q E.m i):
 Calls PM 231 #[.pointer (some ⟨g1,0,none⟩),.pointer (some ⟨g2,0,none⟩),.pointer (some ⟨g3,0,none⟩)] w (iH E i (iK E.M ks i) w):=by
 obtain⟨sl,vs,hB,hrow,hS,h8,hkid⟩:∃sl vs,a7 w q 250 #[.int .i64 id,sl]/\w.ownsRow 0 86 1 sl vs.length vs/\(∀b,sl.ownBlock=some b->E.S b)/\vs.length=ks.length/\∀(i:Nat) v k,vs[i]?=some v->ks[i]?=some k->Repr w E.S v k:=by
  cases hR with
  |alt a b c d e f=>exact⟨_,_,b,c,d,e,f⟩
 obtain⟨sa,cap,rfl⟩:=nH hrow;rw[h8]at hB;have k1:Kq w.heap.size [] w (w.alloc (.cells fY 221)):=(Kq.refl w).alloc (AI _) _;have n1:a7 (w.alloc (.cells fY 221)) w.heap.size 221 (cR 0):=by rw[dz];exact a7.new w 221 _
 have E1:=(EB.start hE hM hR hc.caps).own (X:=[]) (AI _) (λ_ h=>nomatch h) k1;have hB1:=hB.kq k1 hB.lt AS;have v1:(w.alloc (.cells fY 221)).cell? ⟨g1,0,none⟩=some (.pointer (some ⟨q,0,none⟩)):=E1.caps.b1.cell 0;have v5:(w.alloc (.cells fY 221)).cell? ⟨q,1,none⟩=some (.slice sa ks.length cap):=hB1.cell 1;replace E1:=up E1;replace n1:=up n1;replace hkid:=up hkid;replace hrow:=up hrow;replace hk:=up hk;clear hM hR hc hB hB1 k1;go_enter PM.func Tryz.func231 (by decide),Tryz.ntmps231
 go_wp2;generalize w.alloc (.cells fY 221)=W1 at n1 E1 v1 v5 ⊢;go_loopw [11] (λc wr=>∃n:Nat,n<=ks.length/\c= .int .i64 n/\EB E (.alt id ks) 244 q g1 g3 g2 g3 i i w wr/\∃r,a7 wr w.heap.size 221 (cR r)/\r|||iK E.M (ks.drop n) i=iK E.M ks i) λc _=>ks.length- (intOf c).toNat
 case atStart=>exact⟨0,Tl _,rfl,E1.out,0,n1.out,by rw[SY,SE]⟩
 case round=>
  clear E1 n1 v1 v5;obtain⟨n,hnl,rfl,h0,r,h6,h4⟩:=hrel;have E2:=up h0;have n2:=up h6;by_cases hlt:n<ks.length
  .obtain⟨g,cap',cur,he,hG,h5⟩:=o7 hrow.out (By (by omega:n<vs.length));cases he;have hSg:=hS g rfl;have hG2:a7 wr g 86 cur:=(h0.old hE g hSg).trans hG;have hRk:=(hkid.out n _ _ (By (by omega)) (By hlt)).keep (w':=wr) λb hb _=>h0.old hE b hb
   obtain⟨p,hp⟩:=ed hRk;rw[hp]at h5 hRk;have hC:=hk.out ks[n] (SL hlt) wr p i h0.mem hRk hi;rw[Ho hlt]at h4;have h1:=fN ks[n] ⟨p,0,none⟩;have h2:=gu ks[n] ⟨p,0,none⟩;have h3:=i9 ks[n];have v2:wr.cell? ⟨g2,0,none⟩=some (.pointer (some ⟨E.m,0,none⟩)):=h0.caps.b3.cell 0;have v3:wr.cell? ⟨g3,0,none⟩=some (.int .i64 i):=h0.caps.b4.cell 0;have v6:wr.cell? ⟨g,n,none⟩=some (.iface (bn ks[n]) (.pointer (some ⟨p,0,none⟩))):=(hG2.cell n).trans h5;replace hC:=up hC;replace h4:=up h4;clear h0 h6 hG hG2 hRk h5 hp;generalize mq ks[n]=fk at *;generalize bn ks[n]=tk at *;generalize bv E.M ks[n] i=P at *;go_wp2;refine hC.out.mono ?_;rintro e w3 ⟨rfl,h7,k3⟩;have E3:=up (E2.out.asked hE h7 k3);have n3:=up (E2.out.stay n2.out (AI _) k3);have hJ:=up (r5 w.heap.size r P w3 n3.out);clear hC k3 h7 v2 v3 v6 h1 h2 h3;go_wp2;refine hJ.out.mono ?_;rintro e w4 ⟨rfl,b4,k4⟩;have E4:=up (E3.out.own (X:=[w.heap.size]) E3.out.kq.kp.1 (λx hx=>by rw[x5.1 hx];exact AI _) k4);replace b4:=up b4;clear k4 E3 n3 hJ;go_wp2;go_roundw
   case rel=>
    refine⟨n+1,by omega,by push_cast;rfl,E4.out,_,b4.out,?_⟩;rw[<- h4.out,TQ]
   case measure=>simp[intOf];omega
  .obtain rfl:n=ks.length:=by omega
   rw[T7,iK,TF]at h4;subst h4;have hb:=n2;have hm:=up h0.mem;have hk':=up h0.kq;have fr:=h0.new;have hnew:Hid (w.heap.size≠E.m/\w.heap.size≠E.r/\¬ E.S w.heap.size):=up ⟨by omega,by omega,λh=>by have:=fr.2.2 _ h;omega⟩;clear h0 h6 E2 n2 hk;have hk:=hk';clear hk';generalize iK E.M ks i=P at *;have fz:∀j,wr.frozen? ⟨w.heap.size,j,none⟩=false:=hb.out.frozen;have r0:wr.cell? ⟨w.heap.size,0,none⟩=some (.int .u64 (wz (P).testBit 0)):=hb.out.cell 0;have r1:wr.cell? ⟨w.heap.size,1,none⟩=some (.int .u64 (wz (P).testBit 1)):=hb.out.cell 1;have r2:wr.cell? ⟨w.heap.size,2,none⟩=some (.int .u64 (wz (P).testBit 2)):=hb.out.cell 2;have r3:wr.cell? ⟨w.heap.size,3,none⟩=some (.int .u64 (wz (P).testBit 3)):=hb.out.cell 3;have r4:wr.cell? ⟨w.heap.size,4,none⟩=some (.int .u64 (wz (P).testBit 4)):=hb.out.cell 4;go_wp2;refine cO rfl rfl (dc hb.out) rfl ⟨rfl,hm.out.hZ hE (X:=[w.heap.size]) (λx hx=> ?_) (ba (Kq.refl _) λ_=>x5.2 rfl),ba hk.out λh=>absurd h (by omega)⟩;obtain rfl:=x5.1 hx;exact hnew.out
theorem PG(w t q m i):
 nD ((((w.alloc (.cells #[.pointer (some ⟨q,0,none⟩)] t)).alloc (.cells #[.pointer (some ⟨m,0,none⟩)] 174)).alloc (.cells #[.int .i64 i] 3)).alloc (.cells fY 221)) w.heap.size (w.heap.size+1) (w.heap.size+1+1) t q m i/\
 a7 ((((w.alloc (.cells #[.pointer (some ⟨q,0,none⟩)] t)).alloc (.cells #[.pointer (some ⟨m,0,none⟩)] 174)).alloc (.cells #[.int .i64 i] 3)).alloc (.cells fY 221)) (w.heap.size+1+1+1) 221 (cR 0)/\
 Kq w.heap.size [] w ((((w.alloc (.cells #[.pointer (some ⟨q,0,none⟩)] t)).alloc (.cells #[.pointer (some ⟨m,0,none⟩)] 174)).alloc (.cells #[.int .i64 i] 3)).alloc (.cells fY 221)):=by
 have st:∀(W:If)(o:Obj){b:Nat}{t c},a7 W b t c->a7 (W.alloc o) b t c:=λW o{b t c} h=>h.alloc o
 have nw:∀(W:If)(t c)(n:Nat),W.heap.size=n->a7 (W.alloc (.cells c t)) n t c:=λW t c n h=>h▸a7.new W t c
 refine⟨⟨st _ _ (st _ _ (st _ _ (a7.new w t _))),st _ _ (st _ _ (nw _ _ _ _ (by simp))),st _ _ (nw _ _ _ _ (by simp))⟩,?_,((((Kq.refl w).alloc (AI _) _).alloc (by simp) _).alloc (by simp) _).alloc (by simp) _⟩
 .simp[dz, *]
theorem nD.kq{w w' B X g1 g2 g3 t q m i}(h:nD w g1 g2 g3 t q m i)(hk:Kq B X w w')(hB:∀g∈[g1,g2,g3],g<B/\g∉X):nD w' g1 g2 g3 t q m i:=
 ⟨h.b1.kq hk (hB _ (by simp)).1 (hB _ (by simp)).2,h.b2.kq hk (hB _ (by simp)).1 (hB _ (by simp)).2,h.b3.kq hk (hB _ (by simp)).1 (hB _ (by simp)).2⟩
theorem nD.lt{w g1 g2 g3 t q m i}(h:nD w g1 g2 g3 t q m i):∀g∈[g1,g2,g3],g<w.heap.size:=λg hg=>by
 simp[OF]at hg;rcases hg with rfl|rfl|rfl
 .exact h.b1.lt
 .exact h.b2.lt
 .exact h.b3.lt
theorem Do{E}(hE:fu E){id ks}(hk:∀k∈ks,gy E k)(hn:Nd.alt id ks∈subs E.R)(hlen:ks.length<1000000):gy E (.alt id ks):=by
 intro w q i hM hR hi;rw[bv];show Calls PM 226 _ _ _;obtain⟨sl,hB⟩:∃sl,a7 w q 250 #[.int .i64 id,sl]:=by
  cases hR with
  |alt a b c d e f=>exact⟨_,b⟩
 obtain⟨hc,n1,k1⟩:=PG w 244 q E.m i;go_enter PM.func Tryz.func226 (by decide),Tryz.ntmps226
 go_wp2;generalize T9 _ _=W1 at hc n1 k1 ⊢;have hM1:=hM.kq k1;have hR1:=hR.keep (w':=W1) λb _ hlt=>k1.kp.2 b hlt AS
 have hB1:=hB.kq k1 hB.lt AS;have fr:=hM.fresh hE;have v1:W1.cell? ⟨w.heap.size,0,none⟩=some (.pointer (some ⟨q,0,none⟩)):=hc.b1.cell 0;have v3:W1.cell? ⟨w.heap.size+1,0,none⟩=some (.pointer (some ⟨E.m,0,none⟩)):=hc.b2.cell 0;have v4:W1.cell? ⟨w.heap.size+1+1,0,none⟩=some (.int .i64 i):=hc.b3.cell 0;have v6:W1.cell? ⟨q,0,none⟩=some (.int .i64 id):=hB1.cell 0;replace hc:=up hc;replace n1:=up n1;replace k1:=up k1;replace hM1:=up hM1;replace hR1:=up hR1;clear hM hR hB hB1;go_still_tail 9,by kernel_rfl
 change wpList _ _ _ _ _ W1.drew;go_wp2;have h0:∀args w,(IN 231 args).run PM w= .ok (.enter 231 args) w:=λargs w=>PM.MM args w
 have hz:=k1.out.kp.1;refine(y7 hE hn (d:=0) (i:=i) (p:=iK E.M ks i) (by omega) (by have:=hE.size;omega) rfl 231 _ W1.drew h0 (hM1.out.kq (Kq.refl _).drew) λw1 kw h2=> ?_).mono ?_
 .exact C0 hE hk hn hlen hi h2 (hR1.out.keep λb _ hlt=>kw.kp.2 b hlt AS) ((hc.out.kq (Kq.refl W1).drew λg hg=>⟨hc.out.lt g hg,AS⟩).kq kw λg hg=>⟨hc.out.lt g hg,AS⟩)
 .rintro e w4 ⟨rfl,h1,k4⟩;have k4':Kq W1.heap.size [E.r] W1 w4:=⟨k4.kp,k4.os,k4.out⟩;have hb:=up (n1.out.kq k4' n1.out.lt λhx=>by have:=x5.1 hx;omega);have hk:=up ((k1.out.mono (AI _) nofun:Kq w.heap.size [E.r] w W1).trans (k4'.mono hz λ_ h _=>h));have hm:=up h1;clear k4 k4' h1 n1 k1 hc hR1 hM1 v1 v3 v4 v6;generalize iK E.M ks i=P at *;have fz:∀j,w4.frozen? ⟨w.heap.size+1+1+1,j,none⟩=false:=hb.out.frozen;have r0:w4.cell? ⟨w.heap.size+1+1+1,0,none⟩=some (.int .u64 (wz (BY 0) 0)):=hb.out.cell 0;have r1:w4.cell? ⟨w.heap.size+1+1+1,1,none⟩=some (.int .u64 (wz (BY 0) 1)):=hb.out.cell 1;have r2:w4.cell? ⟨w.heap.size+1+1+1,2,none⟩=some (.int .u64 (wz (BY 0) 2)):=hb.out.cell 2;have r3:w4.cell? ⟨w.heap.size+1+1+1,3,none⟩=some (.int .u64 (wz (BY 0) 3)):=hb.out.cell 3;have r4:w4.cell? ⟨w.heap.size+1+1+1,4,none⟩=some (.int .u64 (wz (BY 0) 4)):=hb.out.cell 4;unfold ep cR fU;go_wp2;refine cO rfl rfl (dc hb.out) rfl ⟨rfl,hm.out.hZ hE (X:=[w.heap.size+1+1+1]) (λx hx=> ?_) (ba (Kq.refl _) λ_=>x5.2 rfl),ba hk.out λh=>absurd h (by omega)⟩;obtain rfl:=x5.1 hx;exact⟨by omega,by omega,λh=>by have:=fr.2.2 _ h;omega⟩
end
section
section
variable{P:Tq}{ops:Array Oper}{Q:Exit->Act->If->Prop}{md:Region.Mode}{l n:Nat}
theorem Ox{o:Oper}{a w K}(hd:∀c,o.op≠.defer c)(h:o.wp P a w K Q):o.wpIn (Fence.wide.inRound l) n P a w K Q:=by
 refine⟨λ_ _=>trivial,?_⟩;rw[Oper.semAt_plain _ _ _ hd];unfold Oper.wp at h;generalize (SQ a.eval o).run P w=r at h ⊢;cases r with
 |ok x w'=>
  cases x;case value v=>exact h
  case skip=>exact h
  case defer d=>exact h
  case enter f args=>exact⟨λh=>by simp[SX]at h,Ts l ((callsIn_wide.2 h).mono λe w'' he=>by cases e<;>exact he)⟩
  case row row args=>exact⟨λh=>by simp[SX]at h,λc cs _=>let⟨v,w',r,s⟩:=h c cs;⟨v,w',r,stepsIn_wide.2 s⟩⟩
  all_goals exact h.elim
 |halt x w'=>cases x<;>exact h
def lv(l:List Oper):Bool:=l.all λo=>match o.op with | .defer _=>false|_=>true
theorem B7{i:Nat}{o}(h:lv ops.toList=true)(hi:ops[i]?=some o):∀c,o.op≠.defer c:=λc e=>by
 have:=List.all_eq_true.1 h o (Array.mem_toList_iff.2 (Array.mem_of_getElem? hi));rw[e]at this;cases this
theorem LC(hd:lv ops.toList=true)(hL:¬ LetsOut Q){i K K'}(hK:∀a w,K a w->K' a w){a w}(h:wpOp P ops Q i K a w):wpOpIn (Fence.wide.inRound l) n P ops Q i K' a w:=by
 unfold wpOp at h;unfold wpOpIn;split
 .grind
 .rename_i o ho;simp[ho]at h;split
  .rename_i hw;rw[if_pos hw]at h;rcases h with h|⟨_,h⟩
   .exact Ox (B7 hd ho) (Oper.wp_mono hK h)
   grind
  .rename_i hw;rw[if_neg hw]at h;exact⟨λ_ _=>trivial,hK _ _ h⟩
theorem zM(hd:lv ops.toList=true)(hL:¬ LetsOut Q):∀fuel listed a w,wpAny P md ops Q fuel listed a w->wpAnyIn (Fence.wide.inRound l) n P md ops Q fuel listed a w
 |0,_,_,_,h=>h
 |fuel+1,_,_,_,h=>⟨h.1,λi hi=>LC hd hL (λa w h=>zM hd hL fuel _ a w h) (h.2 i hi)⟩
theorem mG{id a w}(hd:lv ops.toList=true)(hL:¬ LetsOut Q)(hm:P.follows .mixedOrders=true)
 (h:wpAny P .any ops Q ops.size (SN ops.size false) a {w with drawn:=w.drawn+1}):(TG id ops true).wpIn (Fence.wide.inRound l) n P Q a w:=wpIn_region_any hm (zM hd hL _ _ _ _ h)
theorem qq{id a w l'}(m)(hd:lv l'=true)(hL:¬ LetsOut Q)(hm:P.follows .mixedOrders=true)(hB:U2 .any l'.toArray m=true)
 (h:wpStill P l'.toArray {w with drawn:=w.drawn+1} (λa'=>wpList P l'.toArray Q (l'.drop m) a' {w with drawn:=w.drawn+1}) (l'.take m) a):(TG id l'.toArray true).wpIn (Fence.wide.inRound l) n P Q a w:=by
 simp only[U2,TD,decide_eq_true_eq]at hB;obtain⟨⟨⟨⟨h1,hn⟩,hs⟩,hc⟩,hlex⟩:=hB;have h0:(l'.take m).length=m:=by grind
 have hdl:(l'.drop m).length=l'.toArray.size-m:=by simp
 have inv0:HeadInv .any l'.toArray m (SN l'.toArray.size false):=
  ⟨by simp,λj oj _ hl=>(by rw[getD_replicate_false]at hl;cases hl),λt _ ht=>getD_in (by simpa using ht) (getD_replicate_false _ _)⟩
 have H:=wpAnyL_lex (md:=.any) (g:=l'.toArray.size-m) h1 hs hc hn (l'.take m) 0 _ a (λj hj=>by
  have hj':j<m:=by omega
  simp[hj']) (by simpa using h0) inv0 (by rw[h0];omega) h
 refine mG hd hL hm ?_;have:=wpAny_of_head (Q':=Q) (g:=l'.toArray.size-m) (λlisted a' hL=>by
  have:=wpAny_of_seq (md:=.any) (Q':=Q) (l'.drop m) m listed a' {w with drawn:=w.drawn+1} λj=>by simp[TS] (by rw[hdl];exact hL.1) hL.2
  rwa [hdl]at this) _ _ _ H
 rw[h0,show m+(l'.toArray.size-m)=l'.toArray.size by omega]at this;omega
theorem gO{id S a w}(hd:lv ops.toList=true)(hL:¬ LetsOut Q)(hm:P.follows .mixedOrders=true)
 (h:wpAnyH P .any ops Q S ops.size (SN ops.size false) a {w with drawn:=w.drawn+1}):(TG id ops true).wpIn (Fence.wide.inRound l) n P Q a w:=mG hd hL hm (wpAny_of_held _ _ _ _ h)
theorem oT{id a w l'}(hd:lv l'=true)(hL:¬ LetsOut Q)(hm:P.follows .mixedOrders=true)(hB:Region.lexB .any l'.toArray=true)
 (h:wpQuiet P l'.toArray (λw'=>∃n,w'=w.drewN n) (λa'=>∀w',(∃n,w'=w.drewN n)->Q .normal a' w') l' a):(TG id l'.toArray true).wpIn (Fence.wide.inRound l) n P Q a w:=by
 simp[Region.lexB]at hB;refine mG hd hL hm (wpAny_of_quiet (C:=λw'=>∃n,w'=w.drewN n) (Q:=λa'=>∀w',(∃n,w'=w.drewN n)->Q .normal a' w') (λ_ w' h0 h=>h w' h0) _ _ _ _ ⟨1,rfl⟩ ?_);simpa using wpAnyQ_lex (C:=λw'=>∃n,w'=w.drewN n) (md:=.any) hB.1 l'.toArray.toList 0 (SN l'.toArray.size false) a (by simp) (by simpa using hB.2) (by simpa using h)
theorem takeD{S fuel listed a w}(i d v){oi}(hi:ops[i]?=some oi)(hd:oi.dst=some d)
 (hs:Region.noSelect ops=true) (hf:Region.free md ops listed i=true) (hr:(Region.ready md ops listed).contains i=true) (hQ:∀c a w,Q (.panic c) (a.put (some d) v) w->Q (.panic c) a w) (hy:YieldsIf P ops S oi v a) (hS:S w)
 (h:wpAnyH P md ops Q S fuel (listed.setIfInBounds i true) (a.put (some d) v) w):wpAnyH P md ops Q S (fuel+1) listed a w:=
 wpAnyH_take hi hs hf hr (by rw[hd];omega) hy hS (by rw[hd];omega)
theorem wZ{S R:If->Prop}{fuel listed a w}(i d v f args){oi}(hi:ops[i]?=some oi)(hd:oi.dst=some d)(hg:oi.guard=none)(hr:Region.ready md ops listed=[i])
 (hrun:(SQ a.eval oi).run P w= .ok (.enter f args) w) (hc:Calls P f args w λe w'=>e= .returned v/\R w')
 (h:∀w',R w'->S w'/\wpAnyH P md ops Q S fuel (listed.setIfInBounds i true) (a.put (some d) v) w'):wpAnyH P md ops Q S (fuel+1) listed a w:=
 wpAnyH_all hr (by simp) λj hj=>by
  obtain rfl:=x5.1 hj;simp[wpOp,hi];rw[if_pos (by simp[T0,hg])];refine .inl ?_;simp[Oper.wp,hrun];refine Calls.mono hc ?_;grind
end
end
section
open Go.RowKit
attribute [local go_sem] Ta
theorem o9{id l m v}{q d:Nat}{w}(hB:a7 w q 288 #[.int .i64 id,v,.int .i64 l,.int .i64 m])(hd:d<2000000):
 Calls PM 244 #[.pointer (some ⟨q,0,none⟩),.int .i64 d] w λe w'=>e= .returned (.int .i64 (bS l m d:Nat))/\w'=w:=by
 have v2:w.cell? ⟨q,2,none⟩=some (.int .i64 l):=hB.cell 2;have v3:w.cell? ⟨q,3,none⟩=some (.int .i64 m):=hB.cell 3;have key:((bS l m d:Nat):Int)=if m<0/\l<=d then(d:Int)else(d:Int)+1:=by unfold bS;split <;>simp
 rw[key];clear key hB;by_cases h1:m<0
 .by_cases h2:l<=d
  .rw[if_pos ⟨h1,h2⟩];go_enter PM.func Tryz.func244 (by decide),Tryz.ntmps244
   go_wp2;all_goals
    go_ret;exact⟨rfl,rfl⟩
  .rw[if_neg λh=>h2 h.2];go_enter PM.func Tryz.func244 (by decide),Tryz.ntmps244
   go_wp2;all_goals
    go_ret;exact⟨rfl,rfl⟩
 .rw[if_neg λh=>h1 h.1];go_enter PM.func Tryz.func244 (by decide),Tryz.ntmps244
  go_wp2;all_goals
   go_ret;exact⟨rfl,rfl⟩
theorem GS{fn p n g P R a W}(h:fn.results=#[.cell p 221])(hp:a.tmps.getD p undef= .pointer (some ⟨g,0,none⟩))(hg:a7 W g 221 (cR P))
 (hd:a.defers=[]) (hR:R (.returned (ep P)) W):bodyPostM SX n PM fn R .ret a W:=by
 show LeavesInM _ _ _ _ _ _ _ _ _;rw[hd];obtain⟨k,e,hu⟩:=uQ;exact⟨_,results_cell_row h a.tmps _ g _ _ _ _ hp hg hu rfl xQ,hR⟩
theorem AA{E}(hE:fu E){id l m k d i q g1 g2 g3 g4 w}(hk:gy E k)
 (hn:Nd.rep id k l m∈subs E.R) (hd:d<2000000) (hi:i<=E.M.s.size) (hM:cI E w) (hR:Repr w E.S (.iface 286 (.pointer (some ⟨q,0,none⟩))) (.rep id k l m)) (hc:Caps w g1 g2 g3 g4 286 q E.m d i)
 (hr:∀w1 c,cI E w1->Repr w1 E.S (.iface 286 (.pointer (some ⟨q,0,none⟩))) (.rep id k l m)->c<=E.M.s.size->i<=c->i<c\/(d:Int)<l->
  Calls PM 243 #[.pointer (some ⟨q,0,none⟩),.pointer (some ⟨E.m,0,none⟩),.int .i64 (bS l m d:Nat),.int .i64 c] w1 (iH E c (dI E.M k l m (bS l m d) c) w1)):
 Calls PM 245 #[.pointer (some ⟨g2,0,none⟩),.pointer (some ⟨g1,0,none⟩),.pointer (some ⟨g4,0,none⟩),.pointer (some ⟨g3,0,none⟩)] w (iH E i (dI E.M k l m d i) w):=by
 rw[Bd hi hE.size];generalize hG:(λc=>if i<c\/(d:Int)<l then dI E.M k l m (bS l m d) c else 0)=G;replace hG:=up hG;obtain⟨A,hA⟩:∃A,(if l<=(d:Int)then 1<<<i else 0)=A:=⟨_,rfl⟩;obtain⟨C,hC⟩:∃C,(if(d:Int)=m then 0 else dN G (bv E.M k i) 320)=C:=⟨_,rfl⟩;rw[hA,hC];replace hA:=up hA;replace hC:=up hC;obtain⟨v,hB,hSq,hRk⟩:∃v,a7 w q 288 #[.int .i64 id,v,.int .i64 l,.int .i64 m]/\E.S q/\Repr w E.S v k:=by
  cases hR with
  |rep a b c=>exact⟨_,b,a,c⟩
 obtain⟨p,rfl⟩:=ed hRk;have hl:=hE.rep id k l m hn;have k1:Kq w.heap.size [] w (w.alloc (.cells fY 221)):=(Kq.refl w).alloc (AI _) _;have n1:a7 (w.alloc (.cells fY 221)) w.heap.size 221 (cR 0):=by rw[dz];exact a7.new w 221 _
 have E1:=(EB.start hE hM hR hc).own (X:=[]) (AI _) (λ_ h=>nomatch h) k1;have h1:=fN k ⟨p,0,none⟩;have h2:=gu k ⟨p,0,none⟩;have h3:=i9 k;refine callsIn_wide (n:=4).1 (callsIn_of_wp_marks (PM.func Tryz.func245 (by decide)) rfl trivial ?_ rfl);simp only[Tryz.ntmps245,SF,SH,SK,SP,SO,Sx,Sw,SG,Sy,SJ,SI];refine wpIn_wide.2 ?_;go_wp2;generalize w.alloc (.cells fY 221)=W1 at k1 n1 E1 ⊢;have hB1:=(E1.old hE q hSq).trans hB;have hRk1:=hRk.keep (w':=W1) λb hb _=>E1.old hE b hb
 have v1:W1.cell? ⟨g1,0,none⟩=some (.pointer (some ⟨q,0,none⟩)):=E1.caps.b1.cell 0;have v2:W1.cell? ⟨g2,0,none⟩=some (.int .i64 d):=E1.caps.b2.cell 0;have v3:W1.cell? ⟨g3,0,none⟩=some (.pointer (some ⟨E.m,0,none⟩)):=E1.caps.b3.cell 0;have v4:W1.cell? ⟨g4,0,none⟩=some (.int .i64 i):=E1.caps.b4.cell 0;have v5:W1.cell? ⟨q,1,none⟩=some (.iface (bn k) (.pointer (some ⟨p,0,none⟩))):=a7.cell hB1 1;have v6:W1.cell? ⟨q,2,none⟩=some (.int .i64 l):=a7.cell hB1 2;have v7:W1.cell? ⟨q,3,none⟩=some (.int .i64 m):=a7.cell hB1 3;replace E1:=up E1;replace n1:=up n1;replace hr:=up hr;have hB':=up hB;have hRk':=up hRk;clear hc hB hR hRk hM k1 hRk1 hB1;have hsz:=hE.size;rcases(TW (l<=(d:Int))).imp up up with hle|hle
 case' inl=>
  have h5:=hA.out;rw[if_pos hle.out]at h5;have d1:decide (l<=(d:Int))=true:=decide_eq_true hle.out;go_quiet (fail)
  replace E1:=up (E1.out.own (X:=[]) (AI _) (λ_ h=>nomatch h) ((Kq.refl W1).drewN nq));replace v1:=show(W1.drewN nq).cell? _=_ from v1;replace v2:=show(W1.drewN nq).cell? _=_ from v2;replace v3:=show(W1.drewN nq).cell? _=_ from v3;replace v4:=show(W1.drewN nq).cell? _=_ from v4;replace v5:=show(W1.drewN nq).cell? _=_ from v5;replace v6:=show(W1.drewN nq).cell? _=_ from v6;replace v7:=show(W1.drewN nq).cell? _=_ from v7;replace n1:=up (show a7 (W1.drewN nq) _ _ _ from n1.out);generalize W1.drewN nq=W2 at *;have hP:=oW w.heap.size i 0 W2 (by omega) n1.out;rw[SY,h5]at hP;replace hP:=up hP;replace h5:=up h5;go_wp2_with (first |(go_at_call 237;refine hP.out.mono ?_;rintro e W3 ⟨rfl,n3,k3⟩;have E3:=up (E1.out.own (X:=[w.heap.size]) E1.out.kq.kp.1 (λx hx=>by rw[x5.1 hx];exact AI _) k3);replace n3:=up n3;clear k3 E1 n1 v1 v2 v3 v4 v5 v6 v7 hP h5 hA d1)|fail)
 case' inr=>
  have h5:=hA.out;rw[if_neg hle.out]at h5;have d1:decide (l<=(d:Int))=false:=decide_eq_false hle.out;replace h5:=up h5;go_quiet (fail)
  replace E1:=up (E1.out.own (X:=[]) (AI _) (λ_ h=>nomatch h) ((Kq.refl W1).drewN nq));rw[h5.out]at n1;replace v1:=show(W1.drewN nq).cell? _=_ from v1;replace v2:=show(W1.drewN nq).cell? _=_ from v2;replace v3:=show(W1.drewN nq).cell? _=_ from v3;replace v4:=show(W1.drewN nq).cell? _=_ from v4;replace v5:=show(W1.drewN nq).cell? _=_ from v5;replace v6:=show(W1.drewN nq).cell? _=_ from v6;replace v7:=show(W1.drewN nq).cell? _=_ from v7;replace n1:=up (show a7 (W1.drewN nq) _ _ _ from n1.out);generalize W1.drewN nq=W3 at *;go_wp2;have E3:=E1;have n3:=n1;clear E1 n1 v1 v2 v3 v4 v5 v6 v7 h5 hA d1
 all_goals
  clear hle;have hB3:=(E3.out.old hE q hSq).trans hB'.out;have v1:W3.cell? ⟨g1,0,none⟩=some (.pointer (some ⟨q,0,none⟩)):=E3.out.caps.b1.cell 0;have v2:W3.cell? ⟨g2,0,none⟩=some (.int .i64 d):=E3.out.caps.b2.cell 0;have v3:W3.cell? ⟨g3,0,none⟩=some (.pointer (some ⟨E.m,0,none⟩)):=E3.out.caps.b3.cell 0;have v4:W3.cell? ⟨g4,0,none⟩=some (.int .i64 i):=E3.out.caps.b4.cell 0;have v5:W3.cell? ⟨q,1,none⟩=some (.iface (bn k) (.pointer (some ⟨p,0,none⟩))):=a7.cell hB3 1;have v7:W3.cell? ⟨q,3,none⟩=some (.int .i64 m):=a7.cell hB3 3;have fr:=E3.out.new;clear hB3;by_cases h7:(d:Int)=m
  .have h8:=hC.out;rw[if_pos h7]at h8;subst h8;have e1:((d:Int)==m)=true:=by simpa using h7
   replace h7:=up h7;go_quiet (fail)
   replace E3:=up (E3.out.own (X:=[]) (AI _) (λ_ h=>nomatch h) ((Kq.refl W3).drewN nq));replace n3:=up (show a7 (W3.drewN nq) _ _ _ from n3.out);replace v1:=show(W3.drewN nq).cell? _=_ from v1;generalize W3.drewN nq=W4 at *;have hb:=n3;have fz:∀j,W4.frozen? ⟨w.heap.size,j,none⟩=false:=hb.out.frozen;have r0:W4.cell? ⟨w.heap.size,0,none⟩=some (.int .u64 (wz A.testBit 0)):=hb.out.cell 0;have r1:W4.cell? ⟨w.heap.size,1,none⟩=some (.int .u64 (wz A.testBit 1)):=hb.out.cell 1;have r2:W4.cell? ⟨w.heap.size,2,none⟩=some (.int .u64 (wz A.testBit 2)):=hb.out.cell 2;have r3:W4.cell? ⟨w.heap.size,3,none⟩=some (.int .u64 (wz A.testBit 3)):=hb.out.cell 3;have r4:W4.cell? ⟨w.heap.size,4,none⟩=some (.int .u64 (wz A.testBit 4)):=hb.out.cell 4;go_wp2;refine GS rfl rfl (dc hb.out) rfl ?_;have E5:=E3.out.own (X:=[w.heap.size]) E3.out.kq.kp.1 (λx hx=>by rw[x5.1 hx];exact AI _) (ba (q:=A) (g:=w.heap.size) (Kq.refl (B:=W4.heap.size) (X:=[w.heap.size]) W4) λ_=>x5.2 rfl);exact⟨by rw[TF],E5.mem,E5.kq⟩
  .have h8:=hC.out;rw[if_neg h7]at h8;subst h8;have e1:((d:Int)==m)=false:=by simpa using h7
   replace h7:=up h7;go_quiet (fail)
   replace E3:=up (E3.out.own (X:=[]) (AI _) (λ_ h=>nomatch h) ((Kq.refl W3).drewN nq));replace n3:=up (show a7 (W3.drewN nq) _ _ _ from n3.out);replace v1:=show(W3.drewN nq).cell? _=_ from v1;replace v2:=show(W3.drewN nq).cell? _=_ from v2;replace v3:=show(W3.drewN nq).cell? _=_ from v3;replace v4:=show(W3.drewN nq).cell? _=_ from v4;replace v5:=show(W3.drewN nq).cell? _=_ from v5;replace v7:=show(W3.drewN nq).cell? _=_ from v7;generalize W3.drewN nq=W4 at *;have h9:=hRk'.out.keep (w':=W4.drew) λb hb _=>E3.out.old hE b hb
   have hh:=up (hk W4.drew p i (E3.out.mem.kq (Kq.refl _).drew) h9 hi);replace E3:=up (E3.out.own (X:=[]) (AI _) (λ_ h=>nomatch h) (Kq.refl W4).drew);have n4:Hid (a7 W4.drew w.heap.size 221 (cR A)):=up n3.out;clear h9 n3;go_wp2;go_still_tail 6,by kernel_rfl
   change wpList _ _ _ _ _ W4.drew;go_wp2;refine hh.out.mono ?_;rintro e w5 ⟨rfl,hm,k5⟩;have E5:=up (E3.out.asked hE hm k5);have n5:=up (E3.out.stay n4.out (AI _) k5);clear hh hm k5 E3 n4 v1 v2 v3 v4 v5 v7 h1 h2 h3 e1;go_wp2;have hw:=up (bZ E.M k i hi);refine wpIn_wide (n:=4).1 (qe (X:=[E.r,w.heap.size]) (t:=29) (p:=bv E.M k i) (by decide) rfl ?_
    (λj W=>EB E (.rep id k l m) 286 q g1 g2 g3 g4 d i w W/\∃r,a7 W w.heap.size 221 (cR r)/\r|||dN G (bv E.M k i) j=A|||dN G (bv E.M k i) 320)
    (λ_ _ _=>False) ?_ (λ_ _ _ _ h _=>h) ?_ ?_ ?_ ?_ ?_ ?_ λ_ _ _ _ _ h=>h.elim)
   case refine_6=>
    intro ll j W K hK;gi_wp2
    exact hK
   case refine_1=>
    intro x hx;have:=n5.out.lt;have:=E5.out.kq.kp.1;simp only[OF,AS,or_false]at hx;rcases hx with rfl|rfl<;>omega
   case refine_2=>
    rintro j W W' ⟨h0,r,h6,h4⟩ hk;have h2:=n5.out.lt;exact⟨h0.own (X:=[]) (Ty h2) (λ_ h=>nomatch h) hk,r,h6.kq hk h2 AS,h4⟩
   case refine_3=>
    rintro j W ⟨h0,r,h6,h4⟩ hb;refine⟨h0,r,h6,?_⟩;rw[<- h4,dN,if_neg (by rw[hb];simp),SY]
   case refine_4=>exact⟨E5.out,A,n5.out,rfl⟩
   case refine_8=>
    rintro W ⟨h0,r,h6,h4⟩ hK;have hlt2:=n5.out.lt;rw[dN,TF]at h4;subst h4;have hb:=up h6;have hq:=up h0;clear h6 h0 hr;generalize A|||dN G (bv E.M k i) 320=P at *
    have fz:∀j,W.frozen? ⟨w.heap.size,j,none⟩=false:=hb.out.frozen;have r0:W.cell? ⟨w.heap.size,0,none⟩=some (.int .u64 (wz P.testBit 0)):=hb.out.cell 0;have r1:W.cell? ⟨w.heap.size,1,none⟩=some (.int .u64 (wz P.testBit 1)):=hb.out.cell 1;have r2:W.cell? ⟨w.heap.size,2,none⟩=some (.int .u64 (wz P.testBit 2)):=hb.out.cell 2;have r3:W.cell? ⟨w.heap.size,3,none⟩=some (.int .u64 (wz P.testBit 3)):=hb.out.cell 3;have r4:W.cell? ⟨w.heap.size,4,none⟩=some (.int .u64 (wz P.testBit 4)):=hb.out.cell 4;replace hK:=up hK;go_wp2;have b5:=dc (q:=P) hb.out;have kf:=ba (q:=P) (g:=w.heap.size) (Kq.refl (B:=w5.heap.size+1) (X:=[w.heap.size]) W) λ_=>x5.2 rfl
    generalize TO _ _ _=WF at b5 kf ⊢;have hD:=(kf.kp.2 w5.heap.size (T6 _) λhx=>by have:=x5.1 hx;omega).trans hK.out;refine Ax rfl rfl b5 rfl hD λhg=> ?_
    have E4:=hq.out.own (X:=[w.heap.size]) E5.out.kq.kp.1 (λx hx=>by rw[x5.1 hx];exact AI _) ((kf.mono (TY _) λ_ h _=>h).put (l:=w5.heap.size) (λh=>absurd h (SC _)) (.deferred none));exact⟨rfl,E4.mem,E4.kq⟩
   case refine_7=>
    rintro ll j W hlt hj hb ⟨h0,r,h6,h4⟩;have ho:=hw.out j hb;rw[dN,if_pos hb]at h4;have ha:=up h0;have n6:=up h6;have v1:W.cell? ⟨g1,0,none⟩=some (.pointer (some ⟨q,0,none⟩)):=h0.caps.b1.cell 0;have v2:W.cell? ⟨g2,0,none⟩=some (.int .i64 d):=h0.caps.b2.cell 0;have v3:W.cell? ⟨g3,0,none⟩=some (.pointer (some ⟨E.m,0,none⟩)):=h0.caps.b3.cell 0;have v4:W.cell? ⟨g4,0,none⟩=some (.int .i64 i):=h0.caps.b4.cell 0;have hp:=(h0.old hE q hSq).trans hB'.out;have v6:W.cell? ⟨q,2,none⟩=some (.int .i64 l):=a7.cell hp 2;clear h0 h6 hp;gi_wp2
    have hL:∀{K:Act->If->Prop}{Y Yx},¬ LetsOut (Exit.then K (TV 1 (jY [E.r,w.heap.size] W Y Yx))):=λ⟨_,_,h⟩=>h
    rcases(TW (i<j\/(d:Int)<l)).imp up up with hc|hc
    .have he:G j=dI E.M k l m (bS l m d) j:=by rw[<- hG.out];exact if_pos hc.out
     rw[he]at h4;rcases(TW (i<j)).imp up up with hij|hij
     case' inl=>
      have e1:decide (i<j)=true:=decide_eq_true hij.out
     case' inr=>
      have e1:decide (i<j)=false:=decide_eq_false hij.out;have e2:decide ((d:Int)<l)=true:=decide_eq_true (hc.out.resolve_left hij.out)
     all_goals
      refine oT (by kernel_rfl) hL (by kernel_rfl) (by kernel_rfl) ?_;repeat(go_big_quiet_step (fail))
      refine wpQuiet_nil ?_;intro _ hf;obtain⟨nq,rfl⟩:=hf;have hS:EB E (.rep id k l m) 286 q g1 g2 g3 g4 d i w (W.drewN nq).drew:=ha.out.own (X:=[]) (AI _) (λ_ h=>nomatch h) ((Kq.refl W).drewN nq).drew;have n7:Hid (a7 (W.drewN nq).drew w.heap.size 221 (cR r)):=up n6.out;have z0:W.heap.size=(W.drewN nq).drew.heap.size:=rfl;have kW:Hid (Kq W.heap.size [] W (W.drewN nq).drew):=up ((Kq.refl W).drewN nq).drew;clear v1 v2 v3 v4 v6 ha n6 e1;gi_wp2
      have hL2:∀{Y Yx},¬ LetsOut (TV 1 (jY [E.r,w.heap.size] W Y Yx)):=λ⟨_,_,h⟩=>h
      refine gO (S:=EB E (.rep id k l m) 286 q g1 g2 g3 g4 d i w) (by kernel_rfl) hL2 (by kernel_rfl) ?_;show wpAnyH _ _ _ _ _ 8 _ _ (W.drewN nq).drew;generalize (W.drewN nq).drew=W6 at hS n7 kW z0 ⊢;refine takeD 0 41 (.pointer (some ⟨q,0,none⟩)) rfl rfl (by kernel_rfl) (by kernel_rfl) (by kernel_rfl) (λ_ _ _ h=>h) (Tk ⟨by rfl,λw' hS'=> ?_⟩) hS ?_
      .have h1:=hS'.caps.b1.cell 0;go_simp
      simp only[SM,zq0];refine takeD 1 42 (.pointer (some ⟨E.m,0,none⟩)) rfl rfl (by kernel_rfl) (by kernel_rfl) (by kernel_rfl) (λ_ _ _ h=>h) (Tk ⟨by rfl,λw' hS'=> ?_⟩) hS ?_
      .have h1:=hS'.caps.b3.cell 0;go_simp
      simp only[SM,zq0];refine takeD 2 43 (.pointer (some ⟨q,0,none⟩)) rfl rfl (by kernel_rfl) (by kernel_rfl) (by kernel_rfl) (λ_ _ _ h=>h) (Tk ⟨by rfl,λw' hS'=> ?_⟩) hS ?_
      .have h1:=hS'.caps.b1.cell 0;go_simp
      simp only[SM,zq0];refine takeD 3 44 (.int .i64 d) rfl rfl (by kernel_rfl) (by kernel_rfl) (by kernel_rfl) (λ_ _ _ h=>h) (Tk ⟨by rfl,λw' hS'=> ?_⟩) hS ?_
      .have h1:=hS'.caps.b2.cell 0;go_simp
      simp only[SM,zq0];refine takeD 5 46 (.int .i64 j) rfl rfl (by kernel_rfl) (by kernel_rfl) (by kernel_rfl) (λ_ _ _ h=>h) (Tk ⟨by rfl,λw' hS'=> ?_⟩) hS ?_
      .skip
       go_simp
      simp only[SM,zq0];have hA:=o9 ((hS.old hE q hSq).trans hB'.out) hd;refine wZ (R:=λu=>u=W6) 4 45 _ 244 _ rfl rfl rfl (by kernel_rfl) (by go_simp) hA ?_;rintro u hu;subst u;refine⟨hS,?_⟩;simp only[SM,zq0];have hR:=hr.out W6 j hS.mem hS.rep ho.2 ho.1 hc.out;refine wZ (R:=λu=>cI E u/\Kq W6.heap.size [E.r] W6 u) 6 47 _ 243 #[.pointer (some ⟨q,0,none⟩),.pointer (some ⟨E.m,0,none⟩),.int .i64 (bS l m d:Nat),.int .i64 j] rfl rfl rfl (by kernel_rfl) (by go_simp) hR ?_;rintro W7 ⟨hs,k7⟩;have E7:=hS.asked hE hs k7;have n8:=hS.stay n7.out (AI _) k7;refine⟨E7,?_⟩;simp only[SM,zq0];have hJ:=r5 w.heap.size r (dI E.M k l m (bS l m d) j) W7 n8;refine wZ (R:=λu=>a7 u w.heap.size 221 (cR (r|||dI E.M k l m (bS l m d) j))/\Kq W7.heap.size [w.heap.size] W7 u) 7 48 _ 232 #[.pointer (some ⟨w.heap.size,0,none⟩),ep (dI E.M k l m (bS l m d) j)] rfl rfl rfl (by kernel_rfl) (by go_simp) hJ ?_;rintro W8 ⟨b8,k8⟩;have E8:=E7.own (X:=[w.heap.size]) E7.kq.kp.1 (λx hx=>by rw[x5.1 hx];exact AI _) k8;refine⟨E8,wpAnyH_done (by kernel_rfl) ?_ _⟩;have z1:=k7.kp.1;refine⟨((kW.out.mono (AI _) nofun).trans (k7.mono (by omega) λx hx _=>by simp at hx ⊢;exact .inl hx)).trans (k8.mono (by omega) λx hx _=>by simp at hx ⊢;exact .inr hx),E8,_,b8,?_⟩;rw[<- h4,TQ]
    .have he:G j=0:=by rw[<- hG.out];exact if_neg hc.out
     rw[he,SY]at h4;have e1:decide (i<j)=false:=decide_eq_false λh=>hc.out (.inl h)
     have e2:decide ((d:Int)<l)=false:=decide_eq_false λh=>hc.out (.inr h)
     refine oT (by kernel_rfl) hL (by kernel_rfl) (by kernel_rfl) ?_;repeat(go_big_quiet_step (fail))
     refine wpQuiet_nil ?_;intro _ hf;obtain⟨nq,rfl⟩:=hf;gi_wp2
     exact⟨(Kq.refl W).drewN nq,ha.out.own (X:=[]) (AI _) (λ_ h=>nomatch h) ((Kq.refl W).drewN nq),r,n6.out,h4⟩
end
section
open Go.RowKit
theorem uo{E}(hE:fu E){id l m k}(hk:gy E k)(hn:Nd.rep id k l m∈subs E.R)(n):∀(d i:Nat),(l-d).toNat+(E.M.s.size-i)<n->d+n<=2000000->∀w q,cI E w->Repr w E.S (.iface 286 (.pointer (some ⟨q,0,none⟩))) (.rep id k l m)->i<=E.M.s.size->
 Calls PM 243 #[.pointer (some ⟨q,0,none⟩),.pointer (some ⟨E.m,0,none⟩),.int .i64 d,.int .i64 i] w (iH E i (dI E.M k l m d i) w):=by
 induction n with
 |zero=>intro d i h;omega
 |succ n ih=>
  intro d i hlt hd w q hM hR hi;obtain⟨v,hB⟩:∃v,a7 w q 288 #[.int .i64 id,v,.int .i64 l,.int .i64 m]:=by
   cases hR with
   |rep a b c=>exact⟨_,b⟩
  obtain⟨hc,n1,k1⟩:=KL w 286 q E.m d i;go_enter PM.func Tryz.func243 (by decide),Tryz.ntmps243
  go_wp2;generalize T9 _ _=W1 at hc n1 k1 ⊢;have hM1:=hM.kq k1;have hR1:=hR.keep (w':=W1) λb _ hlt=>k1.kp.2 b hlt AS
  have hB1:=hB.kq k1 hB.lt AS;have fr:=hM.fresh hE;have v1:W1.cell? ⟨w.heap.size,0,none⟩=some (.pointer (some ⟨q,0,none⟩)):=hc.b1.cell 0;have v2:W1.cell? ⟨w.heap.size+1+1,0,none⟩=some (.int .i64 d):=hc.b2.cell 0;have v3:W1.cell? ⟨w.heap.size+1,0,none⟩=some (.pointer (some ⟨E.m,0,none⟩)):=hc.b3.cell 0;have v4:W1.cell? ⟨w.heap.size+1+1+1,0,none⟩=some (.int .i64 i):=hc.b4.cell 0;have v6:W1.cell? ⟨q,0,none⟩=some (.int .i64 id):=hB1.cell 0;replace hc:=up hc;replace n1:=up n1;replace k1:=up k1;replace hM1:=up hM1;replace hR1:=up hR1;replace hlt:=up hlt;clear hM hR hB hB1;go_still_tail 10,by kernel_rfl
  change wpList _ _ _ _ _ W1.drew;go_wp2;have h0:∀args w,(IN 245 args).run PM w= .ok (.enter 245 args) w:=λargs w=>PM.MK args w
  have hz:=k1.out.kp.1;refine(y7 hE hn (d:=d) (i:=i) (by omega) (by have:=hE.size;omega) rfl 245 _ W1.drew h0 (hM1.out.kq (Kq.refl _).drew) λw1 kw h2=> ?_).mono ?_
  .refine AA hE hk hn (by omega) hi h2 (hR1.out.keep λb _ hlt=>kw.kp.2 b hlt AS) ((hc.out.kq (Kq.refl W1).drew λg hg=>⟨hc.out.lt g hg,AS⟩).kq kw λg hg=>⟨hc.out.lt g hg,AS⟩) λw2 c hm h3 hcs hic hgo=> ?_
   have:=hlt.out;exact ih (bS l m d) c (by unfold bS;split <;>omega) (by unfold bS;split <;>omega) w2 q hm h3 hcs
  .rintro e w4 ⟨rfl,h1,k4⟩;have k4':Kq W1.heap.size [E.r] W1 w4:=⟨k4.kp,k4.os,k4.out⟩;have hb:=up (n1.out.kq k4' n1.out.lt λhx=>by have:=x5.1 hx;omega);have hk:=up ((k1.out.mono (AI _) nofun:Kq w.heap.size [E.r] w W1).trans (k4'.mono hz λ_ h _=>h));have hm:=up h1;clear k4 k4' h1 n1 k1 hc hR1 hM1 v1 v2 v3 v4 v6 hlt;generalize dI E.M _ l m d i=P at *;have fz:∀j,w4.frozen? ⟨w.heap.size+1+1+1+1,j,none⟩=false:=hb.out.frozen;have r0:w4.cell? ⟨w.heap.size+1+1+1+1,0,none⟩=some (.int .u64 (wz (BY 0) 0)):=hb.out.cell 0;have r1:w4.cell? ⟨w.heap.size+1+1+1+1,1,none⟩=some (.int .u64 (wz (BY 0) 1)):=hb.out.cell 1;have r2:w4.cell? ⟨w.heap.size+1+1+1+1,2,none⟩=some (.int .u64 (wz (BY 0) 2)):=hb.out.cell 2;have r3:w4.cell? ⟨w.heap.size+1+1+1+1,3,none⟩=some (.int .u64 (wz (BY 0) 3)):=hb.out.cell 3;have r4:w4.cell? ⟨w.heap.size+1+1+1+1,4,none⟩=some (.int .u64 (wz (BY 0) 4)):=hb.out.cell 4;unfold ep cR fU;go_wp2;refine cO rfl rfl (dc hb.out) rfl ⟨rfl,hm.out.hZ hE (X:=[w.heap.size+1+1+1+1]) (λx hx=> ?_) (ba (Kq.refl _) λ_=>x5.2 rfl),ba hk.out λh=>absurd h (by omega)⟩;obtain rfl:=x5.1 hx;exact⟨by omega,by omega,λh=>by have:=fr.2.2 _ h;omega⟩
theorem CV{E}(hE:fu E){id l m k}(hk:gy E k)(hn:Nd.rep id k l m∈subs E.R):gy E (.rep id k l m):=by
 intro w q i hM hR hi;rw[yK];show Calls PM 240 _ _ _;have hl:=hE.rep id k l m hn;have hsz:=hE.size;have k1:Kq w.heap.size [] w (w.alloc (.cells fY 221)):=(Kq.refl w).alloc (AI _) _;have n1:a7 (w.alloc (.cells fY 221)) w.heap.size 221 (cR 0):=by rw[dz];exact a7.new w 221 _
 have fr:=hM.fresh hE;have hC:=uo hE hk hn (l.toNat+400) 0 i (by omega) (by omega) _ q (hM.kq k1) (hR.keep λb hb hlt=>k1.kp.2 b hlt AS) hi;replace hC:=up hC;replace k1:=up k1;replace n1:=up n1;clear hM hR hk;generalize dI E.M k l m 0 i=P at *;go_enter PM.func Tryz.func240 (by decide),Tryz.ntmps240
 go_wp2;refine hC.out.mono ?_;rintro e w2 ⟨rfl,h0,k2⟩;have hb:=up (n1.out.kq k2 n1.out.lt λhx=>by have:=x5.1 hx;omega);have hk:=up ((k1.out.mono (AI _) nofun:Kq w.heap.size [E.r] w _).trans (k2.mono k1.out.kp.1 λ_ h _=>h));have hm:=up h0;clear hC k1 n1 h0 k2;have fz:∀j,w2.frozen? ⟨w.heap.size,j,none⟩=false:=hb.out.frozen;have r0:w2.cell? ⟨w.heap.size,0,none⟩=some (.int .u64 (wz (BY 0) 0)):=hb.out.cell 0;have r1:w2.cell? ⟨w.heap.size,1,none⟩=some (.int .u64 (wz (BY 0) 1)):=hb.out.cell 1;have r2:w2.cell? ⟨w.heap.size,2,none⟩=some (.int .u64 (wz (BY 0) 2)):=hb.out.cell 2;have r3:w2.cell? ⟨w.heap.size,3,none⟩=some (.int .u64 (wz (BY 0) 3)):=hb.out.cell 3;have r4:w2.cell? ⟨w.heap.size,4,none⟩=some (.int .u64 (wz (BY 0) 4)):=hb.out.cell 4;unfold ep cR fU;go_wp2;refine cO rfl rfl (dc hb.out) rfl ⟨rfl,hm.out.hZ hE (X:=[w.heap.size]) (λx hx=> ?_) (ba (Kq.refl _) λ_=>x5.2 rfl),ba hk.out λh=>absurd h (by omega)⟩;grind
theorem sub_self:∀nd,nd∈subs nd
 | .set .. =>by simp[subs]
 | .edge .. =>by simp[subs]
 | .seq .. =>by simp[subs]
 | .alt .. =>by simp[subs]
 | .grp .. =>by simp[subs]
 | .rep .. =>by simp[subs]
structure te(E:ME):Prop where
 set:∀i a b c d,Nd.set i a b c d∈subs E.R->Bt a/\Bt b/\Bt c/\Bt d
 alt:∀i ks,Nd.alt i ks∈subs E.R->ks.length<1000000
mutual
theorem ox{E}(hE:fu E)(hW:te E):∀nd,(∀a∈subs nd,a∈subs E.R)->gy E nd
 | .set i a b c d,h=>λw q j hM hR hi=>by
  cases hR with
  |set _ hB=>
   obtain⟨h0,h1,h2,h3⟩:=hW.set i a b c d (h _ (sub_self _));exact CL hE h0 h1 h2 h3 hM hB hi
 | .edge i f,h=>λw q j hM hR hi=>by
  cases hR with
  |edge _ hB=>exact BF hE hM hB hi
 | .seq i ks,h=>CN hE (ul hE (mp hE hW ks λa ha=>h a (by rw[subs];grind)) (h _ (sub_self _)) _ 0 rfl (Tl _))
 | .alt i ks,h=>Do hE (mp hE hW ks λa ha=>h a (by rw[subs];grind)) (h _ (sub_self _)) (hW.alt i ks (h _ (sub_self _)))
 | .grp i k n,h=>Db hE (ox hE hW k λa ha=>h a (by rw[subs];grind))
 | .rep i k l m,h=>CV hE (ox hE hW k λa ha=>h a (by rw[subs];grind)) (h _ (sub_self _))
theorem mp{E:ME}(hE:fu E)(hW:te E):∀ks,(∀a∈gJ ks,a∈subs E.R)->∀k∈ks,gy E k
 |[],_,k,hk=>by cases hk
 |x::ks,h,k,hk=>by
  rcases OF.1 hk with e|hk
  .have:=ox hE hW x λa ha=>h a (TN _ ha)
   rw[e];omega
  .exact mp hE hW ks (λa ha=>h a (TI _ ha)) k hk
end
def du(T:cS)(l:List B4):cS:=λc=>T c||l.any λb=>iw b.1 b.2.1 b.2.2.1 b.2.2.2 c
theorem se(T):du T []=T:=funext λc=>by simp[du]
theorem sf(T a b):du T (a++b)=du (du T a) b:=funext λc=>by simp[du,Bool.or_assoc]
def firstFn:Nd->Nat
 | .set .. =>250
 | .edge .. =>247
 | .seq .. =>234
 | .alt .. =>227
 | .grp .. =>253
 | .rep .. =>241
theorem ja(nd a w):(method 455 (bn nd) (.pointer (some a)) "posix/tree.first").run PM w= .ok (firstFn nd,.pointer (some a)) w:=by cases nd<;>kernel_rfl
theorem jL(nd a w):(nilAhead 455 (bn nd) (.pointer (some a)) "posix/tree.first").run PM w= .ok (some false) w:=by cases nd<;>kernel_rfl
theorem kX(nd args w):(IN (firstFn nd) args).run PM w= .ok (.enter (firstFn nd) args) w:=by cases nd<;>simp[firstFn,go_sem]
def oL(b:Nat)(T:cS)(x:List B4×Bool)(w:If)(e:Ending)(w':If):Prop:=e= .returned (.bool x.2)/\a7 w' b 101 (words (du T x.1))/\Kq w.heap.size [b] w w'
def fh(S:Nat->Prop)(nd:Nd):Prop:=∀(w:If)(q b:Nat)(T:cS),Repr w S (.iface (bn nd) (.pointer (some ⟨q,0,none⟩))) nd->¬ S b->a7 w b 101 (words T)->
 Calls PM (firstFn nd) #[.pointer (some ⟨q,0,none⟩),.pointer (some ⟨b,0,none⟩)] w (oL b T (bj nd) w)
theorem zt{S i f}:fh S (.edge i f):=by
 intro w q b T hR hb hB;show Calls PM 247 _ _ _;go_enter PM.func Tryz.func247 (by decide),Tryz.ntmps247
 go_wp2;go_ret;exact⟨rfl,by rw[bj,se];exact(up hB).out,.refl _⟩
theorem Bq{S id num k}(hk:fh S k):fh S (.grp id k num):=by
 intro w q b T hR hb hB;rw[bj];cases hR with
 |grp hS h0 hRk=>
 obtain⟨p,rfl⟩:=ed hRk;have h1:=ja k ⟨p,0,none⟩;have h2:=jL k ⟨p,0,none⟩;have h3:=kX k;have c1:w.cell? ⟨q,1,none⟩=some (.iface (bn k) (.pointer (some ⟨p,0,none⟩))):=h0.cell 1;have hC:=up (hk w p b T hRk hb hB);clear hk hRk h0 hB;show Calls PM 253 _ _ _;go_enter PM.func Tryz.func253 (by decide),Tryz.ntmps253
 go_wp2;refine hC.out.mono ?_;rintro e w2 ⟨rfl,hb2,k2⟩;have r:=up (show oL b T (bj k) w (.returned (.bool (bj k).2)) w2 from⟨rfl,hb2,k2⟩);clear hb2 k2 hC c1 h1 h2 h3;generalize (bj k).2=x at *;go_wp2;go_ret;exact r.out
theorem AB{S id l m k}(hl:I64 l)(hk:fh S k):fh S (.rep id k l m):=by
 intro w q b T hR hb hB;rw[bj];cases hR with
 |rep hS h0 hRk=>
 obtain⟨p,rfl⟩:=ed hRk;have h1:=ja k ⟨p,0,none⟩;have h2:=jL k ⟨p,0,none⟩;have h3:=kX k;have c1:w.cell? ⟨q,1,none⟩=some (.iface (bn k) (.pointer (some ⟨p,0,none⟩))):=h0.cell 1;have hC:=up (hk w p b T hRk hb hB);have hq:=h0.lt;have hne:q∉[b]:=λh=>hb (x5.1 h▸hS)
 have hBq':=up h0;clear hk hRk h0 hB;show Calls PM 241 _ _ _;go_enter PM.func Tryz.func241 (by decide),Tryz.ntmps241
 go_wp2;refine hC.out.mono ?_;rintro e w2 ⟨rfl,hb2,k2⟩;have r:∀x,x=((bj k).2||l==0)->Hid (oL b T ((bj k).1,(bj k).2||l==0) w (.returned (.bool x)) w2):=λx hx=>up (by rw[hx];exact⟨rfl,hb2,k2⟩)
 have c2:w2.cell? ⟨q,2,none⟩=some (.int .i64 l):=(hBq'.out.kq k2 hq hne).cell 2;replace r:=up r;clear hb2 k2 hC c1 h1 h2 h3;cases hx:(bj k).2
 .by_cases h4:l=0
  .have e1:(l==0)=true:=by simp[h4]
   go_wp2;go_ret;exact(r.out _ (by rw[hx,e1];rfl)).out
  .have e1:(l==0)=false:=by simp[h4]
   go_wp2;go_ret;exact(r.out _ (by rw[hx,e1];rfl)).out
 .go_wp2;go_ret;exact(r.out _ (by rw[hx];rfl)).out
def nN(f:Nat->Int):Array SW:=#[.int .u64 (f 0),.int .u64 (f 1),.int .u64 (f 2),.int .u64 (f 3)]
theorem J4{w q t f i}(h:a7 w q t (nN f))(hi:i<4):w.cell? ⟨q,i,none⟩=some (.int .u64 (f i)):=by
 have:=h.cell i;rw[this];match i,hi with
 |0,_=>rfl
 |1,_=>rfl
 |2,_=>rfl
 |3,_=>rfl
theorem LD{w q t f g i}(h:a7 w q t (nN f))(hi:i<4)(ho:∀j,j≠i->g j=f j):a7 (w.setCell ⟨q,i,none⟩ (.int .u64 (g i))) q t (nN g):=by
 have:=h.bI i (.int .u64 (g i));have e:(nN f).setIfInBounds i (.int .u64 (g i))=nN g:=by
  match i,hi with
  |0,_=>simp[nN,ho 1,ho 2,ho 3]
  |1,_=>simp[nN,ho 0,ho 2,ho 3]
  |2,_=>simp[nN,ho 0,ho 1,ho 3]
  |3,_=>simp[nN,ho 0,ho 1,ho 2]
 rw[e]at this;omega
theorem GF{w q S id k}(h:a7 w q 307 #[.int .i64 id,.int .u64 (wz S 0),.int .u64 (wz S 1),.int .u64 (wz S 2),.int .u64 (wz S 3)])(hk:k<4):w.cell? ⟨q,1+k,none⟩=some (.int .u64 (wz S k)):=by
 rw[h.cell (1+k)];match k,hk with
 |0,_=>rfl
 |1,_=>rfl
 |2,_=>rfl
 |3,_=>rfl
theorem Ar{S id b0 b1 b2 b3}(h0:0<=b0/\b0<18446744073709551616)(h1:0<=b1/\b1<18446744073709551616)(h2:0<=b2/\b2<18446744073709551616)(h3:0<=b3/\b3<18446744073709551616):fh S (.set id b0 b1 b2 b3):=by
 intro w q b T hR hb hB;rw[bj];obtain⟨hSq,h5⟩:S q/\a7 w q 307 #[.int .i64 id,.int .u64 b0,.int .u64 b1,.int .u64 b2,.int .u64 b3]:=by
  cases hR with
  |set a b=>exact⟨a,b⟩
 obtain⟨R,hw,rfl,rfl,rfl,rfl⟩:=Lk h0 h1 h2 h3;have hn:∀i,i<4->wz (du T [(wz R 0,wz R 1,wz R 2,wz R 3)]) i=bits .or .u64 (wz T i) (wz R i):=λi hi=>by
  rw[Dp];refine nL λj hj=> ?_
  simp only[du,List.any_cons,List.any_nil,Bool.or_false];rw[hw _ (by omega)]
 obtain⟨V,hV⟩:∃V,du T [(wz R 0,wz R 1,wz R 2,wz R 3)]=V:=⟨_,rfl⟩;rw[hV]at hn;replace hV:=up hV;have hne:q≠b:=λh=>hb (h▸hSq)
 have hqs:=h5.lt;replace hn:=up hn;replace hne:=up hne;replace hB:a7 w b 101 (nN (wz T)):=hB;replace hB:=up hB;replace h5:=up h5;clear hw h0 h1 h2 h3 hSq hR hb;show Calls PM 250 _ _ _;go_enter PM.func Tryz.func250 (by decide),Tryz.ntmps250
 go_wp2;go_loopw [6] (λc wr=>∃k:Nat,k<=4/\c= .int .i64 k/\a7 wr b 101 (nN λj=>if j<k then wz V j else wz T j)/\Kq w.heap.size [b] w wr) λc _=>4- (intOf c).toNat
 case atStart=>exact⟨0,by omega,rfl,by simpa using hB.out,.refl _⟩
 case round=>
  obtain⟨k,hk5,rfl,h4,hK⟩:=hrel;clear hB;have h6:=up h4;have hK':=up hK;by_cases h:k<4
  .have c0:wr.cell? ⟨b,k,none⟩=some (.int .u64 (wz T k)):=(J4 h4 h).trans (by rw[if_neg (SC _)]);have c1:wr.cell? ⟨q,1+k,none⟩=some (.int .u64 (wz R k)):=GF (h5.out.kq hK hqs λhx=>hne.out (x5.1 hx)) h;have f0:∀i,wr.frozen? ⟨b,i,none⟩=false:=h4.frozen;have e0:=(hn.out k h).symm;clear h4 hK;obtain⟨z,hz⟩:∃z,wz V k=z:=⟨_,rfl⟩;rw[hz]at e0;replace hz:=up hz;go_wp2;go_region
   go_wp2;go_roundw
   case rel=>
    refine⟨k+1,by omega,by push_cast;rfl,?_,(hK'.out.setCell (p:=⟨b,k,none⟩) (λ_=>x5.2 rfl) _).drew⟩;have:=LD (g:=λj=>if j<k+1 then wz V j else wz T j) h6.out h λj hj=>by
     by_cases h1:j<k
     .rw[if_pos h1,if_pos (Tw h1)]
     .rw[if_neg h1,if_neg (by omega)]
    rw[if_pos (T6 k),hz.out]at this;exact this.drew
   case measure=>simp[intOf];omega
  .obtain rfl:k=4:=by omega
   clear h4 hK;go_wp2;go_ret;exact⟨rfl,by show a7 _ _ _ (words (du _ _));rw[hV.out];exact h6.out,hK'.out⟩
theorem Au{S id ks}(hk:∀k∈ks,fh S k)(hlen:ks.length<1000000):fh S (.seq id ks):=by
 intro w q b T hR hb hB;rw[bj];obtain⟨sl,vs,h5,hrow,hS,h7,hkid⟩:∃sl vs,a7 w q 269 #[.int .i64 id,sl]/\w.ownsRow 0 86 1 sl vs.length vs/\(∀b,sl.ownBlock=some b->S b)/\vs.length=ks.length/\∀(i:Nat) v k,vs[i]?=some v->ks[i]?=some k->Repr w S v k:=by
  cases hR with
  |seq a b c d e f=>exact⟨_,_,b,c,d,e,f⟩
 obtain⟨sa,cap,rfl⟩:=nH hrow;rw[h7]at h5;have v5:w.cell? ⟨q,1,none⟩=some (.slice sa ks.length cap):=h5.cell 1;replace hB:Hid (a7 w b 101 (words T)):=up hB;replace hkid:=up hkid;replace hrow:=up hrow;replace hk:=up hk;clear hR h5;show Calls PM 234 _ _ _;go_enter PM.func Tryz.func234 (by decide),Tryz.ntmps234
 go_wp2;go_loopw [12] (λc wr=>∃(n:Nat)(V:cS),n<=ks.length/\c= .int .i64 n/\a7 wr b 101 (words V)/\Kq w.heap.size [b] w wr/\du V (iD (ks.drop n)).1=du T (iD ks).1/\(iD (ks.drop n)).2=(iD ks).2) λc _=>ks.length- (intOf c).toNat
 case atStart=>exact⟨0,T,Tl _,rfl,hB.out,.refl _,by rw[SE],by rw[SE]⟩
 case round=>
  clear hB v5;obtain⟨n,V,hnl,rfl,h4,hK,hV,hx⟩:=hrel;rcases Tc n ks.length with hlt|hge
  .obtain⟨gr,cap',cur,he,hGr,h0⟩:=o7 hrow.out (By (by omega:n<vs.length));cases he;have hSg:=hS gr rfl;have hSw:∀a,S a->a∉[b]:=λa ha h=>hb (x5.1 h▸ha)
   have hG2:a7 wr gr 86 cur:=hGr.kq hK hGr.lt (hSw _ hSg);have hRk:=(hkid.out n _ _ (By (by omega)) (By hlt)).keep (w':=wr) λa ha h=>hK.kp.2 a h (hSw _ ha)
   obtain⟨p,hp⟩:=ed hRk;rw[hp]at h0 hRk;have hC:=hk.out ks[n] (SL hlt) wr p b V hRk hb h4;rw[Su hlt,iD]at hV hx;have h1:=ja ks[n] ⟨p,0,none⟩;have h2:=jL ks[n] ⟨p,0,none⟩;have h3:=kX ks[n];have v6:wr.cell? ⟨gr,n,none⟩=some (.iface (bn ks[n]) (.pointer (some ⟨p,0,none⟩))):=(hG2.cell n).trans h0;replace hC:=up hC;replace hV:=up hV;replace hx:=up hx;replace hK:=up hK;clear hGr hG2 hRk h0 hp h4;generalize hfk:firstFn ks[n]=fk at *;generalize htk:bn ks[n]=tk at *;generalize hP:bj ks[n]=P at *;go_wp2;refine hC.out.mono ?_;rintro e w3 ⟨rfl,hb3,k3⟩;have h6:=up hb3;have k3':=up (hK.out.trans (k3.mono hK.out.kp.1 λx hx _=>hx));clear hC k3 hb3 v6 hK;obtain⟨Pl,Px⟩:=P;cases Px
   .go_wp2;go_ret;have e1:=hV.out;have e2:=hx.out;simp only[Bool.false_eq_true,if_false]at e1 e2;exact⟨by rw[<- e2];rfl,by rw[<- e1];exact h6.out,k3'.out⟩
   .go_wp2;go_roundw
    case rel=>
     have e1:=hV.out;have e2:=hx.out;simp only[if_true]at e1 e2;exact⟨n+1,_,by omega,by push_cast;rfl,h6.out,k3'.out,by rw[<- sf];exact e1,e2⟩
    case measure=>simp[intOf];omega
  .obtain rfl:n=ks.length:=by omega
   rw[T7]at hV hx;rw[iD]at hV hx;have r:=up (show oL b T (iD ks) w (.returned (.bool true)) wr from⟨by rw[<- hx],by rw[<- hV,se];exact h4,hK⟩);clear hV hx h4 hK;go_wp2;go_ret;exact r.out
theorem BZ{S id ks}(hk:∀k∈ks,fh S k)(hlen:ks.length<1000000):fh S (.alt id ks):=by
 intro w q b T hR hb hB;rw[bj];obtain⟨sl,vs,h5,hrow,hS,h7,hkid⟩:∃sl vs,a7 w q 250 #[.int .i64 id,sl]/\w.ownsRow 0 86 1 sl vs.length vs/\(∀b,sl.ownBlock=some b->S b)/\vs.length=ks.length/\∀(i:Nat) v k,vs[i]?=some v->ks[i]?=some k->Repr w S v k:=by
  cases hR with
  |alt a b c d e f=>exact⟨_,_,b,c,d,e,f⟩
 obtain⟨sa,cap,rfl⟩:=nH hrow;rw[h7]at h5;have v5:w.cell? ⟨q,1,none⟩=some (.slice sa ks.length cap):=h5.cell 1;replace hB:Hid (a7 w b 101 (words T)):=up hB;replace hkid:=up hkid;replace hrow:=up hrow;replace hk:=up hk;clear hR h5;show Calls PM 227 _ _ _;go_enter PM.func Tryz.func227 (by decide),Tryz.ntmps227
 go_wp2;go_loopw [13,5] (λc d wr=>∃(n:Nat)(V:cS)(x:Bool),n<=ks.length/\c= .int .i64 n/\d= .bool x/\a7 wr b 101 (words V)/\Kq w.heap.size [b] w wr/\du V (iF (ks.drop n)).1=du T (iF ks).1/\(x||(iF (ks.drop n)).2)=(iF ks).2) λc _ _=>ks.length- (intOf c).toNat
 case atStart=>exact⟨0,T,false,Tl _,rfl,rfl,hB.out,.refl _,by rw[SE],by rw[SE];rfl⟩
 case round=>
  clear hB v5;obtain⟨n,V,x,hnl,rfl,rfl,h4,hK,hV,hx⟩:=hrel;rcases Tc n ks.length with hlt|hge
  .obtain⟨gr,cap',cur,he,hGr,h0⟩:=o7 hrow.out (By (by omega:n<vs.length));cases he;have hSg:=hS gr rfl;have hSw:∀a,S a->a∉[b]:=λa ha h=>hb (x5.1 h▸ha)
   have hG2:a7 wr gr 86 cur:=hGr.kq hK hGr.lt (hSw _ hSg);have hRk:=(hkid.out n _ _ (By (by omega)) (By hlt)).keep (w':=wr) λa ha h=>hK.kp.2 a h (hSw _ ha)
   obtain⟨p,hp⟩:=ed hRk;rw[hp]at h0 hRk;have hC:=hk.out ks[n] (SL hlt) wr p b V hRk hb h4;rw[Su hlt,iF]at hV hx;have h1:=ja ks[n] ⟨p,0,none⟩;have h2:=jL ks[n] ⟨p,0,none⟩;have h3:=kX ks[n];have v6:wr.cell? ⟨gr,n,none⟩=some (.iface (bn ks[n]) (.pointer (some ⟨p,0,none⟩))):=(hG2.cell n).trans h0;replace hC:=up hC;replace hV:=up hV;replace hx:=up hx;replace hK:=up hK;clear hGr hG2 hRk h0 hp h4;generalize hfk:firstFn ks[n]=fk at *;generalize htk:bn ks[n]=tk at *;generalize hP:bj ks[n]=P at *;go_wp2;refine hC.out.mono ?_;rintro e w3 ⟨rfl,hb3,k3⟩;have h6:=up hb3;have k3':=up (hK.out.trans (k3.mono hK.out.kp.1 λx hx _=>hx));clear hC k3 hb3 v6 hK;obtain⟨Pl,Px⟩:=P;cases Px
   .go_wp2;go_roundw
    case rel=>
     exact⟨n+1,_,x,by omega,by push_cast;rfl,rfl,h6.out,k3'.out,by rw[<- sf];exact hV.out,by have:=hx.out;simpa using this⟩
    case measure=>simp[intOf];omega
   .go_wp2;go_roundw
    case rel=>
     exact⟨n+1,_,true,by omega,by push_cast;rfl,rfl,h6.out,k3'.out,by rw[<- sf];exact hV.out,by have:=hx.out;simpa using this⟩
    case measure=>simp[intOf];omega
  .obtain rfl:n=ks.length:=by omega
   rw[T7]at hV hx;rw[iF]at hV hx;have r:=up (show oL b T (iF ks) w (.returned (.bool x)) wr from⟨by rw[<- hx];simp,by rw[<- hV,se];exact h4,hK⟩);clear hV hx h4 hK;go_wp2;go_ret;exact r.out
mutual
theorem first_any{E S}(hW:te E)(hl:∀i k l m,Nd.rep i k l m∈subs E.R->I64 l)(hs:∀i ks,Nd.seq i ks∈subs E.R->ks.length<1000000):∀nd,(∀a∈subs nd,a∈subs E.R)->fh S nd
 | .set i a b c d,h=>by
  obtain⟨h0,h1,h2,h3⟩:=hW.set i a b c d (h _ (sub_self _));exact Ar h0 h1 h2 h3
 | .edge i f,h=>zt
 | .seq i ks,h=>Au (rk hW hl hs ks λa ha=>h a (by rw[subs];grind)) (hs i ks (h _ (sub_self _)))
 | .alt i ks,h=>BZ (rk hW hl hs ks λa ha=>h a (by rw[subs];grind)) (hW.alt i ks (h _ (sub_self _)))
 | .grp i k n,h=>Bq (first_any hW hl hs k λa ha=>h a (by rw[subs];grind))
 | .rep i k l m,h=>AB (hl i k l m (h _ (sub_self _))) (first_any hW hl hs k λa ha=>h a (by rw[subs];grind))
theorem rk{E:ME}{S:Nat->Prop}(hW:te E)(hl:∀i k l m,Nd.rep i k l m∈subs E.R->I64 l)(hs:∀i ks,Nd.seq i ks∈subs E.R->ks.length<1000000):∀ks,(∀a∈gJ ks,a∈subs E.R)->∀k∈ks,fh S k
 |[],_,k,hk=>by cases hk
 |x::ks,h,k,hk=>by
  rcases OF.1 hk with e|hk
  .have:=first_any (S:=S) hW hl hs x λa ha=>h a (TN _ ha)
   rw[e];omega
  .exact rk hW hl hs ks (λa ha=>h a (TI _ ha)) k hk
end
abbrev Sp:=List (Int×Int)
def eY(L:Sp):List SW:=L.flatMap λp=>[.int .i64 p.1,.int .i64 p.2]
def dw(L:Sp):Array SW:=(eY L).toArray
def dH(ns:Notes)(L:Sp):Sp:=ns.foldl (λL x=>L.set x.1.toNat ((x.2.1:Int),(x.2.2:Int))) L
theorem oZ(ns):∀L,(dH ns L).length=L.length:=by
 induction ns with
 |nil=>intro L;rfl
 |cons x ns ih=>simp_all[dH]
theorem yG(a b L):dH (a++b) L=dH b (dH a L):=by simp[dH]
theorem Dv(u):∀L n,((eY L).set (2*n) (.int .i64 u.1)).set (2*n+1) (.int .i64 u.2)=eY (L.set n u)
 |[],n=>by simp[eY]
 |p::L,0=>by simp[eY]
 |p::L,n+1=>by
  show((Tp .i64 p.1::Tp .i64 p.2::eY L).set (2*n+1+1) _).set (2*n+1+1+1) _=Tp .i64 p.1::Tp .i64 p.2::eY (L.set n u);rw[Te,Te,Te,Te,Dv u L n]
theorem Dw(L):(eY L).length=2*L.length:=by
 induction L with
 |nil=>rfl
 |cons p L ih=>
  show(eY L).length+1+1=2*(L.length+1);omega
theorem Dx:∀L n h,(eY L)[2*n]?=some (.int .i64 L[n].1)/\(eY L)[2*n+1]?=some (.int .i64 L[n].2)
 |p::L,0,_=>⟨rfl,rfl⟩
 |p::L,n+1,h=>Dx L n (by simpa using h)
theorem vK{w g n t L u}(h:a7 w g t (dw L)):a7 ((w.setCell ⟨g,n*2,none⟩ (.int .i64 u.1)).setCell ⟨g,n*2+1,none⟩ (.int .i64 u.2)) g t (dw (L.set n u)):=by
 rw[TR n 2];have:=(h.bI (2*n) (.int .i64 u.1)).bI (2*n+1) (.int .i64 u.2);have e:((dw L).setIfInBounds (2*n) (.int .i64 u.1)).setIfInBounds (2*n+1) (.int .i64 u.2)=dw (L.set n u):=by
  simp[Dv,dw]
 rw[e]at this;omega
theorem qm{w g n t L}(h:a7 w g t (dw L))(hn):w.cell? ⟨g,n*2,none⟩=some (.int .i64 L[n].1)/\w.cell? ⟨g,n*2+1,none⟩=some (.int .i64 L[n].2):=by
 simp[TR n 2,h.cell];rw[TJ,TJ];exact Dx L n hn
structure lL(E:ME)(g G:Nat):Prop where
 sp:E.sp= .slice (some ⟨g,0,none⟩) (G+1) (G+1)
 small:G<1000
 ne_r:g≠E.r
 ne_m:g≠E.m
 away:¬ E.S g
 num:∀i k n,Nd.grp i k n∈subs E.R->0<=n/\n<=G
def qh:Nd->Nat
 | .set .. =>251
 | .edge .. =>248
 | .seq .. =>235
 | .alt .. =>229
 | .grp .. =>254
 | .rep .. =>242
theorem jD(nd a w):(method 455 (bn nd) (.pointer (some a)) "posix/tree.walk").run PM w= .ok (qh nd,.pointer (some a)) w:=by cases nd<;>kernel_rfl
theorem kC(nd a w):(nilAhead 455 (bn nd) (.pointer (some a)) "posix/tree.walk").run PM w= .ok (some false) w:=by cases nd<;>kernel_rfl
theorem walk_call(nd args w):(IN (qh nd) args).run PM w= .ok (.enter (qh nd) args) w:=by cases nd<;>simp[qh,go_sem]
def y8(E:ME)(g:Nat)(L:Sp)(w:If)(e:Ending)(w':If):Prop:=e= .returned (.tuple #[])/\cI E w'/\a7 w' g 54 (dw L)/\Kq w.heap.size [E.r,g] w w'
def WalkC(E:ME)(g G:Nat)(nd:Nd):Prop:=∀(w:If)(q i j:Nat)(L:Sp),cI E w->Repr w E.S (.iface (bn nd) (.pointer (some ⟨q,0,none⟩))) nd->i<=E.M.s.size->(bv E.M nd i).testBit j=true->L.length=G+1->a7 w g 54 (dw L)->
 Calls PM (qh nd) #[.pointer (some ⟨q,0,none⟩),.pointer (some ⟨E.m,0,none⟩),.int .i64 i,.int .i64 j] w (y8 E g (dH (de E.M nd i j) L) w)
theorem CK{E g G i a b c d}:WalkC E g G (.set i a b c d):=by
 intro w q i' j L hM hR hi hb hL hg;rw[de];show Calls PM 251 _ _ _;go_enter PM.func Tryz.func251 (by decide),Tryz.ntmps251
 go_wp2;go_end0
 exact⟨rfl,(up hM).out,(up hg).out,.refl _⟩
theorem BE{E g G i f}:WalkC E g G (.edge i f):=by
 intro w q i' j L hM hR hi hb hL hg;show Calls PM 248 _ _ _;go_enter PM.func Tryz.func248 (by decide),Tryz.ntmps248
 go_wp2;go_end0
 exact⟨rfl,(up hM).out,(up hg).out,.refl _⟩
theorem Da{E}(hE:fu E){g G}(hG:lL E g G){id num k}(hk:WalkC E g G k)(hn:Nd.grp id k num∈subs E.R):WalkC E g G (.grp id k num):=by
 intro w q i j L hM hR hi hb hL hg;have hj:=(bZ E.M _ i hi j hb).2;rw[bv]at hb;have hsz:=hE.size;obtain⟨n,rfl⟩:∃n:Nat,num=n:=⟨num.toNat,by have:=(hG.num _ _ _ hn).1;omega⟩;have hnG:n<=G:=by have:=(hG.num _ _ _ hn).2;omega
 rw[de,dH,List.foldl_cons];show Calls PM 254 _ _ (y8 E g (dH (de E.M k i j) (L.set (n:Int).toNat ((i:Int),(j:Int)))) w);rw[Int.toNat_natCast];cases hR with
 |grp hS hB hRk=>
 obtain⟨p,rfl⟩:=ed hRk;have h1:=jD k ⟨p,0,none⟩;have h2:=kC k ⟨p,0,none⟩;have h3:=walk_call k;have c2:w.cell? ⟨q,2,none⟩=some (.int .i64 n):=hB.cell 2;have c1:w.cell? ⟨q,1,none⟩=some (.iface (bn k) (.pointer (some ⟨p,0,none⟩))):=hB.cell 1;have cm:w.cell? ⟨E.m,4,none⟩=some (.slice (some ⟨g,0,none⟩) (G+1) (G+1)):=by rw[<- hG.sp];exact hM.blk.cell 4
 obtain⟨s0,s1⟩:=qm hg (by omega:n<L.length);have fz:∀x,w.frozen? ⟨g,x,none⟩=false:=hg.frozen;have hsm:=hG.small;have hgb:=vK (n:=n) (u:=((i:Int),(j:Int))) hg;have kq:=((Kq.refl (B:=w.heap.size) (X:=[g]) w).setCell (p:=⟨g,n*2,none⟩) (λ_=>x5.2 rfl) (.int .i64 i)).setCell (p:=⟨g,n*2+1,none⟩) (λ_=>x5.2 rfl) (.int .i64 j);have hne:q≠g:=λe=>hG.away (e▸hS)
 have c1':=hB.kq kq hB.lt (λhx=>hne (x5.1 hx))|>.cell 1
 have h0:=up hM;have h4:=up hg;replace hgb:=up hgb;replace kq:=up kq;have hRk':=up hRk;have hB':=up hB;clear hM hg hRk hB;go_enter PM.func Tryz.func254 (by decide),Tryz.ntmps254
 go_wp2;go_still_tail 11,by kernel_rfl
 change wpList _ _ _ _ _ w.drew;go_wp2;have h5:=h0.out;have h6:=hRk'.out;have hlt:=h4.out.lt;clear s0 s1 fz c2 c1 cm c1';replace kq:=up kq.out.drew;replace hgb:=up (hgb.out.kq (Kq.refl (X:=[]) _).drew hgb.out.lt AS);generalize World.drew _=W1 at hgb kq ⊢;have h7:=h5.hZ hE (X:=[g]) (λx hx=>by rw[x5.1 hx];exact⟨hG.ne_m,hG.ne_r,hG.away⟩) kq.out;have hR3:=h6.keep (w':=W1) λb hb hlt=>kq.out.kp.2 b hlt λhx=>hG.away (x5.1 hx▸hb)
 have hC:=up (hk W1 p i j (L.set n ((i:Int),(j:Int))) h7 hR3 hi hb (by rw[List.length_set];exact hL) hgb.out);clear h5 h6 h7 hR3 h0 h4 hRk' hB' hgb;refine hC.out.mono ?_;rintro e w2 ⟨rfl,h8,h9,k4⟩;have r:=up (show y8 E g (dH (de E.M k i j) (L.set n ((i:Int),(j:Int)))) w (.returned (.tuple #[])) w2 from⟨rfl,h8,h9,(kq.out.mono (AI _) λx hx _=>SU _ hx).trans (k4.mono kq.out.kp.1 λ_ h _=>h)⟩);clear h8 h9 k4 hC;go_wp2;go_end0
 exact r.out
structure WB(E:ME)(g:Nat)(nd:Nd)(q:Nat)(w0 W:If)(L:Sp):Prop where
 mem:cI E W
 rep:Repr W E.S (.iface (bn nd) (.pointer (some ⟨q,0,none⟩))) nd
 sp:a7 W g 54 (dw L)
 kq:Kq w0.heap.size [E.r,g] w0 W
 new:E.m<w0.heap.size/\E.r<w0.heap.size/\g<w0.heap.size/\∀b,E.S b->b<w0.heap.size
theorem WB.start{E}(hE:fu E){g nd q w L}(hM:cI E w)(hR:Repr w E.S (.iface (bn nd) (.pointer (some ⟨q,0,none⟩))) nd)(hg:a7 w g 54 (dw L)):WB E g nd q w w L:=
 have h:=hM.fresh hE
 ⟨hM,hR,hg,.refl _,h.1,h.2.1,hg.lt,h.2.2⟩
section
variable{E:ME}{g G:Nat}{nd:Nd}{q:Nat}{w0 W W':If}{L L':Sp}
theorem WB.old(hE:fu E)(hG:lL E g G)(h:WB E g nd q w0 W L):∀b,E.S b->W.heap[b]?=w0.heap[b]?:=λb hb=>h.kq.kp.2 b (h.new.2.2.2 b hb) λhx=>by
 simp[OF]at hx;rcases hx with rfl|rfl
 .exact hE.away hb
 .exact hG.away hb
theorem WB.own(h:WB E g nd q w0 W L){B X}(hB:w0.heap.size<=B)(hX:∀x∈X,w0.heap.size<=x)(hk:Kq B X W W'):WB E g nd q w0 W' L:=by
 have hn:=h.new;have st:∀b,b<w0.heap.size->W'.heap[b]?=W.heap[b]?:=λb hb=>hk.kp.2 b (by omega) λhx=>by have:=hX b hx;omega
 have bl:∀{b t c},b<w0.heap.size->a7 W b t c->a7 W' b t c:=λhb hB=>(st _ hb).trans hB
 obtain⟨es,clock,h1,h2⟩:=h.mem.map;obtain⟨v,hv⟩:=h.mem.root;exact⟨⟨bl hn.1 h.mem.blk,⟨es,clock,(st _ hn.2.1).trans h1,h2⟩,v,hv.keep λb hb _=>st b (hn.2.2.2 b hb)⟩,h.rep.keep λb hb _=>st b (hn.2.2.2 b hb),bl hn.2.2.1 h.sp,h.kq.trans (hk.mono hB λx hx hlt=>absurd hlt (Nat.not_lt.2 (hX x hx))),hn⟩
theorem WB.asked(hE:fu E)(hG:lL E g G)(h:WB E g nd q w0 W L)(hM:cI E W')(hk:Kq W.heap.size [E.r] W W'):WB E g nd q w0 W' L:=
 ⟨hM,h.rep.keep λb hb hlt=>hk.kp.2 b hlt λhx=>hE.away (x5.1 hx▸hb),h.sp.kq hk h.sp.lt λhx=>hG.ne_r (x5.1 hx),h.kq.trans (hk.mono h.kq.kp.1 λx hx _=>by simp[x5.1 hx]),h.new⟩
theorem WB.walked(hE:fu E)(hG:lL E g G)(h:WB E g nd q w0 W L)(hM:cI E W')(hs:a7 W' g 54 (dw L'))(hk:Kq W.heap.size [E.r,g] W W'):WB E g nd q w0 W' L':=
 ⟨hM,h.rep.keep λb hb hlt=>hk.kp.2 b hlt λhx=>by
  simp[OF]at hx;rcases hx with rfl|rfl
  .exact hE.away hb
  .exact hG.away hb,hs,h.kq.trans (hk.mono h.kq.kp.1 λ_ h _=>h),h.new⟩
theorem WB.stay(h:WB E g nd q w0 W L){b t c}(hb:a7 W b t c)(hlo:w0.heap.size<=b){X}(hX:∀x∈X,x=E.r\/x=g)(hk:Kq W.heap.size X W W'):a7 W' b t c:=hb.kq hk hb.lt λhx=>by
 have h1:=h.new.2.1;have h2:=h.new.2.2.1;rcases hX _ hx with rfl|rfl<;>omega
end
theorem Dn{E}(hE:fu E){g G}(hG:lL E g G){id ks}(hk:∀k∈ks,gy E k)(hwk:∀k∈ks,WalkC E g G k)(hlen:ks.length<1000000):WalkC E g G (.alt id ks):=by
 intro w q i j L hM hR hi hb hL hg;have hj:=(bZ E.M _ i hi j hb).2;rw[bv]at hb;rw[de];show Calls PM 229 _ _ _;have B0:=WB.start hE hM hR hg;obtain⟨sl,vs,hB,hrow,hS,hn,hkid⟩:∃sl vs,a7 w q 250 #[.int .i64 id,sl]/\w.ownsRow 0 86 1 sl vs.length vs/\(∀b,sl.ownBlock=some b->E.S b)/\vs.length=ks.length/\∀(i:Nat) v k,vs[i]?=some v->ks[i]?=some k->Repr w E.S v k:=by
  cases hR with
  |alt a b c d e f=>exact⟨_,_,b,c,d,e,f⟩
 obtain⟨sa,cap,rfl⟩:=nH hrow;rw[hn]at hB;have v5:w.cell? ⟨q,1,none⟩=some (.slice sa ks.length cap):=hB.cell 1;have hsz:=hE.size;replace B0:=up B0;replace hkid:=up hkid;replace hrow:=up hrow;replace hk:=up hk;replace hwk:=up hwk;replace hb:=up hb;clear hM hR hB hg;go_enter PM.func Tryz.func229 (by decide),Tryz.ntmps229
 go_wp2;go_loopw [15] (λc wr=>∃n:Nat,n<=ks.length/\c= .int .i64 n/\WB E g (.alt id ks) q w wr L/\(iK E.M (ks.drop n) i).testBit j=true/\oq E.M (ks.drop n) i j=oq E.M ks i j) λc _=>ks.length- (intOf c).toNat
 case atStart=>exact⟨0,Tl _,rfl,B0.out,by rw[SE];exact hb.out,by rw[SE]⟩
 case round=>
  clear B0 v5 hb;obtain⟨n,hnl,rfl,h8,hbit,h0⟩:=hrel;have hlt:n<ks.length:=by
   rcases Tc n ks.length with h|h
   .exact h
   .rw[List.drop_eq_nil_of_le h]at hbit;simp[iK]at hbit
  obtain⟨gr,cap',cur,he,hGr,h9⟩:=o7 hrow.out (By (by omega:n<vs.length));cases he;have hSg:=hS gr rfl;have hG2:a7 wr gr 86 cur:=(h8.old hE hG gr hSg).trans hGr;have hRk:=(hkid.out n _ _ (By (by omega)) (By hlt)).keep (w':=wr) λb hb _=>h8.old hE hG b hb
  obtain⟨p,hp⟩:=ed hRk;rw[hp]at h9 hRk;have hC:=hk.out ks[n] (SL hlt) wr p i h8.mem hRk hi;have hCw:=hwk.out ks[n] (SL hlt);rw[Su hlt,iK,Tt,U6]at hbit;rw[Su hlt,oq]at h0;have h1:=fN ks[n] ⟨p,0,none⟩;have h2:=gu ks[n] ⟨p,0,none⟩;have h3:=i9 ks[n];have h4:=jD ks[n] ⟨p,0,none⟩;have h5:=kC ks[n] ⟨p,0,none⟩;have h6:=walk_call ks[n];have v6:wr.cell? ⟨gr,n,none⟩=some (.iface (bn ks[n]) (.pointer (some ⟨p,0,none⟩))):=(hG2.cell n).trans h9;replace hC:=up hC;replace hbit:=up hbit;replace h0:=up h0;have B1:=up h8;have hRk':=up hRk;clear h8 hGr hG2 hRk h9 hp;unfold WalkC at hCw;replace hCw:=up hCw;generalize hfk:mq ks[n]=fk at *;generalize hfw:qh ks[n]=fw at *;generalize htk:bn ks[n]=tk at *;generalize hP:bv E.M ks[n] i=P at *;go_wp2;refine hC.out.mono ?_;rintro e w3 ⟨rfl,hf,k3⟩;have B3:=up (B1.out.asked hE hG hf k3);have hR3:=up (hRk'.out.keep (w':=w3) λb hb hlt=>k3.kp.2 b hlt λhx=>hE.away (x5.1 hx▸hb));have hH:=up (oV j P w3 (by omega));have ha:=up hP;clear hC k3 hf v6 B1 hRk' hP h1 h2 h3;go_wp2;refine hH.out.mono ?_;rintro e w4 ⟨rfl,k4⟩;have B4:=up (B3.out.own (X:=[]) B3.out.kq.kp.1 (λ_ h=>nomatch h) k4);have hc:=up (hR3.out.keep (w':=w4) λb hb hlt=>k4.kp.2 b hlt AS);clear B3 hR3 k4 hH;by_cases h7:P.testBit j=true
  .rw[h7];rw[if_pos h7]at h0;have hh:=up (hCw.out w4 p i j L B4.out.mem hc.out hi (by rw[ha.out];exact h7) hL B4.out.sp);have hw:=up h0;replace h7:=up h7;clear h0 hCw ha hc hbit;go_wp2;refine hh.out.mono ?_;rintro e w5 ⟨rfl,hl,hd,k5⟩;rw[hw.out]at hd;have B5:=up (B4.out.walked hE hG hl hd k5);clear hl hd k5 hh B4 h4 h5 h6;go_wp2;go_end0
   exact⟨rfl,B5.out.mem,B5.out.sp,B5.out.kq⟩
  .have hm:=Th.2 h7;rw[hm];rw[if_neg h7]at h0;have hb2:=hbit.out.resolve_left h7;have hw:=up h0;replace hb2:=up hb2;clear h0 hCw ha hc hbit h7 hm h4 h5 h6;go_wp2;go_roundw
   case rel=>exact⟨n+1,by omega,by push_cast;rfl,B4.out,hb2.out,hw.out⟩
   case measure=>simp[intOf];omega
end
section
open Go.RowKit
attribute [local go_sem] Ta
def Marks(B:Nat):List TC->If->Prop
 |[],_=>True
 |d::ds,W=>(∃D,d= {target:=.collected D,args:=#[]}/\B<=D/\W.heap[D]?=some (.deferred (some []))/\∀d'∈ds,d'≠d)/\Marks B ds W
theorem Marks.keep{B W W'}:∀{ds},Marks B ds W->(∀D,B<=D->({target:=.collected D,args:=#[]}:TC)∈ds->W.heap[D]?=some (.deferred (some []))->W'.heap[D]?=W.heap[D]?)->Marks B ds W'
 |[],_,_=>trivial
 |d::ds,⟨⟨D,h1,h2,h3,h4⟩,h⟩,hk=>⟨⟨D,h1,h2,(hk D h2 (h1▸SS) h3).trans h3,h4⟩,h.keep λD hD hm=>hk D hD (SU _ hm)⟩
theorem Marks.kq{B W W' ds X}(h:Marks B ds W)(hX:∀x∈X,x<B){C}(hC:∀D,W.heap[D]?=some (.deferred (some []))->D<C)(hk:Kq C X W W'):Marks B ds W':=
 h.keep λD hD _ h3=>hk.kp.2 D (hC D h3) λhx=>SC D (T1 (hX D hx) hD)
theorem Marks.lt{B W}:∀{ds},Marks B ds W->∀D,({target:=.collected D,args:=#[]}:TC)∈ds->D<W.heap.size
 |d::ds,⟨⟨D',h1,h2,h3,h4⟩,h⟩,D,hm=>by
  rcases OF.1 hm with e|hm
  .grind
  .exact h.lt D hm
theorem ot{fn n B tmps R}(hres:fn.results=#[]):∀{ds W},Marks B ds W->(∀W',Kq B [] W W'->R (.returned (.tuple #[])) W')->LeavesInM SX n PM fn tmps R ds .returning W
 |[],W,_,hR=>⟨_,results_none hres _ _ _,hR W (.refl W)⟩
 |d::ds,W,⟨⟨D,h1,h2,h3,h4⟩,h⟩,hR=>by
  refine⟨by simp,.inl ⟨D,_,by rw[h1],run_takeDeferred h3,ot hres (B:=B) (h.keep λD' hD hm h3'=> ?_) λW' hk=>hR W' (((Kq.refl W).put (λh=>absurd h (by omega)) _).trans (hk.mono ?_ λ_ h _=>h))⟩⟩
  .refine Sz ?_;grind
  simp
theorem Ll(w t q m i j):
 Caps ((((w.alloc (.cells #[.pointer (some ⟨q,0,none⟩)] t)).alloc (.cells #[.pointer (some ⟨m,0,none⟩)] 174)).alloc (.cells #[.int .i64 i] 3)).alloc (.cells #[.int .i64 j] 3)) w.heap.size (w.heap.size+1+1) (w.heap.size+1) (w.heap.size+1+1+1) t q m i j/\
 Kq w.heap.size [] w ((((w.alloc (.cells #[.pointer (some ⟨q,0,none⟩)] t)).alloc (.cells #[.pointer (some ⟨m,0,none⟩)] 174)).alloc (.cells #[.int .i64 i] 3)).alloc (.cells #[.int .i64 j] 3)):=by
 have st:∀(W:If)(o:Obj){b:Nat}{t c},a7 W b t c->a7 (W.alloc o) b t c:=λW o{b t c} h=>h.alloc o
 have nw:∀(W:If)(t c)(n:Nat),W.heap.size=n->a7 (W.alloc (.cells c t)) n t c:=λW t c n h=>h▸a7.new W t c
 exact⟨⟨st _ _ (st _ _ (st _ _ (a7.new w t _))),st _ _ (nw _ _ _ _ (by simp)),st _ _ (st _ _ (nw _ _ _ _ (by simp))),nw _ _ _ _ (by simp)⟩,((((Kq.refl w).alloc (AI _) _).alloc (by simp) _).alloc (by simp) _).alloc (by simp) _⟩
structure WS(E:ME)(g:Nat)(nd:Nd)(q:Nat)(w0 W:If)(L:Sp)(i j:Nat):Prop where
 wb:WB E g nd q w0 W L
 caps:Caps W w0.heap.size (w0.heap.size+1+1) (w0.heap.size+1) (w0.heap.size+1+1+1) (bn nd) q E.m i j
theorem Marks.stay{B W0 W W' ds X}(h:Marks B ds W)(h0:Marks B ds W0)(hX:∀x∈X,W.heap[x]?≠some (.deferred (some [])))(hk:Kq W0.heap.size X W W'):Marks B ds W':=
 h.keep λD hD hm h3=>hk.kp.2 D (h0.lt D hm) λhx=>hX D hx h3
theorem fC{W b t c}(h:a7 W b t c):W.heap[b]?≠some (.deferred (some [])):=λe=>by rw[show W.heap[b]?=_ from h]at e;cases e
theorem cI.fC{E W}(h:cI E W):W.heap[E.r]?≠some (.deferred (some [])):=λe=>by
 obtain⟨es,clock,h1,_⟩:=h.map<;>grind
section
variable{E:ME}{g G:Nat}{nd:Nd}{q:Nat}{w0 W W':If}{L L':Sp}{i j:Nat}
theorem WS.boxes(h:WS E g nd q w0 W L i j):∀x∈[w0.heap.size,w0.heap.size+1+1,w0.heap.size+1,w0.heap.size+1+1+1],x<W.heap.size/\x≠E.r/\x≠g:=λx hx=>by
 refine⟨h.caps.lt x hx,?_⟩;have h1:=h.wb.new.2.1;have h2:=h.wb.new.2.2.1;grind
theorem WS.own(h:WS E g nd q w0 W L i j){B X}(hB:w0.heap.size+1+1+1<B)(hX:∀x∈X,w0.heap.size+1+1+1<x)(hk:Kq B X W W'):WS E g nd q w0 W' L i j:=
 ⟨h.wb.own (by omega) λx hx=>by have:=hX x hx;omega hk,h.caps.kq hk λx hx=>by
  grind⟩
theorem WS.asked(hE:fu E)(hG:lL E g G)(h:WS E g nd q w0 W L i j)(hM:cI E W')(hk:Kq W.heap.size [E.r] W W'):WS E g nd q w0 W' L i j:=
 ⟨h.wb.asked hE hG hM hk,h.caps.kq hk λx hx=>⟨(h.boxes x hx).1,λe=>(h.boxes x hx).2.1 (x5.1 e)⟩⟩
theorem WS.walked(hE:fu E)(hG:lL E g G)(h:WS E g nd q w0 W L i j)(hM:cI E W')(hs:a7 W' g 54 (dw L'))(hk:Kq W.heap.size [E.r,g] W W'):WS E g nd q w0 W' L' i j:=
 ⟨h.wb.walked hE hG hM hs hk,h.caps.kq hk λx hx=>⟨(h.boxes x hx).1,λe=>by
  simp[OF]at e;exact e.elim (h.boxes x hx).2.1 (h.boxes x hx).2.2⟩⟩
theorem WS.moved(h:WS E g nd q w0 W L i j)(c:Nat):WS E g nd q w0 (W.setCell ⟨w0.heap.size+1+1,0,none⟩ (.int .i64 c)) L c j:=by
 have hk:Kq W.heap.size [w0.heap.size+1+1] W (W.setCell ⟨w0.heap.size+1+1,0,none⟩ (.int .i64 c)):=(Kq.refl W).setCell (p:=⟨w0.heap.size+1+1,0,none⟩) (λ_=>x5.2 rfl) _;exact⟨h.wb.own h.wb.kq.kp.1 λx hx=>by rw[x5.1 hx];omega hk,h.caps.b1.kq hk h.caps.b1.lt λhx=>by have:=x5.1 hx;omega,h.caps.b2.bI 0 (.int .i64 c),h.caps.b3.kq hk h.caps.b3.lt λhx=>by have:=x5.1 hx;omega,h.caps.b4.kq hk h.caps.b4.lt λhx=>by have:=x5.1 hx;omega⟩
end
theorem CM{E}(hE:fu E){g G}(hG:lL E g G){id ks}(hk:∀k∈ks,gy E k)(hwk:∀k∈ks,WalkC E g G k)(hn:Nd.seq id ks∈subs E.R):WalkC E g G (.seq id ks):=by
 intro w q i j L hM hR hi hb hL hg;have hj:=(bZ E.M _ i hi j hb).2;rw[bv]at hb;rw[de];show Calls PM 235 _ _ _;have hks:=hE.kids id ks hn;have h0:∀d,d<=ks.length->KS E id ks d:=λd hd=>ul hE hk hn _ d rfl hd
 obtain⟨sl,vs,hB,hrow,hS,g3,hkid⟩:∃sl vs,a7 w q 269 #[.int .i64 id,sl]/\w.ownsRow 0 86 1 sl vs.length vs/\(∀b,sl.ownBlock=some b->E.S b)/\vs.length=ks.length/\∀(i:Nat) v k,vs[i]?=some v->ks[i]?=some k->Repr w E.S v k:=by
  cases hR with
  |seq a b c d e f=>exact⟨_,_,b,c,d,e,f⟩
 obtain⟨sa,cap,rfl⟩:=nH hrow;rw[g3]at hB;have hsz:=hE.size;obtain⟨hc,k1⟩:=Ll w 268 q E.m i j;have W0:WS E g (.seq id ks) q w _ L i j:=⟨(WB.start hE hM hR hg).own (X:=[]) (AI _) (λ_ h=>nomatch h) k1,hc⟩;have v1:=hc.b1.cell 0;have v5:=(hB.kq k1 hB.lt AS).cell 1;replace W0:=up W0;replace hkid:=up hkid;replace hrow:=up hrow;replace hk:=up hk;replace hwk:=up hwk;replace hb:=up hb;replace h0:=up h0;clear hM hR hB hg hc k1;refine callsIn_wide (n:=4).1 (callsIn_of_wp_marks (PM.func Tryz.func235 (by decide)) rfl trivial ?_ rfl);simp only[Tryz.ntmps235,SF,SH,SK,SP,SO,Sx,Sw,SG,Sy,SJ,SI];refine wpIn_wide.2 ?_;go_wp2;replace hkid:=hkid;generalize T9 _ _=W1 at W0 ⊢;clear v1 v5;refine wp_loop_ghost_k (λn a W=>
  ∃(d i':Nat)(L':Sp)(ds:List TC)(x8 x9 x10 x17 x18 x19 x20 x21 x22 x23 x24 x25 x26 x27 x28 x29 x30 x31 x32 x33 x34 x35 x36 x37 x38 x39 x40 x41:SW),n+d=ks.length/\a= {tmps:=#[.pointer (some ⟨q,0,none⟩),.pointer (some ⟨E.m,0,none⟩),.int .i64 i,.int .i64 j,.pointer (some ⟨w.heap.size,0,none⟩),.pointer (some ⟨w.heap.size+1,0,none⟩),.pointer (some ⟨w.heap.size+1+1,0,none⟩),.pointer (some ⟨w.heap.size+1+1+1,0,none⟩),x8,x9,x10,.pointer (some ⟨q,0,none⟩),.pointer (some ⟨q,0,none⟩),.pointer (some ⟨q,1,none⟩),.slice sa ks.length cap,.int .i64 ks.length,.int .i64 d,x17,x18,x19,x20,x21,x22,x23,x24,x25,x26,x27,x28,x29,x30,x31,x32,x33,x34,x35,x36,x37,x38,x39,x40,x41],defers:=ds}/\WS E g (.seq id ks) q w W L' i' j/\Marks w.heap.size ds W/\(dL E.M (ks.drop d) i').testBit j=true/\i'<=E.M.s.size/\L'.length=G+1/\dH (jI E.M (ks.drop d) i' j) L'=dH (jI E.M ks i j) L
  ) ks.length ?_ ?_
 .exact⟨0,i,L,[],_,_,_,_,_,_,_,_,_,_,_,_,_,_,_,_,_,_,_,_,_,_,_,_,_,_,_,_,rfl,rfl,W0.out,trivial,by rw[SE];exact hb.out,hi,hL,by rw[SE]⟩
 clear W0 W1 hb;rintro n a W ⟨d,i',L',ds,x8,x9,x10,x17,x18,x19,x20,x21,x22,x23,x24,x25,x26,x27,x28,x29,x30,x31,x32,x33,x34,x35,x36,x37,x38,x39,x40,x41,hnd,rfl,h7,hf,hbit,hi',hL',hfin⟩ J K hJ hK;have hWS0:=up h7;have hMk0:=up hf;replace hfin:=up hfin;replace hbit:=up hbit;by_cases hlt:d<ks.length
 .obtain⟨gr,cap',cur,he,hGr,h8⟩:=o7 hrow.out (By (by omega:d<vs.length));cases he;have hSg:=hS gr rfl;have hG2:a7 W gr 86 cur:=(h7.wb.old hE hG gr hSg).trans hGr;have hRk:=(hkid.out d _ _ (By (by omega)) (By hlt)).keep (w':=W) λb hb _=>h7.wb.old hE hG b hb
  obtain⟨p,hp⟩:=ed hRk;rw[hp]at h8 hRk;have h1:=fN ks[d] ⟨p,0,none⟩;have h2:=gu ks[d] ⟨p,0,none⟩;have h3:=i9 ks[d];have h4:=jD ks[d] ⟨p,0,none⟩;have h5:=kC ks[d] ⟨p,0,none⟩;have h6:=walk_call ks[d];have v6:W.cell? ⟨gr,d,none⟩=some (.iface (bn ks[d]) (.pointer (some ⟨p,0,none⟩))):=(hG2.cell d).trans h8;have hm:=up hp;clear h7 hf hG2 hRk h8 hp hGr;go_upto_region 4 with fail
  have kA:Kq W.heap.size [] W ((W.alloc (.cells #[.int .i64 d] 3)).alloc (.cells #[.iface (bn ks[d]) (.pointer (some ⟨p,0,none⟩))] 86)):=((Kq.refl W).alloc (AI _) _).alloc (by simp) _;have D8:a7 ((W.alloc (.cells #[.int .i64 d] 3)).alloc (.cells #[.iface (bn ks[d]) (.pointer (some ⟨p,0,none⟩))] 86)) W.heap.size 3 #[.int .i64 d]:=(a7.new W _ _).alloc _;have D9:a7 ((W.alloc (.cells #[.int .i64 d] 3)).alloc (.cells #[.iface (bn ks[d]) (.pointer (some ⟨p,0,none⟩))] 86)) (W.heap.size+1) 86 #[.iface (bn ks[d]) (.pointer (some ⟨p,0,none⟩))]:=a7.new2 _ _ _ _;have hW3:=(hWS0.out.boxes (w.heap.size+1+1+1) (by simp)).1;have S1:=hWS0.out.own (X:=[]) hW3 (λ_ h=>nomatch h) kA;have M1:=hMk0.out.stay hMk0.out (X:=[]) (λ_ h=>nomatch h) kA;have hRk1:=(hkid.out d _ _ (By (by omega)) (By hlt)).keep λb hb _=>S1.wb.old hE hG b hb
  generalize T9 (T9 W _) _=W1 at kA D8 D9 S1 M1 hRk1 ⊢;rw[hm.out]at hRk1;have v1:W1.cell? ⟨w.heap.size+1,0,none⟩=some (.pointer (some ⟨E.m,0,none⟩)):=S1.caps.b3.cell 0;have v2:W1.cell? ⟨w.heap.size+1+1,0,none⟩=some (.int .i64 i'):=S1.caps.b2.cell 0;have v3:W1.cell? ⟨W.heap.size+1,0,none⟩=some (.iface (bn ks[d]) (.pointer (some ⟨p,0,none⟩))):=D9.cell 0;have hC:=up (hk.out ks[d] (SL hlt) W1 p i' S1.wb.mem hRk1 hi');have hlt1:W.heap.size+1<W1.heap.size:=D9.lt;replace D8:=up D8;replace D9:=up D9;replace S1:=up S1;replace M1:=up M1;replace hRk1:=up hRk1;clear v6 kA;go_wp2;refine hC.out.mono ?_;rintro e w2 ⟨rfl,ho,k2⟩;have S2:=up (S1.out.asked hE hG ho k2);have hr:=S1.out.wb.new.2.1;have E8:=up (D8.out.kq k2 D8.out.lt λhx=>by have:=x5.1 hx;omega);have E9:=up (D9.out.kq k2 D9.out.lt λhx=>by have:=x5.1 hx;omega);have M2:=up (M1.out.stay M1.out (λx hx=>by rw[x5.1 hx];exact S1.out.wb.mem.fC) k2);have g1:=up (hRk1.out.keep (w':=w2) λb hb hlt=>k2.kp.2 b hlt λhx=>hE.away (x5.1 hx▸hb));have hlt2:W.heap.size+1<w2.heap.size:=T1 hlt1 k2.kp.1;clear hC ho k2 S1 M1 D8 D9 v1 v2 v3 h1 h2 h3 hRk1;go_wp2;have hw:=up (bZ E.M ks[d] i' hi');obtain⟨P,hP⟩:∃P,bv E.M ks[d] i'=P:=⟨_,rfl⟩;have hh:∃c,df (λc=>(dL E.M (ks.drop (d+1)) c).testBit j) P 320=some c:=by
   cases h:df (λc=>(dL E.M (ks.drop (d+1)) c).testBit j) P 320 with
   |some c=>exact⟨c,rfl⟩
   |none=>
    exfalso;have hb:=hbit.out;rw[Su hlt,dL,pd]at hb;obtain⟨c,h1,h2,h3⟩:=hb;rw[hP]at h2;rw[oX]at h;rw[h c h1 h2]at h3;cases h3
  obtain⟨cc,hcc⟩:=hh;rw[hP]at hw;replace hcc:=up hcc;replace hP:=up hP;rw[hP.out];refine wpIn_wide (n:=4).1 (qe (X:=[E.r,g,w.heap.size+1+1]) (t:=26) (p:=P) (by decide) rfl ?_
   (λk W'=>df (λc=>(dL E.M (ks.drop (d+1)) c).testBit j) P k=some cc/\WS E g (.seq id ks) q w W' L' i' j/\a7 W' W.heap.size 3 #[.int .i64 d]/\a7 W' (W.heap.size+1) 86 #[.iface (bn ks[d]) (.pointer (some ⟨p,0,none⟩))]/\Marks w.heap.size ds W')
   (λc k W'=>c= .exit 2/\k=cc/\WS E g (.seq id ks) q w W' (dH (de E.M ks[d] i' cc) L') cc j/\Marks w.heap.size ds W') ?_ ?_ ?_ ?_ ?_ ?_ ?_ ?_ ?_)
  case refine_7=>
   intro ll k W' K hK;gi_wp2
   exact hK
  case refine_1=>
   intro x hx;have h1:=S2.out.wb.new;have h2:=S2.out.wb.kq.kp.1;simp only[OF,AS,or_false]at hx;omega
  case refine_2=>
   rintro k W' W'' ⟨h1,h2,h3,h4,h5⟩ hk';exact⟨h1,h2.own (X:=[]) (by omega) (λ_ h=>nomatch h) hk',h3.kq hk' (by omega) AS,h4.kq hk' (by omega) AS,h5.stay M2.out (X:=[]) (λ_ h=>nomatch h) hk'⟩
  case refine_3=>
   rintro c k W' W'' ⟨h1,h2,h3,h4⟩ hk';exact⟨h1,h2,h3.own (X:=[]) (by omega) (λ_ h=>nomatch h) hk',h4.stay M2.out (X:=[]) (λ_ h=>nomatch h) hk'⟩
  case refine_4=>
   rintro k W' ⟨h1,h2⟩ hb;rw[df,if_neg (by rw[hb];simp)]at h1;exact⟨h1,h2⟩
  case refine_5=>exact⟨hcc.out,S2.out,E8.out,E9.out,M2.out⟩
  case refine_9=>
   rintro W' ⟨h1,_⟩ _;cases h1
  case refine_10=>
   rintro _ k W' hk1 hb ⟨rfl,rfl,h3,h4⟩ hD;have h9:=j4.1 hcc.out;have hcs:=(hw.out k h9.2.1).2;have g4:=up h3;have g5:=up h4;replace hD:=up hD;replace h9:=up h9;clear h3 h4 E8 E9 S2 g1;refine wpIn_wide.2 ?_;go_wp2;refine Handed.intro (n-1) (by omega) (hJ _ _ _ ⟨d+1,k,dH (de E.M ks[d] i' k) L',_,_,_,_,_,_,_,_,_,_,_,_,_,_,_,_,_,_,_,_,_,_,_,_,_,_,_,_,_,by omega,rfl,g4.out,⟨⟨w2.heap.size,rfl,by omega,hD.out,λd' hs e=> ?_⟩,g5.out⟩,h9.out.2.2.1,hcs,by rw[oZ];exact hL',?_⟩)
   .rw[e]at hs;exact SC _ (M2.out.lt _ hs)
   .rw[<- hfin.out,Su hlt,jI,hP.out,hcc.out];rw[yG]
  case refine_8=>
   rintro ll k W' hltW hk1 hb ⟨h1,h2,h3,h4,h5⟩;rw[df]at h1;have g2:=hw.out k hb;have hS:WS E g (.seq id ks) q w W' L' i' j/\a7 W' W.heap.size 3 #[.int .i64 d]/\a7 W' (W.heap.size+1) 86 #[.iface (bn ks[d]) (.pointer (some ⟨p,0,none⟩))]/\Marks w.heap.size ds W':=⟨h2,h3,h4,h5⟩;clear h2 h3 h4 h5 S2 E8 E9;replace h1:=up h1;have hL:∀{K Y Yx},¬ LetsOut (Exit.then K (TV 3 (jY [E.r,g,w.heap.size+1+1] W' Y Yx))):=λ⟨_,_,h⟩=>h
   gi_wp2
   have kd:Kq W'.heap.size [] W' W'.drew:=(Kq.refl _).drew;have hS':WS E g (.seq id ks) q w W'.drew L' i' j/\a7 W'.drew W.heap.size 3 #[.int .i64 d]/\a7 W'.drew (W.heap.size+1) 86 #[.iface (bn ks[d]) (.pointer (some ⟨p,0,none⟩))]/\Marks w.heap.size ds W'.drew:=⟨hS.1.own (X:=[]) (by omega) (λ_ h=>nomatch h) kd,hS.2.1,hS.2.2.1,hS.2.2.2.stay hS.2.2.2 (X:=[]) (λ_ h=>nomatch h) kd⟩;replace kd:=up kd;clear hS;refine gO (S:=λu=>WS E g (.seq id ks) q w u L' i' j/\a7 u W.heap.size 3 #[.int .i64 d]/\a7 u (W.heap.size+1) 86 #[.iface (bn ks[d]) (.pointer (some ⟨p,0,none⟩))]/\Marks w.heap.size ds u) (by kernel_rfl) hL (by kernel_rfl) ?_;show wpAnyH _ _ _ _ _ 8 _ _ W'.drew;generalize W'.drew=W6 at hS' kd ⊢;have hS:=hS';have hks6:=hks;refine takeD 0 27 (.pointer (some ⟨q,0,none⟩)) rfl rfl (by kernel_rfl) (by kernel_rfl) (by kernel_rfl) (λ_ _ _ h=>h) (Tk ⟨by rfl,λw' hS'=> ?_⟩) hS ?_
   .have h1:=hS'.1.caps.b1.cell 0;go_simp
   simp only[SM,zq0];refine takeD 1 28 (.pointer (some ⟨E.m,0,none⟩)) rfl rfl (by kernel_rfl) (by kernel_rfl) (by kernel_rfl) (λ_ _ _ h=>h) (Tk ⟨by rfl,λw' hS'=> ?_⟩) hS ?_
   .have h1:=hS'.1.caps.b3.cell 0;go_simp
   simp only[SM,zq0];refine takeD 2 29 (.int .i64 d) rfl rfl (by kernel_rfl) (by kernel_rfl) (by kernel_rfl) (λ_ _ _ h=>h) (Tk ⟨by rfl,λw' hS'=> ?_⟩) hS ?_
   .have h1:=hS'.2.1.cell 0;go_simp
   simp only[SM,zq0];refine takeD 3 30 (.int .i64 (d+1)) rfl rfl (by kernel_rfl) (by kernel_rfl) (by kernel_rfl) (λ_ _ _ h=>h) (Tk ⟨by rfl,λw' hS'=> ?_⟩) hS ?_
   .go_simp
    rw[U0];omega
   simp only[SM,zq0];refine takeD 4 31 (.int .i64 k) rfl rfl (by kernel_rfl) (by kernel_rfl) (by kernel_rfl) (λ_ _ _ h=>h) (Tk ⟨by rfl,λw' hS'=> ?_⟩) hS ?_
   .skip
    go_simp
   simp only[SM,zq0];refine takeD 6 33 (.int .i64 j) rfl rfl (by kernel_rfl) (by kernel_rfl) (by kernel_rfl) (λ_ _ _ h=>h) (Tk ⟨by rfl,λw' hS'=> ?_⟩) hS ?_
   .have h1:=hS'.1.caps.b4.cell 0;go_simp
   simp only[SM,zq0];have hH:=h0.out (d+1) (by omega) W6 q k hS.1.wb.mem hS.1.wb.rep g2.2;rw[show((d+1:Nat):Int)=(d:Int)+1 from by push_cast;rfl]at hH;refine wZ (R:=λu=>cI E u/\Kq W6.heap.size [E.r] W6 u) 5 32 _ 236 #[.pointer (some ⟨q,0,none⟩),.pointer (some ⟨E.m,0,none⟩),.int .i64 (d+1),.int .i64 k] rfl rfl rfl (by kernel_rfl) (by go_simp) hH ?_;rintro W7 ⟨ht,k7⟩;have hv:∀x∈[E.r],W6.heap[x]?≠some (.deferred (some [])):=λx hx=>by rw[x5.1 hx];exact hS.1.wb.mem.fC
   have hr6:=hS.1.wb.new.2.1;have S7:WS E g (.seq id ks) q w W7 L' i' j/\a7 W7 W.heap.size 3 #[.int .i64 d]/\a7 W7 (W.heap.size+1) 86 #[.iface (bn ks[d]) (.pointer (some ⟨p,0,none⟩))]/\Marks w.heap.size ds W7:=⟨hS.1.asked hE hG ht k7,hS.2.1.kq k7 hS.2.1.lt λhx=>by have:=x5.1 hx;omega,hS.2.2.1.kq k7 hS.2.2.1.lt λhx=>by have:=x5.1 hx;omega,hS.2.2.2.stay hS.2.2.2 hv k7⟩;refine⟨S7,?_⟩;simp only[SM,zq0];have hy:=oV j (dL E.M (ks.drop (d+1)) k) W7 (by omega);refine wZ (R:=λu=>Kq W7.heap.size [] W7 u) 7 34 _ 131 #[ep (dL E.M (ks.drop (d+1)) k),.int .i64 j] rfl rfl rfl (by kernel_rfl) (by go_simp) hy ?_;rintro W8 k8;have z7:=S7.2.2.1.lt;have S8:WS E g (.seq id ks) q w W8 L' i' j/\a7 W8 W.heap.size 3 #[.int .i64 d]/\a7 W8 (W.heap.size+1) 86 #[.iface (bn ks[d]) (.pointer (some ⟨p,0,none⟩))]/\Marks w.heap.size ds W8:=⟨S7.1.own (X:=[]) (by omega) (λ_ h=>nomatch h) k8,S7.2.1.kq k8 S7.2.1.lt AS,S7.2.2.1.kq k8 S7.2.2.1.lt AS,S7.2.2.2.stay S7.2.2.2 (X:=[]) (λ_ h=>nomatch h) k8⟩;refine⟨S8,wpAnyH_done (by kernel_rfl) ?_ _⟩;have kall:Hid (Kq W'.heap.size [E.r] W' W8):=up (((kd.out.mono (AI _) nofun).trans (k7.mono kd.out.kp.1 λ_ h _=>h)).trans (k8.mono (T5 kd.out.kp.1 k7.kp.1) nofun));simp only[SM,zq0];have u1:=S8.1.caps.b3.cell 0;have u2:=S8.1.caps.b2.cell 0;have u3:=S8.2.2.1.cell 0;have uf:=S8.1.caps.b2.frozen;replace S8:=up S8;clear S7 k7 k8 ht hS hS' hH hy hv;by_cases hq:(dL E.M (ks.drop (d+1)) k).testBit j=true
   .have g9:k=cc:=by
     have:=h1.out;rw[if_pos (by rw[hb,hq];rfl)]at this;exact Option.some.inj this
    subst g9;rw[hq];replace hq:=up hq;have hRk8:=(hkid.out d _ _ (By (by omega)) (By hlt)).keep (w':=W8) λb hb _=>S8.out.1.wb.old hE hG b hb
    rw[hm.out]at hRk8;have hCw:=up (hwk.out ks[d] (SL hlt) W8 p i' k L' S8.out.1.wb.mem hRk8 hi' (by rw[hP.out];exact hb) hL' S8.out.1.wb.sp);clear hRk8;gi_wp2
    refine⟨trivial,(Ts ll (callsIn_wide.2 hCw.out)).mono ?_⟩;rintro e W9 ⟨rfl,hz,g0,k9⟩;have S9:=S8.out.1.walked hE hG hz g0 k9;have M9:=S8.out.2.2.2.stay S8.out.2.2.2 (λx hx=>by
     simp only[OF,AS,or_false]at hx;rcases hx with rfl|rfl
     .exact S8.out.1.wb.mem.fC
     .exact fC S8.out.1.wb.sp) k9
    have u4:=S9.caps.b2.cell 0;have u5:=S9.caps.b2.frozen;have kB:Kq W9.heap.size [w.heap.size+1+1] W9 (W9.setCell ⟨w.heap.size+1+1,0,none⟩ (.int .i64 k)):=(Kq.refl W9).setCell (p:=⟨w.heap.size+1+1,0,none⟩) (λ_=>x5.2 rfl) _;have M10:=M9.stay M9 (λx hx=>by rw[x5.1 hx];exact fC S9.caps.b2) kB;have S10:=S9.moved k;have kfin:Kq W'.heap.size [E.r,g,w.heap.size+1+1] W' (W9.setCell ⟨w.heap.size+1+1,0,none⟩ (.int .i64 k)):=((kall.out.mono (AI _) λx hx _=>by rw[x5.1 hx];exact SS).trans (k9.mono kall.out.kp.1 λx hx _=>by
     simp only[OF,AS,or_false]at hx ⊢;exact hx.imp (λh=>h) .inl)).trans (kB.mono (T5 kall.out.kp.1 k9.kp.1) λx hx _=>by rw[x5.1 hx];simp)
    replace M10:=up M10;replace S10:=up S10;replace kfin:=up kfin;clear hz g0 k9 S9 M9 kB S8 hCw;gi_wp2
    exact⟨kfin.out,rfl,S10.out,M10.out⟩
   .have ha:=Th.2 hq;rw[ha];replace ha:=up ha;clear hq;gi_wp2
    refine⟨kall.out.mono (AI _) λx hx _=>by rw[x5.1 hx];exact SS,?_,S8.out⟩;have:=h1.out;rw[if_neg (by rw[ha.out];simp)]at this;exact this
 .obtain rfl:d=ks.length:=by omega
  have hl:=hbit.out;have hff:=hfin.out;rw[T7]at hl hff;rw[dL,tN,decide_eq_true_eq]at hl;rw[jI]at hff;subst hl;have hfin2:Hid (L'=dH (jI E.M ks i i') L):=up hff;have v0:=hWS0.out.wb;clear hbit hfin hff h7 hf hJ;go_wp2;refine ot rfl hMk0.out λW' hk'=> ?_
  have hB:=hWS0.out.wb.own (X:=[]) (AI _) (λ_ h=>nomatch h) hk';rw[<- hfin2.out];exact⟨rfl,hB.mem,hB.sp,hB.kq⟩
end
end Go.Proofs.YtkgohmcmmcpigaaGreatDoor
