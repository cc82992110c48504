/- A part of the proof that Compiles holds; no condition. -/
import Derived.LaidEql
import Derived.Stop.Asserts
import Derived.RowKitTokens
import Derived.WalkSpells
import Derived.OwnWalk
import Derived.Lib.IndexBytes
import Derived.Deep.AppendLies
import Derived.Deep.MidRow
import Derived.Great.BuildSlice
import Derived.Deep.Cut
import Derived.Deep.CutRange
import Derived.Deep.DeepCutAuto
import Derived.Test.YtkgohmcmmcpigaaGreatDoorP07
set_option linter.unusedSimpArgs false
set_option linter.unusedVariables false
namespace Go.Proofs.YtkgohmcmmcpigaaGreatDoor
open Go
open Go.Lib renaming hid->AI,indexByte->No,index->Q4,cut->Qg,index_spec->Qo,index_one->QC
open Go renaming World->AS,Value->AT,TypeId->PK,Operand->Qu
open _root_.List renaming length_append->By,append_nil->BY,length_cons->If,length_nil->IS,append_assoc->PD,nil_append->PG,mem_singleton->PP,mem_append->PU,getElem?_eq_getElem->PW,cons_append->Q5,mem_cons->Qa,getD_eq_getElem?_getD->Qb,getElem?_eq_none->Qf,mem_iff_getElem->Qk,head?_cons->Ql,drop_drop->Qn,setIfInBounds_toArray->Qq,getElem?_append_left->Qs,drop_eq_getElem_cons->Qt,drop_eq_nil_of_le->Qz,getElem?_toArray->QB,drop->QD,length_drop->QI,any_eq_true->QJ
open Go.Act renaming put->IN
open Go.World renaming cell?_alloc_lt->IT,frozen?_alloc_old->Q6,size_setCell->Q7,cell?_alloc_at->Qh,drewN_drewN->Qr,cell?->Qx
open _root_.Nat renaming le_refl->OF,le_trans->PL,lt_of_lt_of_le->PO,le_succ->PV,lt_succ_self->Q2,lt_or_ge->Q9,add_sub_cancel_left->Qw
open _root_.Bool renaming and_eq_true->PE,eq_iff_iff->PM,true_eq_false->Qc,or_eq_true->QL
open _root_.Array renaming getElem?_eq_some_iff->PJ,getElem?_eq_none->Qd,getD_eq_getD_getElem?->Qp
open _root_.Or renaming inl->PN
open _root_.Int renaming le_refl->PR
open Go.Exit renaming inBlock->PX
open Go.Calls renaming quiet_of_same->PY,quiet_of->Q3
open Go.Result renaming andThen->PZ
open Go.Value renaming ownBlock->Q8,int->Qe,cells->QH
open _root_.UInt8 renaming toNat_inj->Qi
open Go.Sem renaming run_bind->Qj
open Go.Ending renaming returned->Qm
open Go.IntKind renaming wrap_i64->Qv
open _root_.Option renaming map_eq_some_iff->Qy
open Go.NoPanic renaming normal->QA
section
open Go.RowKit Go.Extern.Stop Go.Stop Go.Extern
theorem as_nil(t:AT)(w:AS):
 Calls PH 52 #[.nilIface,t] w fun e w'=>e= .returned (.bool false)∧w'=w:=by
 go_enter (PH.func Tryz.func52 (by decide)),Tryz.ntmps52
 go_wp2;go_ret;exact⟨rfl,rfl⟩
theorem PH.methodKind(h:AT)(w:AS):(Go.method 455 226 (.agg #[h]) "Kind").run PH w= .ok (206,h) w:=by kernel_rfl
theorem PH.methodElem(h:AT)(w:AS):(Go.method 455 226 (.agg #[h]) "Elem").run PH w= .ok (218,.agg #[h]) w:=by kernel_rfl
theorem PH.methodImplements(h:AT)(w:AS):(Go.method 455 226 (.agg #[h]) "Implements").run PH w= .ok (219,.agg #[h]) w:=by kernel_rfl
theorem PH.methodAssignableTo(h:AT)(w:AS):(Go.method 455 226 (.agg #[h]) "AssignableTo").run PH w= .ok (216,.agg #[h]) w:=by kernel_rfl
theorem rlm(z:Sem AT)(f:PK→Addr→Nat→Nat→Sem AT)(v:AT):
 ReflectliteValue.method z f #[v]=(do match← ReflectliteValue.parts v with |none=>z|some (t,a,fl)=>f t a fl (fl%32)):=rfl
theorem rls(v x:AT):ReflectliteValue.set #[v,x]=(do
 let(some (dst,a,fl),some (src,b,_)):=(← ReflectliteValue.parts v,← ReflectliteValue.parts x)
  |unsupported (.noEntry "extern/(internal/reflectlite.Value).Set.zeroValue")
 if fl/ReflectliteValue.flagAddr%2==0 then unsupported (.noEntry "extern/(internal/reflectlite.Value).Set.unaddressable")
 let val ← loadVar src b
 if← Rtype.directlyAssignable dst src then storeVar dst a val
 else if← Rtype.implements dst src then
  if(← Rtype.kind src)==20 then
   match val with
   | .nilIface=>unsupported (.noEntry "extern/reflectlite: a nil value of one interface type handed on as a value of another")
   |_=>storeVar dst a val
  else storeVar dst a (.iface src val)
 else panicString ("reflectlite.Set: value of type " ++(← Rtype.spelt src)++ " is not assignable to type " ++(← Rtype.spelt dst))
 pure (.tuple #[])):=rfl
theorem PH.EP(t:Addr)(w:AS):(ReflectliteValue.unpack (.iface 135 (.pointer (some t)))).run PH w
 = .ok (.agg #[.pointer (some ⟨3,135,none⟩),.pointer (some ⟨w.heap.size,0,none⟩),.int .u64 150]) (w.alloc (.cells #[.pointer (some t)] 135)):=by kernel_rfl
theorem PH.Lx(a:Addr)(w:AS):(ReflectliteValue.methodAny (ReflectliteValue.valueError "reflectlite.Value.Type" 0) (fun t _ _ _=>ReflectliteType.toType t) #[.agg #[.pointer (some ⟨3,135,none⟩),.pointer (some a),.int .u64 150]]).run PH w
 = .ok (.iface 226 (.agg #[.pointer (some ⟨3,135,none⟩)])) w:=by kernel_rfl
theorem PH.LZ(w:AS):((ReflectliteType.abiMethod fun t=>(fun a:Nat=>Qe IntKind.u8 (a:Int))<$>Rtype.kind t) #[.pointer (some ⟨3,135,none⟩)]).run PH w= .ok (.int .u8 22) w:=by kernel_rfl
theorem PH.M0(w:AS):((ReflectliteType.abiMethod fun t=>(fun a:Nat=>Qe IntKind.u8 (a:Int))<$>Rtype.kind t) #[.pointer (some ⟨3,133,none⟩)]).run PH w= .ok (.int .u8 22) w:=by kernel_rfl
theorem PH.Cs(a:Addr)(w:AS):(ReflectliteValue.parts (.agg #[.pointer (some ⟨3,135,none⟩),.pointer (some a),.int .u64 150])).run PH w= .ok (some (135,a,150)) w:=by kernel_rfl
theorem PH.KP(a p:Addr)(W:AS)(ha:W.cell? a=some (.pointer (some p))):
 (ReflectliteValue.method (ReflectliteValue.valueError "reflectlite.Value.IsNil" 0) ReflectliteValue.isNil #[.agg #[.pointer (some ⟨3,135,none⟩),.pointer (some a),.int .u64 150]]).run PH W= .ok (.bool false) W:=by
 rw[rlm];simp only[Qj,PH.Cs,PZ];simp[ReflectliteValue.isNil,loadVar,isAgg,underlying,br,Tryz.underlying135,ha,PZ]
theorem PH.Mb(w:AS):(ReflectliteType.method ReflectliteType.elem #[.agg #[.pointer (some ⟨3,135,none⟩)]]).run PH w= .ok (.iface 226 (.agg #[.pointer (some ⟨3,133,none⟩)])) w:=by kernel_rfl
theorem PH.Ac(w:AS):(ReflectliteType.relation "Implements" ReflectliteType.implements_ #[.agg #[.pointer (some ⟨3,133,none⟩)],.iface 226 (.agg #[.pointer (some ⟨3,105,none⟩)])]).run PH w= .ok (.bool true) w:=by kernel_rfl
theorem PH.Ho(v:AT)(w:AS):(ReflectliteType.typeOf #[.iface 133 v]).run PH w= .ok (.iface 226 (.agg #[.pointer (some ⟨3,133,none⟩)])) w:=by kernel_rfl
theorem PH.AO(w:AS):(ReflectliteType.relation "AssignableTo" ReflectliteType.assignableTo #[.agg #[.pointer (some ⟨3,133,none⟩)],.iface 226 (.agg #[.pointer (some ⟨3,133,none⟩)])]).run PH w= .ok (.bool true) w:=by kernel_rfl
theorem PH.EQ(e:Addr)(w:AS):(ReflectliteValue.unpack (.iface 133 (.pointer (some e)))).run PH w
 = .ok (.agg #[.pointer (some ⟨3,133,none⟩),.pointer (some ⟨w.heap.size,0,none⟩),.int .u64 150]) (w.alloc (.cells #[.pointer (some e)] 133)):=by kernel_rfl
theorem PH.J6(w:AS):(Rtype.elem? 135).run PH w= .ok (some 133) w:=by kernel_rfl
theorem PH.NH(p:Addr)(w:AS):(ReflectliteValue.mk 133 p ReflectliteValue.flagAddr).run PH w= .ok (.agg #[.pointer (some ⟨3,133,none⟩),.pointer (some p),.int .u64 406]) w:=by kernel_rfl
theorem PH.L0(a p:Addr)(W:AS)(ha:W.cell? a=some (.pointer (some p))):
 (ReflectliteValue.method (ReflectliteValue.valueError "reflectlite.Value.Elem" 0) ReflectliteValue.elem #[.agg #[.pointer (some ⟨3,135,none⟩),.pointer (some a),.int .u64 150]]).run PH W
  = .ok (.agg #[.pointer (some ⟨3,133,none⟩),.pointer (some p),.int .u64 406]) W:=by
 rw[rlm];simp only[Qj,PH.Cs,PZ];simp[ReflectliteValue.elem,loadVar,isAgg,underlying,br,Tryz.underlying135,ha,PZ,PH.J6,PH.NH]
theorem PH.Ib(a:Addr)(w:AS):(ReflectliteValue.parts (.agg #[.pointer (some ⟨3,133,none⟩),.pointer (some a),.int .u64 406])).run PH w= .ok (some (133,a,406)) w:=by kernel_rfl
theorem PH.Kz(a:Addr)(w:AS):(ReflectliteValue.parts (.agg #[.pointer (some ⟨3,133,none⟩),.pointer (some a),.int .u64 150])).run PH w= .ok (some (133,a,150)) w:=by kernel_rfl
theorem PH.J7(w:AS):(Rtype.directlyAssignable 133 133).run PH w= .ok true w:=by kernel_rfl
theorem PH.MN(ta b:Addr)(e:Addr)(old:AT)(W:AS)(hb:W.cell? b=some (.pointer (some e)))(ht:W.cell? ta=some old)(hf:W.frozen? ta=false):
 (ReflectliteValue.set #[.agg #[.pointer (some ⟨3,133,none⟩),.pointer (some ta),.int .u64 406],.agg #[.pointer (some ⟨3,133,none⟩),.pointer (some b),.int .u64 150]]).run PH W
  = .ok (.tuple #[]) (W.setCell ta (.pointer (some e))):=by
 rw[rls];simp only[Qj,PH.Ib,PH.Kz,PZ];simp[ReflectliteValue.flagAddr,loadVar,isAgg,underlying,br,Tryz.underlying133,hb,PZ,PH.J7,storeVar,dp,QH,storeCells,Addr.add];rw[run_store PH W ta _ _ (by rfl)];simp[ht,hf]
end
section
open Go.RowKit Go.Extern.Stop Go.Stop Go.Extern
set_option maxHeartbeats 4000000 in
theorem Lj(e:Addr)(t:Addr)(old:AT)(w:AS)(hg:w.cell? ⟨0,0,none⟩=some (.iface 226 (.agg #[.pointer (some ⟨3,105,none⟩)])))(h0:w.cell? t=some old)(h1:w.frozen? t=false):
 Calls PH 52 #[.iface 133 (.pointer (some e)),.iface 135 (.pointer (some t))] w fun ev w'=>ev= .returned (.bool true)∧w'=((((w.alloc (.cells #[.pointer (some t)] 135)).alloc (.cells #[.pointer (some ⟨3,135,none⟩),.pointer (some ⟨w.heap.size,0,none⟩),.int .u64 150] 182)).alloc (.cells #[.pointer (some ⟨3,135,none⟩),.pointer (some ⟨w.heap.size,0,none⟩),.int .u64 150] 182)).alloc (.cells #[.pointer (some e)] 133)).setCell t (.pointer (some e)):=by
 have h6:= @run_callFunc_extern PH 87 _ (fun args=>ReflectliteValue.unpack (args.getD 0 (.tuple #[]))) (PH.func Tryz.func87 (by decide)) (by kernel_rfl) (by kernel_rfl) (by kernel_rfl) (by kernel_rfl);have h7:= @run_callFunc_extern PH 88 _ (ReflectliteValue.methodAny (ReflectliteValue.valueError "reflectlite.Value.Type" 0) (fun t _ _ _=>ReflectliteType.toType t)) (PH.func Tryz.func88 (by decide)) (by kernel_rfl) (by kernel_rfl) (by kernel_rfl) (by kernel_rfl);have h8:= @run_callFunc_extern PH 89 _ (ReflectliteValue.method (ReflectliteValue.valueError "reflectlite.Value.IsNil" 0) ReflectliteValue.isNil) (PH.func Tryz.func89 (by decide)) (by kernel_rfl) (by kernel_rfl) (by kernel_rfl) (by kernel_rfl);have h27:= @run_callFunc_extern PH 206 _ (ReflectliteType.abiMethod fun t=>do pure (.int .u8 (← Rtype.kind t))) (PH.func Tryz.func206 (by decide)) (by kernel_rfl) (by kernel_rfl) (by kernel_rfl) (by kernel_rfl);have h37:= @run_callFunc_extern PH 218 _ (ReflectliteType.method ReflectliteType.elem) (PH.func Tryz.func218 (by decide)) (by kernel_rfl) (by kernel_rfl) (by kernel_rfl) (by kernel_rfl);have h38:= @run_callFunc_extern PH 219 _ (ReflectliteType.relation "Implements" ReflectliteType.implements_) (PH.func Tryz.func219 (by decide)) (by kernel_rfl) (by kernel_rfl) (by kernel_rfl) (by kernel_rfl);have h10:= @run_callFunc_extern PH 112 _ ReflectliteType.typeOf (PH.func Tryz.func112 (by decide)) (by kernel_rfl) (by kernel_rfl) (by kernel_rfl) (by kernel_rfl);have h35:= @run_callFunc_extern PH 216 _ (ReflectliteType.relation "AssignableTo" ReflectliteType.assignableTo) (PH.func Tryz.func216 (by decide)) (by kernel_rfl) (by kernel_rfl) (by kernel_rfl) (by kernel_rfl);have h11:= @run_callFunc_extern PH 113 _ (ReflectliteValue.method (ReflectliteValue.valueError "reflectlite.Value.Elem" 0) ReflectliteValue.elem) (PH.func Tryz.func113 (by decide)) (by kernel_rfl) (by kernel_rfl) (by kernel_rfl) (by kernel_rfl);have h12:= @run_callFunc_extern PH 114 _ ReflectliteValue.set (PH.func Tryz.func114 (by decide)) (by kernel_rfl) (by kernel_rfl) (by kernel_rfl) (by kernel_rfl);have tO:=PH.Ho;have f6:=PH.EP;have f7:=PH.Lx;have mK:=PH.methodKind;have mE:=PH.methodElem;have mI:=PH.methodImplements;have mA:=PH.methodAssignableTo;have kP:=PH.LZ;have kE:=PH.M0;have eP:=PH.Mb;have iE:=PH.Ac;have n8:=PH.KP ⟨w.heap.size,0,none⟩ t ((w.alloc (.cells #[.pointer (some t)] 135)).alloc (.cells #[.pointer (some ⟨3,135,none⟩),.pointer (some ⟨w.heap.size,0,none⟩),.int .u64 150] 182)) (by simp);have hlt:0<w.heap.size:=by
  rcases Q9 0 w.heap.size with h|h
  ·exact h
  ·simp[Qx,Qd h]at hg
 have hg2:((w.alloc (.cells #[.pointer (some t)] 135)).alloc (.cells #[.pointer (some ⟨3,135,none⟩),.pointer (some ⟨w.heap.size,0,none⟩),.int .u64 150] 182)).cell? ⟨0,0,none⟩=some (.iface 226 (.agg #[.pointer (some ⟨3,105,none⟩)])):=by
  rw[IT _ _ ⟨0,0,none⟩ (by first |(simp;omega)|simp),IT _ _ ⟨0,0,none⟩ hlt];exact hg
 have aE:=PH.AO;have vE:=PH.EQ;have htl:t.block<w.heap.size:=by
  rcases Q9 t.block w.heap.size with h|h
  ·exact h
  ·simp[Qx,Qd h]at h0
 have el:=PH.L0 ⟨w.heap.size,0,none⟩ t (((w.alloc (.cells #[.pointer (some t)] 135)).alloc (.cells #[.pointer (some ⟨3,135,none⟩),.pointer (some ⟨w.heap.size,0,none⟩),.int .u64 150] 182)).alloc (.cells #[.pointer (some ⟨3,135,none⟩),.pointer (some ⟨w.heap.size,0,none⟩),.int .u64 150] 182)) (by rw[IT _ _ ⟨w.heap.size,0,none⟩ (by simp;omega),IT _ _ ⟨w.heap.size,0,none⟩ (by simp),Qh _ _ _ _ rfl];rfl);have st:=PH.MN t ⟨w.heap.size+1+1+1,0,none⟩ e old ((((w.alloc (.cells #[.pointer (some t)] 135)).alloc (.cells #[.pointer (some ⟨3,135,none⟩),.pointer (some ⟨w.heap.size,0,none⟩),.int .u64 150] 182)).alloc (.cells #[.pointer (some ⟨3,135,none⟩),.pointer (some ⟨w.heap.size,0,none⟩),.int .u64 150] 182)).alloc (.cells #[.pointer (some e)] 133))
  (by rw[Qh _ _ _ _ (by simp)];rfl)
  (by rw[IT _ _ t (by simp;omega),IT _ _ t (by simp;omega),IT _ _ t (by simp;omega),IT _ _ t htl];exact h0)
  (by rw[Q6 _ _ t (by simp;omega),Q6 _ _ t (by simp;omega),Q6 _ _ t (by simp;omega),Q6 _ _ t (Nat.ne_of_lt htl)];exact h1)
 go_enter (PH.func Tryz.func52 (by decide)),Tryz.ntmps52
 go_wp2;go_enter (PH.func Tryz.func90 (by decide)),Tryz.ntmps90
 go_wp2;refine wp_loop_rounds 1 ?_;rw[rounds_succ];go_wp2;go_ret;exact⟨rfl,rfl⟩
end
section
open Go.RowKit Go.Extern.Stop Go.Stop Go.Extern
end
section
open Go.RowKit Go.Extern.Stop Go.Stop Go.Extern
end
section
open Go.RowKit
def gP(w:AS):Prop:=w.cell? ⟨0,0,none⟩=some (.iface 226 (.agg #[.pointer (some ⟨3,105,none⟩)]))
theorem gP.lt{w:AS}(h:gP w):0<w.heap.size:=by
 rcases Q9 0 w.heap.size with h'|h'
 ·exact h'
 ·simp[gP,Qx,Qd h']at h
theorem gP.alloc{w:AS}(h:gP w)(o:Obj):gP (w.alloc o):=(IT _ _ ⟨0,0,none⟩ h.lt).trans h
theorem Hs(w:AS):
 Calls PH 33 #[.nilIface] w fun e w'=>e= .returned (.tuple #[.int .i64 0,.int .i64 0])∧Below w.heap.size w w':=by
 go_enter (PH.func Tryz.func33 (by decide)),Tryz.ntmps33
 go_wp2_with (first |(go_at_call 52;refine(as_nil _ _).mono ?_;rintro e w' ⟨rfl,rfl⟩))
 go_ret2
 exact⟨rfl,((Below.refl _ _).alloc (OF _) _).alloc (by simp) _⟩
set_option maxHeartbeats 1000000 in
theorem Hq(p:Addr)(a k:Int)(w:AS)(hE:gP w)(ha:w.cell? p=some (.int .i64 a))(hk:w.cell? ⟨p.block,p.off+1,none⟩=some (.int .i64 k))(hp:p.block<w.heap.size):
 Calls PH 33 #[.iface 133 (.pointer (some p))] w fun e w'=>e= .returned (.tuple #[.int .i64 k,.int .i64 a])∧Below w.heap.size w w':=by
 have h0:=(hE.alloc (.cells #[.pointer none] 133));have hlt:=hE.lt;clear hE;go_enter (PH.func Tryz.func33 (by decide)),Tryz.ntmps33
 go_wp2_with fail
 refine(Lj p _ (.pointer none) _ h0 (by simp) (by simp)).mono ?_;rintro e w2 ⟨rfl,rfl⟩;clear h0;have hn:Below w.heap.size w (((((w.alloc (.cells #[.pointer (some p)] 133)).alloc (.cells #[.pointer (some ⟨w.heap.size,0,none⟩)] 135)).alloc (.cells #[.pointer (some ⟨3,135,none⟩),.pointer (some ⟨w.heap.size+1,0,none⟩),.int .u64 150] 182)).alloc (.cells #[.pointer (some ⟨3,135,none⟩),.pointer (some ⟨w.heap.size+1,0,none⟩),.int .u64 150] 182)).alloc (.cells #[.pointer (some p)] 133)):=
  (((((Below.refl _ _).alloc (OF _) _).alloc (by simp) _).alloc (by simp;omega) _).alloc (by simp;omega) _).alloc (by simp;omega) _
 have c0:=(hn.cell (p:=p) hp).trans ha;have c1:=(hn.cell (p:=⟨p.block,p.off+1,none⟩) hp).trans hk;have c2:(((((w.alloc (.cells #[.pointer (some p)] 133)).alloc (.cells #[.pointer (some ⟨w.heap.size,0,none⟩)] 135)).alloc (.cells #[.pointer (some ⟨3,135,none⟩),.pointer (some ⟨w.heap.size+1,0,none⟩),.int .u64 150] 182)).alloc (.cells #[.pointer (some ⟨3,135,none⟩),.pointer (some ⟨w.heap.size+1,0,none⟩),.int .u64 150] 182)).alloc (.cells #[.pointer (some p)] 133)).cell? ⟨w.heap.size,0,none⟩=some (.pointer (some p)):=by
  rw[IT _ _ ⟨w.heap.size,0,none⟩ (by simp;omega),IT _ _ ⟨w.heap.size,0,none⟩ (by simp;omega),IT _ _ ⟨w.heap.size,0,none⟩ (by simp;omega),IT _ _ ⟨w.heap.size,0,none⟩ (by simp),Qh _ _ _ _ rfl];rfl
 have HN:=AI hn;clear hn ha hk;go_wp2_with fail
 generalize (((((w.alloc (.cells #[.pointer (some p)] 133)).alloc (.cells #[.pointer (some ⟨w.heap.size,0,none⟩)] 135)).alloc (.cells #[.pointer (some ⟨3,135,none⟩),.pointer (some ⟨w.heap.size+1,0,none⟩),.int .u64 150] 182)).alloc (.cells #[.pointer (some ⟨3,135,none⟩),.pointer (some ⟨w.heap.size+1,0,none⟩),.int .u64 150] 182)).alloc (.cells #[.pointer (some p)] 133))=W at *;go_region
 all_goals go_wp2
 all_goals go_ret2
 all_goals exact⟨rfl,HN.out.drew⟩
end
section
open Go.RowKit Go.Conc
attribute [local instance] mb
theorem gP.gk{w w':AS}(h:gP w)(k:Old w w'):gP w':=by
 have hl:=h.lt;unfold gP Qx at h ⊢;dsimp only at h ⊢;rw[k.old _ hl];exact h
def Hd(n0:Nat)(w':AS)(fl:Nat)(r:Option (df Nd))(v:AT):Prop:=match r with
 |some (.ok nd σ)=>∃x nv tl,v= .tuple #[vp x,.int .i64 0,.int .i64 0]∧n0≤x∧w'.heap[x]?=some (.cells (#[nv,.int .i64 σ.g,.int .u8 fl]++tl) 103 (0,0))∧Repr w' (fun b=>n0≤b∧b≠x) nv nd
 |some (.err k a)=>v= .tuple #[.pointer none,.int .i64 k,.int .i64 a]
 |none=>False
set_option maxRecDepth 100000 in
theorem DC{h0:Array Obj}{w:AS}{s:ByteArray}{fl:Nat}(hfl:fl<256)(h3:Under h0 w)(hG:fO w)(hE:gP w):
 dh (dv kv h0) 26 #[.string s,.int .u8 fl] w fun e w'=>∃v,e= .returned v∧Old w w'∧Hd w.heap.size w' fl (gR s fl) v:=by
 refine cF (ie (by decide)) (fun w' ⟨v,h,_⟩=>nomatch h) (PH.func Tryz.func26 (by decide)) rfl ?_;simp only[Tryz.ntmps26,List.size_toArray,If,IS,Nat.reduceAdd,Nat.reduceSub,Array.replicate_succ,Array.replicate_zero,List.push_toArray,List.append_toArray,PG,Q5];refine ag (fun K hK=> ?_);refine ej fun w1 e1=> ?_
 have O1:=AI e1.old;clear e1;go_wp2;refine hK.out _ _ ?_;clear hK K;refine ag (fun K hK=> ?_);refine aC ?_;show bo _ _ _ (List.range' 0 (2+6)) _ _;refine fy 0 2 6 (fun N hN w2 e2=> ?_) (by decide);simp only[zq1];have O2:=AI (O1.out.eqv e2);clear e2;go_wp2;refine hN.out _ _ ?_;clear hN N;have hG2:=hG.gk O2.out;have h2:Under h0 w2:=h3.gk O2.out;refine bJ (f:=36) (i:=2) (rest:=List.range' 3 (5+0)) rfl rfl (fun u=>by simp[go_sem]) (ie (by decide)) (GR (s:=s) hfl h2 hG2) (fun v w3 hr=> ?_) (fun ch w3 hr=>by obtain⟨_,h,_⟩:=hr;cases h);obtain⟨v,e,hO3,hs⟩:=hr;cases e;have O3:=AI (O2.out.trans hO3);have h1:=AI (hE.gk O3.out);have hsz:=AI O2.out.size;clear hO3 hG hG2 h2 O1 O2 hE;cases hr:gR s fl with
 |none=>rw[hr]at hs;exact hs.elim
 |some r=>
 rw[hr]at hs;cases r with
 |ok nd σ=>
  obtain⟨x,nv,tl,rfl,hx,hxb,hrep⟩:=hs;replace hrep:=AI hrep;replace hxb:=AI hxb;simp only[IN,zq0];refine fy 3 5 0 (fun N hN w4 e4=> ?_) (by decide);simp only[zq1];have O4:=AI (O3.out.eqv e4);replace e4:=AI e4;clear O3;go_wp2;refine hN.out _ _ (aZ (hK.out _ _ ?_));clear hN N hK K;refine ej fun w5 e5=> ?_
  have O5:=AI (O4.out.eqv e5);replace e5:=AI e5;clear O4;go_wp2_with fail
  refine(Hs _).mono ?_;rintro e w6 ⟨rfl,hb⟩;go_wp2;go_ret3
  have h53:w5.heap=w3.heap:=e5.out.heap.trans e4.out.heap;have hz:=congrArg Array.size h53;have hlt:=(PJ.1 hxb.out).1;have hold:=Below.gk hb;refine⟨_,rfl,O5.out.trans hold,?_⟩;rw[hr];refine⟨x,nv,tl,rfl,PL hsz.out hx,?_,?_⟩
  ·rw[hold.old x (by omega),h53];exact hxb.out
  ·refine(hrep.out.mono (S':=fun b=>w.heap.size≤b∧b≠x) fun b hb hlt=>⟨PL hsz.out hb.1,hb.2⟩).keep fun b hb hlt=> ?_
   rw[hold.old b (by omega),h53]
 |err k at_=>
  obtain⟨b,rfl,hb,hB⟩:=hs;replace hB:=AI hB;replace hb:=AI hb;simp only[IN,zq0];refine fy 3 5 0 (fun N hN w4 e4=> ?_) (by decide);simp only[zq1];have O4:=AI (O3.out.eqv e4);replace hB:=AI (hB.out.ab e4.heap);replace h1:=AI (h1.out.gk e4.old);clear O3 e4;go_wp2;refine hN.out _ _ (aZ (hK.out _ _ ?_));clear hN N hK K;refine ej fun w5 e5=> ?_
  have O5:=AI (O4.out.eqv e5);replace hB:=AI (hB.out.ab e5.heap);replace h1:=AI (h1.out.gk e5.old);clear O4 e5;have c0:=AI (hB.out.cell 0);have c1:=AI (hB.out.cell 1);have hlt:=AI hB.out.lt;go_wp2_with fail
  refine(Hq ⟨b,0,none⟩ at_ k _ h1.out c0.out c1.out hlt.out).mono ?_;rintro e w6 ⟨rfl,hb⟩;go_wp2;go_ret3
  refine⟨_,rfl,O5.out.trans (Below.gk hb),?_⟩;rw[hr];rfl
end
def lL(c:UInt8):Prop:=48≤c.toNat∧c.toNat≤57
instance(c:UInt8):Decidable (lL c):=by unfold lL;exact zq2
def g4(v:Nat):List UInt8→Nat×List UInt8
 |[]=>(v,[])
 |c::cs=>if lL c then g4 (min (10*v+(c.toNat-48)) 21) cs else(v,c::cs)
def oS(a b:Nat):Bool:=decide (a<b)
@[simp] theorem NI(a b:Nat):(oS a b=true)=(a<b):=by simp[oS]
def iG(rest:List UInt8):Nat×Int×Bool×List UInt8:=
 let a:=g4 0 rest
 let ok:=oS a.2.length rest.length
 if ok=true∧a.2.head?=some 44 then
  if a.2.tail≠[]∧a.2.tail.head?≠some 125 then
   let b:=g4 0 a.2.tail
   (a.1,b.1,oS b.2.length a.2.tail.length,b.2)
  else(a.1,-1,true,a.2.tail)
 else(a.1,a.1,ok,a.2)
def jZ(q:Nat×Int×Bool×List UInt8):Prop:=q.2.2.1=true∧q.2.2.2.head?=some 125∧q.1≤20∧q.2.1≤20∧(0≤q.2.1→(q.1:Int)≤q.2.1)
theorem xN(v:Nat)(l:List UInt8):∃D,l=D++(g4 v l).2∧mP v D=some (g4 v l).1∧(∀c∈D,lL c)∧∀c cs,(g4 v l).2=c::cs→¬ lL c:=by
 induction l generalizing v with
 |nil=>exact⟨[],rfl,rfl,by simp,by simp[g4]⟩
 |cons c cs ih=>
  unfold g4;split
  ·rename_i h;obtain⟨D,h1,h2,h3,h4⟩:=ih (min (10*v+(c.toNat-48)) 21);refine⟨c::D,by rw[Q5,← h1],?_,?_,h4⟩
   ·unfold mP;rw[if_neg (by unfold lL at h;omega)];exact h2
   ·intro x hx;rcases Qa.1 hx with rfl|hx
    ·exact h
    ·exact h3 x hx
  ·rename_i h;exact⟨[],rfl,rfl,by simp,fun x xs e=>by cases e;exact h⟩
theorem Io{A B:List UInt8}{c:UInt8}(h:¬ lL c):∀v,mP v (A++c::B)=none:=by
 induction A with
 |nil=>
  intro v;simp only[PG,mP];rw[if_pos (by unfold lL at h;omega)]
 |cons a A ih=>
  intro v;simp only[Q5,mP];split
  ·rfl
  ·exact ih _
theorem zU{A B:List UInt8}{c:UInt8}(h:¬ lL c):ea (A++c::B)=(0,false):=by
 unfold ea;rw[Io h]
theorem t8{D:List UInt8}{v:Nat}(h:mP 0 D=some v):ea D=(v,!D.isEmpty&&decide (v≤20)):=by
 unfold ea;rw[h]
theorem sw{A E:List UInt8}{c:UInt8}(hA:∀x∈A,x≠c):No (A++E) c=if No E c= -1 then -1 else A.length+No E c:=by
 induction A with
 |nil=>simp
 |cons a A ih=>
  have ha:(a==c)=false:=by simpa using hA a (.head _)
  have:=ih (fun x hx=>hA x (.tail _ hx));simp only[Q5,No,ha,this];have hg:=Lib.indexByte_ge E c;by_cases h:No E c= -1
  ·simp[h]
  ·have h2:¬ ((A.length:Int)+No E c= -1):=by omega
   simp[h,h2];omega
theorem td{E:List UInt8}{c:UInt8}(h:∀x∈E,x≠c):No E c= -1:=by
 have:=sw (E:=[]) h;simpa[No]using this
theorem Ad{A E:List UInt8}{c:UInt8}(hA:∀x∈A,x≠c):No (A++c::E) c=A.length:=by
 rw[sw hA];simp[No]
theorem Ep{D:List UInt8}(h:∀c∈D,lL c){k:UInt8}(hk:¬ lL k):∀x∈D,x≠k:=fun x hx e=>hk (e▸h x hx)
theorem te{A E:List UInt8}{c:UInt8}(hA:∀x∈A,x≠c):Qg (A++c::E) [c]=(A,E,true):=by
 unfold Qg;rw[QC,Ad hA];simp
theorem J9{A:List UInt8}{c:UInt8}(hA:∀x∈A,x≠c):Qg A [c]=(A,[],false):=by
 unfold Qg;rw[QC,td hA];rfl
theorem Ja{A E:List UInt8}{k c:UInt8}(hA:∀x∈A,x≠c)(hk:k≠c):∃Z,(Qg (A++k::E) [c]).1=A++k::Z:=by
 unfold Qg;rw[QC];split
 ·rename_i h;have e:A++k::E=(A++[k])++E:=by simp
  have hA2:∀x∈A++[k],x≠c:=by
   intro x hx;rcases PU.1 hx with hx|hx
   ·exact hA x hx
   ·obtain rfl:=PP.1 hx;exact hk
  rw[e,sw hA2]at h ⊢;split at h
  ·omega
  ·rename_i h2;rw[if_neg h2];have hg:=Lib.indexByte_ge E c;obtain⟨j,hj⟩:∃j:Nat,No E c=j:=⟨(No E c).toNat,by omega⟩;rw[hj];refine⟨E.take j,?_⟩;have:((((A++[k]).length:Nat):Int)+(j:Int)).toNat=(A++[k]).length+j:=by omega
   rw[this,List.take_length_add_append];simp
 ·exact⟨E,rfl⟩
theorem oh(E:List UInt8)(c:UInt8):No E c= -1∨∃A B,E=A++c::B∧(∀x∈A,x≠c)∧No E c=A.length:=by
 induction E with
 |nil=>exact .inl rfl
 |cons e E ih=>
  by_cases h:e=c
  ·subst h;exact .inr ⟨[],E,rfl,by simp,by simp[No]⟩
  ·rcases ih with h1|⟨A,B,rfl,h2,h3⟩
   ·left;simp[No,h,h1]
   ·right;refine⟨e::A,B,rfl,fun x hx=> ?_,?_⟩
    ·rcases Qa.1 hx with rfl|hx
     ·exact h
     ·exact h2 x hx
    ·rw[show e::(A++c::B)=(e::A)++c::B from rfl,Ad];intro x hx;rcases Qa.1 hx with rfl|hx
     ·exact h
     ·exact h2 x hx
theorem fZ{rest:List UInt8}(h:No rest 125= -1):bO rest=(0,0,false,0):=by
 unfold bO;rw[h];rfl
theorem jE{A B:List UInt8}(h:∀x∈A,x≠125):bO (A++125::B)=
 let c:=Qg A [44]
 if c.2.2=false then(((ea c.1).1:Int),((ea c.1).1:Int),(ea c.1).2,A.length+1)
 else if c.2.1=[]then(((ea c.1).1:Int),-1,(ea c.1).2,A.length+1)
 else(((ea c.1).1:Int),((ea c.2.1).1:Int),(ea c.1).2&& (ea c.2.1).2&&decide ((ea c.1).1≤(ea c.2.1).1),A.length+1):=by
 unfold bO;rw[Ad h];rw[if_neg (by omega)];simp
theorem JD:¬ lL 125:=by decide
theorem NG:¬ lL 44:=by decide
theorem AK(rest:List UInt8):((bO rest).2.2.1=true↔jZ (iG rest))∧(jZ (iG rest)→(bO rest).1=(iG rest).1∧(bO rest).2.1=(iG rest).2.1∧(bO rest).2.2.2+(iG rest).2.2.2.length=rest.length+1):=by
 obtain⟨D,h1,h2,h3,h4⟩:=xN 0 rest;generalize hq:g4 0 rest=a at h1 h2 h4;obtain⟨v,t⟩:=a;dsimp only at h1 h2 h4;subst h1;have hD:=Ep h3 JD;have h0:=Ep h3 NG;have hok:oS t.length (D++t).length= !D.isEmpty:=by
  unfold oS;cases D with
  |nil=>simp
  |cons d D=>simp;omega
 have key:∀(b:Int×Int×Bool×Nat)(q:Nat×Int×Bool×List UInt8),b.2.2.1=false→¬ jZ q→(b.2.2.1=true↔jZ q)∧(jZ q→b.1=q.1∧b.2.1=q.2.1∧b.2.2.2+q.2.2.2.length=(D++t).length+1):=fun b q h1 h2=>⟨⟨fun h=>(by rw[h1]at h;cases h),fun h=>absurd h h2⟩,fun h=>absurd h h2⟩
 unfold iG;rw[hq];simp only[hok];cases t with
 |nil=>
  refine key _ _ ?_ ?_
  ·rw[fZ (by rw[BY];exact td hD)]
  ·rw[if_neg (by simp)];exact fun h=>by have:=h.2.1;simp at this
 |cons c X=>
  have hc:=h4 c X rfl;by_cases c1:c=125
  ·subst c1;rw[if_neg (by simp),jE hD,J9 h0];simp only[if_true];rw[t8 h2];simp only[jZ,Ql];constructor
   ·simp only[PE,decide_eq_true_eq];constructor
    ·rintro⟨a,b⟩;exact⟨a,trivial,b,by omega,fun _=>PR _⟩
    ·rintro⟨a,_,b,_⟩;exact⟨a,b⟩
   ·intro _;refine⟨trivial,trivial,?_⟩;simp;omega
  by_cases c2:c=44
  ·subst c2;cases D with
   |nil=>
    refine key _ _ ?_ ?_
    ·rcases oh ([]++44::X) 125 with h|⟨A,B,h5,h6,h7⟩
     ·rw[fZ h]
     ·cases A with
      |nil=>simp at h5
      |cons a A=>
       simp only[PG,Q5,List.cons.injEq]at h5;obtain⟨rfl,rfl⟩:=h5;rw[show([]++44::(A++125::B):List UInt8)=(44::A)++125::B from rfl,jE h6];have:Qg (44::A) [44]=([],A,true):=by
        have:=te (A:=[]) (E:=A) (c:=44) (by simp);simpa using this
       rw[this];dsimp only;have hn:ea []=(0,false):=rfl;rw[hn];simp;split <;>rfl
    ·rw[if_neg (by simp)];exact fun h=>by have:=h.1;simp at this
   |cons d D=>
    rw[if_pos (by simp)];cases X with
    |nil=>
     refine key _ _ ?_ ?_
     ·rw[fZ];refine td fun x hx=> ?_
      rcases PU.1 hx with hx|hx
      ·exact hD x hx
      ·obtain rfl:=PP.1 hx;decide
     ·rw[if_neg (by simp)];exact fun h=>by have:=h.2.1;simp at this
    |cons e Y=>
     by_cases ce:e=125
     ·subst ce;rw[if_neg (by simp)];have e1:(d::D)++44::125::Y=((d::D)++[44])++125::Y:=by simp
      rw[e1,jE (by
       intro x hx;rcases PU.1 hx with hx|hx
       ·exact hD x hx
       ·obtain rfl:=PP.1 hx;decide)]
      rw[te h0];simp only[if_true,reduceIte,Qc];rw[t8 h2];simp only[jZ,Ql,List.tail_cons];constructor
      ·simp
      ·intro _;refine⟨trivial,trivial,?_⟩;simp;omega
     ·rw[if_pos (by simp[ce])];obtain⟨D2,k1,k2,k3,k4⟩:=xN 0 (e::Y);have et:(44::e::Y:List UInt8).tail=e::Y:=rfl;simp only[List.tail_cons];obtain⟨v2,t2,hq2⟩:∃v2 t2,g4 0 (e::Y)=(v2,t2):=⟨_,_,rfl⟩;rw[hq2]at k1 k2 k4 ⊢;dsimp only at k1 k2 k4 ⊢;rw[k1];have hE:=Ep k3 JD;have hall:∀x∈(d::D)++44::D2,x≠125:=fun x hx=>by
       rcases PU.1 hx with hx|hx
       ·exact hD x hx
       ·rcases Qa.1 hx with rfl|hx
        ·decide
        ·exact hE x hx
      cases t2 with
      |nil=>
       refine⟨⟨fun h=> ?_,fun h=>by have:=h.2.1;simp at this⟩,fun h=>by have:=h.2.1;simp at this⟩;rw[BY,fZ (td hall)]at h;cases h
      |cons f Z=>
       have hf:=k4 f Z rfl;by_cases cf:f=125
       ·subst cf;have ha:D2≠[]:=by
         rintro rfl;simp only[PG,List.cons.injEq]at k1;exact ce k1.1
        have e1:(d::D)++44::(D2++125::Z)=((d::D)++44::D2)++125::Z:=by simp
        rw[e1,jE hall,te h0];simp only[Qc,if_false,reduceIte,ha];rw[t8 h2,t8 k2];have hi:D2.isEmpty=false:=by cases D2<;>simp_all
        simp only[jZ,Ql,List.isEmpty_cons,hi];constructor
        ·simp;constructor
         ·rintro⟨⟨a,b⟩,c⟩;refine⟨by cases D2<;>simp_all <;>omega,a,by omega,by omega⟩
         ·rintro⟨_,a,b,c⟩;exact⟨⟨a,by omega⟩,by omega⟩
        ·intro _;refine⟨trivial,trivial,?_⟩;simp;omega
       ·refine⟨⟨fun h=> ?_,fun h=> ?_⟩,fun h=> ?_⟩
        ·exfalso;rcases oh ((d::D)++44::(D2++f::Z)) 125 with h9|⟨A,B,h5,h6,h7⟩
         ·rw[fZ h9]at h;cases h
         ·
          have e1:(d::D)++44::(D2++f::Z)=((d::D)++44::D2++[f])++Z:=by simp
          have hall2:∀x∈(d::D)++44::D2++[f],x≠125:=fun x hx=>by
           rcases PU.1 hx with hx|hx
           ·exact hall x hx
           ·obtain rfl:=PP.1 hx;exact cf
          rcases oh Z 125 with h9|⟨A2,B2,rfl,h8,_⟩
          ·rw[e1,fZ (by rw[sw hall2,if_pos h9])]at h;cases h
          ·have e2:(d::D)++44::(D2++f::(A2++125::B2))=((d::D)++44::(D2++f::A2))++125::B2:=by simp
           rw[e2,jE (by
            intro x hx;have e3:(d::D)++44::(D2++f::A2)=((d::D)++44::D2++[f])++A2:=by simp
            rw[e3]at hx;rcases PU.1 hx with hx|hx
            ·exact hall2 x hx
            ·exact h8 x hx),te h0]at h
           simp only[Qc,if_false,reduceIte]at h;rw[if_neg (by simp),zU hf]at h;simp at h
        ·have:=h.2.1;simp at this;exact absurd this cf
        ·have:=h.2.1;simp at this;exact absurd this cf
  ·refine key _ _ ?_ ?_
   ·rcases oh X 125 with h9|⟨A2,B2,rfl,h8,_⟩
    ·have e1:D++c::X=(D++[c])++X:=by simp
     rw[e1,fZ];rw[sw,if_pos h9];intro x hx;rcases PU.1 hx with hx|hx
     ·exact hD x hx
     ·obtain rfl:=PP.1 hx;exact c1
    ·have e2:D++c::(A2++125::B2)=(D++c::A2)++125::B2:=by simp
     rw[e2,jE (by
      intro x hx;rcases PU.1 hx with hx|hx
      ·exact hD x hx
      ·rcases Qa.1 hx with rfl|hx
       ·exact c1
       ·exact h8 x hx)]
     obtain⟨Z,hZ⟩:=Ja (E:=A2) h0 c2;dsimp only;rw[hZ,zU hc];split
     ·rfl
     ·split <;>rfl
   ·rw[if_neg (by simp[c2])];exact fun h=>by have:=h.2.1;simp at this;exact c1 this
section
open Go.RowKit
structure RE where
 r:Nat
 x:Nat
 s:ByteArray
 fl:Nat
 B:Nat
def RE.l(E:RE):List UInt8:=E.s.data.toList
structure RD(E:RE)(w:AS)(p:Nat)(g k a:Int)(n:List (List AT)):Prop where
 rb:ac w E.r 123 #[.string E.s,.int .i64 p,.pointer (some ⟨E.x,0,none⟩),.int .i64 k,.int .i64 a]
 xb:∃sl xs root,ac w E.x 83 #[sl,root,.int .i64 g,.int .i64 E.fl]∧w.ownsRow E.B 149 261 sl n.length xs∧xs=n.flatten
 lo:E.B≤E.r∧E.B≤E.x
theorem RD.ab{E:RE}{w w':AS}{p:Nat}{g k a:Int}{n:List (List AT)}(h:RD E w p g k a n)(he:w'.heap=w.heap):RD E w' p g k a n:=by
 obtain⟨sl,xs,root,h1,h2⟩:=h.xb;refine⟨h.rb.ab he,⟨sl,xs,root,h1.ab he,⟨h2.1.1,?_⟩,h2.2⟩,h.lo⟩;rcases h2.1.2 with h3|⟨q,cap,cur,h3,h4,h5,h6⟩
 ·exact .inl h3
 ·exact .inr ⟨q,cap,cur,h3,h4,by rw[he];exact h5,h6⟩
theorem RD.drewN{E:RE}{w:AS}{p:Nat}{n:List (List AT)}{g k a:Int}(h:RD E w p g k a n)(m:Nat):RD E (w.drewN m) p g k a n:=h.ab rfl
structure RK(E:RE)(w w':AS):Prop where
 os:w'.os=w.os
 out:w'.output=w.output
 size:w.heap.size≤w'.heap.size
 old:∀b,b<w.heap.size→(b<E.B∨(b≠E.r∧b≠E.x∧∀c z,w.heap[b]?≠some (.cells c 149 z)))→w'.heap[b]?=w.heap[b]?
theorem RK.refl(E:RE)(w:AS):RK E w w:=⟨rfl,rfl,OF _,fun _ _ _=>rfl⟩
theorem RK.trans{E:RE}{a b c:AS}(h:RK E a b)(k:RK E b c):RK E a c:=by
 refine⟨k.os.trans h.os,k.out.trans h.out,PL h.size k.size,fun i hi hb=> ?_⟩;have h1:=h.old i hi hb;refine(k.old i (PO hi h.size) ?_).trans h1;rcases hb with hb|⟨h2,h3,h4⟩
 ·exact .inl hb
 ·exact .inr ⟨h2,h3,fun c z=>by rw[h1];exact h4 c z⟩
theorem RK.drewN{E:RE}{a b:AS}(h:RK E a b)(m:Nat):RK E a (b.drewN m):=⟨h.os,h.out,h.size,h.old⟩
theorem RK.alloc{E:RE}{a b:AS}(h:RK E a b)(o:Obj):RK E a (b.alloc o):=⟨h.os,h.out,by have:=h.size;simp;omega,fun i hi hb=>(Below.heap_alloc _ _ i (PO hi h.size)).trans (h.old i hi hb)⟩
theorem RK.dN{E:RE}{a b:AS}(h:RK E a b)(hl:E.B≤E.r∧E.B≤E.x){q:Nat}(hq:q=E.r∨q=E.x∨a.heap.size≤q)(i:Nat)(v:AT):RK E a (b.setCell ⟨q,i,none⟩ v):=by
 refine⟨h.os,h.out,by rw[Q7];exact h.size,fun j hj hb=>(Below.heap_setCell _ _ _ j ?_).trans (h.old j hj hb)⟩;dsimp only;rcases hq with rfl|rfl|hq
 ·rcases hb with hb|⟨h1,_,_⟩<;>omega
 ·rcases hb with hb|⟨_,h1,_⟩<;>omega
 ·omega
theorem RD.dN{E:RE}{w:AS}{p:Nat}{n:List (List AT)}{g k a:Int}(h:RD E w p g k a n){p':Nat}{k' a':Int}(i:Nat)(v:AT)(e:(#[.string E.s,.int .i64 p,.pointer (some ⟨E.x,0,none⟩),.int .i64 k,.int .i64 a]:Array AT).setIfInBounds i v=#[.string E.s,.int .i64 p',.pointer (some ⟨E.x,0,none⟩),.int .i64 k',.int .i64 a']):RD E (w.setCell ⟨E.r,i,none⟩ v) p' g k' a' n:=by
 obtain⟨sl,xs,root,h1,h2⟩:=h.xb;have hne:E.x≠E.r:=fun e=>by
  have h3:=h.rb;have h4:=h1;rw[e]at h4;have:=h3.symm.trans h4;simp at this
 refine⟨by have:=h.rb.ci i v;rw[e]at this;exact this,⟨sl,xs,root,h1.far hne v,⟨h2.1.1,?_⟩,h2.2⟩,h.lo⟩;rcases h2.1.2 with h3|⟨q,cap,cur,h3,h4,h5,h6⟩
 ·exact .inl h3
 ·refine .inr ⟨q,cap,cur,h3,h4,?_,h6⟩;rw[Below.heap_setCell _ _ _ q (by
   dsimp only;rintro rfl;have:=h.rb.symm.trans h5;simp at this)]
  exact h5
theorem u8_in{s:ByteArray}{p:Nat}(h:p<s.size):s[p].toNat<256:=s[p].toNat_lt
theorem io{E:RE}{w:AS}{p:Nat}{n:List (List AT)}{g k a:Int}(k' a':Int)(h:RD E w p g k a n):
 Calls PH 98 #[.pointer (some ⟨E.r,0,none⟩),.int .i64 k',.int .i64 a'] w fun e w'=>e= .returned (.tuple #[])∧RK E w w'∧RD E w' p g (if k=0 then k' else k) (if k=0 then a' else a) n:=by
 have c3:=h.rb.cell 3;have f:=h.rb.frozen;have c4:=h.rb.cell 4;have hh:=AI h;go_enter (PH.func Tryz.func98 (by decide)),Tryz.ntmps98
 by_cases hk:k=0
 ·subst hk;go_wp2;refine bodyPost_end (results_none rfl _ _ _) rfl ⟨rfl,((RK.refl E w).dN hh.out.lo (.inl rfl) _ _).dN hh.out.lo (.inl rfl) _ _,?_⟩;exact(hh.out.dN 3 _ rfl).dN 4 _ rfl
 ·have hd:decide (k=0)=false:=by simpa using hk
  go_wp2;refine bodyPost_end (results_none rfl _ _ _) rfl ⟨rfl,RK.refl E w,?_⟩;have h1:=hh.out;simpa[hk]using h1
theorem Is{E:RE}{w:AS}{p:Nat}{n:List (List AT)}{g k a:Int}(h:RD E w p g k a n):
 Calls PH 153 #[.pointer (some ⟨E.r,0,none⟩)] w fun e w'=>e= .returned (.bool (decide (k=0)&&decide (p<E.s.size)))∧∃m,w'=w.drewN m:=by
 have c0:=h.rb.cell 0;have c1:=h.rb.cell 1;have c3:=h.rb.cell 3;clear h;go_enter (PH.func Tryz.func153 (by decide)),Tryz.ntmps153
 by_cases hk:k=0
 ·subst hk;go_wp2;go_quiet (fail)
  go_wp2;go_ret;exact⟨rfl,_,rfl⟩
 ·have hd:decide (k=0)=false:=by simpa using hk
  go_wp2;go_quiet (fail)
  go_wp2;go_ret;exact⟨by simp[hk],_,rfl⟩
end
section
open Go.RowKit
def fF(s:ByteArray)(p:Nat):Nat:=if h:p<s.size then s[p].toNat else 256
def jr(s:ByteArray)(k:Int)(p c:Nat):Bool:=decide (k=0)&&decide (fF s p=c)
theorem tc{s:ByteArray}{k:Int}{p c:Nat}(hc:c<256)(h:¬ p<s.size):jr s k p c=false:=by
 unfold jr fF;rw[dif_neg h];simp;intro _;omega
theorem E3{s:ByteArray}{k:Int}{p c:Nat}(h:k≠0):jr s k p c=false:=by
 unfold jr;simp[h]
theorem lM{s:ByteArray}{p c:Nat}(h:p<s.size):jr s 0 p c=decide (s[p].toNat=c):=by
 unfold jr fF;rw[dif_pos h];simp
theorem A7{E:RE}{w:AS}{p:Nat}{n:List (List AT)}{g k a:Int}(c:Nat)(hc:c<256)(h:RD E w p g k a n):
 Calls PH 58 #[.pointer (some ⟨E.r,0,none⟩),.int .u8 c] w fun e w'=>e= .returned (.bool (jr E.s k p c))∧∃m,w'=w.drewN m:=by
 have c0:=h.rb.cell 0;have c1:=h.rb.cell 1;have c3:=h.rb.cell 3;clear h;by_cases hk:k=0
 ·subst hk;by_cases hp:p<E.s.size
  ·have hp2:(p:Int)<E.s.size:=by omega
   have hd:decide ((p:Int)<E.s.size)=true:=by simpa using hp2
   rw[lM hp];go_enter (PH.func Tryz.func58 (by decide)),Tryz.ntmps58
   go_wp2;go_quiet (fail)
   go_wp2;go_ret;exact⟨congrArg (fun b=>Qm (.bool b)) (by rw[PM];simp;omega),_,rfl⟩
  ·have hd:decide ((p:Int)<E.s.size)=false:=by simp;omega
   rw[tc hc hp];go_enter (PH.func Tryz.func58 (by decide)),Tryz.ntmps58
   go_wp2;go_quiet (fail)
   go_wp2;go_ret;exact⟨rfl,_,rfl⟩
 ·have hd:(k==0)=false:=by simpa using hk
  rw[E3 hk];go_enter (PH.func Tryz.func58 (by decide)),Tryz.ntmps58
  go_wp2;go_quiet (fail)
  go_wp2;go_ret;exact⟨rfl,_,rfl⟩
def dS(fl:Nat):Bool:=decide (fl/2%2=1)
theorem KN(fl:Nat):((fl:Int)/2%2==1)=dS fl:=by
 unfold dS;rw[PM];simp;omega
theorem lines_any{E:RE}{w:AS}{p:Nat}{n:List (List AT)}{g k a:Int}(hf:E.fl<256)(h:RD E w p g k a n):
 Calls PH 150 #[.pointer (some ⟨E.x,0,none⟩)] w fun e w'=>e= .returned (.bool (dS E.fl))∧w'=w:=by
 obtain⟨sl,xs,root,h1,h2⟩:=h.xb;have c3:=h1.cell 3;clear h h1 h2;go_enter (PH.func Tryz.func150 (by decide)),Tryz.ntmps150
 go_wp2;go_ret;rw[← KN];exact⟨rfl,rfl⟩
def inB(s:ByteArray)(c:Nat):Bool:=s.data.toList.any fun x=>decide (x.toNat=c)
theorem KQ{s:ByteArray}{c k:Nat}(h:k<s.size)(e:s[k].toNat=c):inB s c=true:=by
 unfold inB;rw[QJ];exact⟨s[k],by rw[Array.mem_toList_iff];exact Array.getElem_mem _,by simpa using e⟩
theorem M1{s:ByteArray}{c:Nat}(h:∀j,∀hj:j<s.size,s[j].toNat≠c):inB s c=false:=by
 unfold inB;rw[List.any_eq_false];intro x hx;obtain⟨i,hi,rfl⟩:=Qk.1 hx;have:=h i (by simpa using hi);simp only[Array.getElem_toList,decide_eq_true_eq];exact this
theorem Gj(s:ByteArray)(c:Nat)(w:AS)(hs:s.size≤1000):
 Calls PH 122 #[.string s,.int .u8 c] w fun e w'=>e= .returned (.bool (inB s c))∧w'=w:=by
 go_enter (PH.func Tryz.func122 (by decide)),Tryz.ntmps122
 go_wp2;go_loopw [5] (fun i wr=>∃k:Nat,k≤s.size∧i= .int .i64 k∧wr=w∧∀j,j<k→∀hj:j<s.size,s[j].toNat≠c) (fun i _=>s.size- (intOf i).toNat)
 case atStart=>exact⟨0,Nat.zero_le _,rfl,rfl,fun j hj=>absurd hj (by omega)⟩
 case round=>
  obtain⟨k,hk,rfl,rfl,hno⟩:=hrel;replace hno:=AI hno;by_cases hlt:k<s.size
  ·have hlt2:(k:Int)<s.size:=by omega
   by_cases he:s[k].toNat=c
   ·have he2:((s[k].toNat:Int)=c):=by omega
    go_wp2;go_ret;rw[KQ hlt he];exact⟨rfl,rfl⟩
   ·have he2:¬ ((s[k].toNat:Int)=c):=by omega
    go_wp2;refine⟨⟨k+1,hlt,by simp,trivial,fun j hj hs=> ?_⟩,?_⟩
    ·rcases Nat.lt_succ_iff_lt_or_eq.1 hj with h|h
     ·exact hno.out j h hs
     ·subst h;exact he
    ·simp only[intOf];omega
  ·have hlt2:¬ (k:Int)<s.size:=by omega
   go_wp2;go_ret;rw[M1 fun j hj=>hno.out j (by omega) hj];exact⟨rfl,rfl⟩
end
section
open Go.RowKit
def ez(kind:Int)(bs:List AT)(kids:AT)(num le mo:Int):List AT:=.int .i64 kind::bs++[kids,.int .i64 num,.int .i64 le,.int .i64 mo]
def fB:List AT:=List.replicate 256 (.bool false)
theorem FY:(PH.info? 149).map (fun i=>(i.zero,i.size,i.bytes))=some (some (.agg (ez 0 fB (.slice none 0 0) 0 0 0).toArray),261,312):=by kernel_rfl
theorem FW:PH.underlying 81=some (.slice 149):=by kernel_rfl
theorem KI:(PH.underlying 149).map (·.isRow)=some true:=by kernel_rfl
theorem FX:∃d,PH.underlying 149=some d∧d.isRow=true:=by
 obtain⟨d,h1,h2⟩:=Qy.1 KI;exact⟨d,h1,h2⟩
theorem aD{P:Program}{md:Region.Mode}{ops:Array Oper}{Q:Exit→Act→AS→Prop}{S:AS→Prop}{fuel:Nat}{listed:Array Bool}{a:Act}{w:AS}(i:Nat)(d:Tmp)(v:AT){oi:Oper}(hi:ops[i]?=some oi)(hd:oi.dst=some d)
 (hs:Region.noSelect ops=true) (hf:Region.free md ops listed i=true) (hr:(Region.ready md ops listed).contains i=true) (hQ:∀c a w,Q (.panic c) (a.put (some d) v) w→Q (.panic c) a w) (hy:YieldsIf P ops S oi v a) (hS:S w)
 (h:wpAnyH P md ops Q S fuel (listed.setIfInBounds i true) (a.put (some d) v) w):wpAnyH P md ops Q S (fuel+1) listed a w:=
 wpAnyH_take hi hs hf hr (by rw[hd];exact hQ) hy hS (by rw[hd];exact h)
theorem dY{P:Program}{md:Region.Mode}{ops:Array Oper}{Q:Exit→Act→AS→Prop}{S:AS→Prop}{fuel:Nat}{listed:Array Bool}{a:Act}{w:AS}(i:Nat){oi:Oper}(hi:ops[i]?=some oi)(hg:oi.guard=none)(hr:Region.ready md ops listed=[i])
 (h:oi.wp P a w (fun a' w'=>S w'∧wpAnyH P md ops Q S fuel (listed.setIfInBounds i true) a' w') Q):wpAnyH P md ops Q S (fuel+1) listed a w:=
 wpAnyH_all hr (by simp) fun j hj=>by
  obtain rfl:=PP.1 hj;unfold wpOp;rw[hi];simp only;rw[if_pos (by simp[Region.wanted,hg])];exact .inl h
theorem uO{P:Program}{w:AS}{o:Oper}{a:Act}{K:Act→AS→Prop}{Q:Exit→Act→AS→Prop}(s x:Qu)(t:PK)
 (ho:o.op= .call {callee:=.builtin .append,args:=#[s,x],argTypes:=#[t,t]}) (dd:Tmp) (hdd:o.dst=some dd)
 (base:Nat) (e:PK) (i:TypeInfo) (z:AT) (size bytes:Nat) (ht:P.underlying t=some (.slice e)) (hi:P.info? e=some i) (hz:i.zero=some z)
 (h2:i.size=size) (h5:i.bytes=bytes) (h6:z.cells.size=size) (hsz:0<size)
 (v:AT) (n:Nat) (xs:List AT) (hs:a.eval s=v) (hown:w.ownsRow base e size v n xs)
 (ad:Addr) (news:List AT) (hx:a.eval x= .slice (some ad) 1 1) (hl:news.length=1*size) (h3:∀j u,news[j]?=some u→w.cell? (ad.add j)=some u) (h1:∀u∈news,u.oneCell'=true)
 (h7:n+1≤maxLen) (h0:(n+1)*bytes≤140737488355328) (h4:base≤w.heap.size) (H:Nat) (hH:w.heap.size=H)
 (h:∀g cap w',w'.ownsRow base e size (.slice (some ⟨g,0,none⟩) (n+1:Nat) cap) (n+1) (xs++news)→w.grownBy w' v.ownBlock→(v.ownBlock=some g∨g=H)→g<w'.heap.size→K (a.put (some dd) (.slice (some ⟨g,0,none⟩) (n+1:Nat) cap)) w'):o.wp P a w K Q:=
 wp_append_lies w s x t ho base e i z size bytes ht hi hz h2 h5 h6 hsz v n xs hs hown ad 1 1 news hx hl h3 h1 (by omega) h7 h0 h4 H hH (by rw[hdd];exact h)
theorem mZ{P:Program}{w:AS}{o:Oper}{a:Act}{K:Act→AS→Prop}{Q:Exit→Act→AS→Prop}(x:Qu)(ho:o.op= .assign x)(d:Tmp)(hd:o.dst=some d)(v:AT)(hv:a.eval x=v)(h:K (a.put (some d) v) w):o.wp P a w K Q:=by
 unfold Oper.wp execOp;simp only[ho,Sem.run_pure,hv];rw[← hd]at h;exact h
theorem FN(w:AS)(l:List AT)(t:PK):(w.alloc (.cells l.toArray t)).rangeAt w.heap.size 0 l:=fun j v hv=>by
 rw[Nat.zero_add,cell_of_row _ _ j l.toArray t _ (heap_alloc_new w _)];simpa using hv
theorem Ir(w:AS)(l:List AT)(t:PK):∀j u,l[j]?=some u→(w.alloc (.cells l.toArray t)).cell? ((⟨w.heap.size,0,none⟩:Addr).add j)=some u:=
 World.news_of_block (cs:=l.toArray) (t:=t) (fr:=(0,0)) (heap_alloc_new w _)
theorem CJ:(Value.agg (ez 0 fB (.slice none 0 0) 0 0 0).toArray).cells.size=261:=by kernel_rfl
theorem GD(l:List AT)(hl:l.length=261)(z:Array AT)(hz:z.size=261):Instr.fill (fun i=>some (i*261,261)) ((Array.range (1*261)).map (z[· %z.size]!)) [(0,.agg l.toArray)]=some l.toArray:=by
 have:=Great.fill_whole (s:=261) (by decide) [.agg l.toArray] ((Array.range (1*261)).map (z[· %z.size]!)) (fun v hv=>by obtain rfl:=PP.1 hv;simpa[QH]using hl) (by simp);simpa[QH]using this
theorem DR:∃i z,PH.info? 149=some i∧i.zero=some z∧i.size=261∧i.bytes=312∧z.cells.size=261:=by
 obtain⟨i0,hi0,hz0,h0,h1⟩:=info_parts FY;exact⟨i0,_,hi0,hz0,h0,h1,CJ⟩
theorem yT{o:Oper}{a:Act}{w:AS}{K:Act→AS→Prop}{Q:Exit→Act→AS→Prop}(x:Qu)(ho:o.op= .buildSlice 81 1 #[(0,x)])(l:List AT)(hl:l.length=261)(hx:a.eval x= .agg l.toArray)(d:Tmp)(hd:o.dst=some d)
 (h:K (a.put (some d) (.slice (some ⟨w.heap.size,0,none⟩) 1 1)) (w.alloc (.cells l.toArray 149))):o.wp PH a w K Q:=by
 obtain⟨i0,zn,hi0,hz0,h0,hz2,h1⟩:=DR;refine wp_buildSlice 81 149 1 _ ho l.toArray i0 zn FW hi0 hz0 (by rw[h0];decide) (by rw[h0];decide) ?_ (by rw[hd];exact h);rw[h0,Array.toList_map];simp only[List.map_cons,List.map_nil,hx];exact GD l hl _ h1
set_option maxRecDepth 10000 in
set_option maxHeartbeats 1000000 in
theorem qN{E:RE}{w:AS}{p:Nat}{n:List (List AT)}{g k a:Int}(l:List AT)(hc:l.length=261)(h1:∀u∈l,u.oneCell'=true)(hn:n.length<1000000)(h:RD E w p g k a n):
 Calls PH 59 #[.pointer (some ⟨E.r,0,none⟩),.agg l.toArray] w fun e w'=>e= .returned (.int .i64 n.length)∧RK E w w'∧RD E w' p g k a (n++[l]):=by
 obtain⟨sl,xs,root,hx,hown,hxs⟩:=h.xb;obtain⟨i0,zn,hi0,hz0,h0,h6,h7⟩:=DR;have c0:=h.rb.cell 0;have c2:=h.rb.cell 2;have x0:=hx.cell 0;have hlt:=h.rb.lt;have hltx:=hx.lt;have hh:=AI h;have hx2:=AI hx;have ho2:=AI hown;have h8:=AI h1;obtain⟨d,hu,hd⟩:=FX;have hi:(PH.info? 149).map (·.size)=some l.length:=by rw[hi0,hc];simp[h0]
 have hr:=FN w l 149;clear h hx hown h1;go_enter (PH.func Tryz.func59 (by decide)),Tryz.ntmps59
 go_wp2;refine wp_region_noPanic ?_;refine wp_region_held_drew (S:=fun w'=>w'.cell? ⟨E.r,2,none⟩=some (.pointer (some ⟨E.x,0,none⟩))∧w'.cell? ⟨E.x,0,none⟩=some sl∧w'.rangeAt w.heap.size 0 l) (by rfl) ⟨by simpa using(IT _ _ ⟨E.r,2,none⟩ hlt).trans c2,by simpa using(IT _ _ ⟨E.x,0,none⟩ hltx).trans x0,by simpa using hr⟩ fun hS=> ?_
 refine aD 0 6 (.pointer (some ⟨E.r,0,none⟩)) rfl rfl (by kernel_rfl) (by kernel_rfl) (by kernel_rfl) (fun _ _ _ h=>h) (PN ⟨by rfl,fun w' hS'=> ?_⟩) hS ?_
 ·obtain⟨h1,h2,h3⟩:=hS';go_simp
 simp only[IN,zq0];refine aD 1 7 (.pointer (some ⟨E.r,0,none⟩)) rfl rfl (by kernel_rfl) (by kernel_rfl) (by kernel_rfl) (fun _ _ _ h=>h) (PN ⟨by rfl,fun w' hS'=> ?_⟩) hS ?_
 ·obtain⟨h1,h2,h3⟩:=hS';go_simp
 simp only[IN,zq0];refine aD 2 8 (.pointer (some ⟨E.r,2,none⟩)) rfl rfl (by kernel_rfl) (by kernel_rfl) (by kernel_rfl) (fun _ _ _ h=>h) (PN ⟨by rfl,fun w' hS'=> ?_⟩) hS ?_
 ·obtain⟨h1,h2,h3⟩:=hS';go_simp
 simp only[IN,zq0];refine aD 3 9 (.pointer (some ⟨E.x,0,none⟩)) rfl rfl (by kernel_rfl) (by kernel_rfl) (by kernel_rfl) (fun _ _ _ h=>h) (PN ⟨by rfl,fun w' hS'=> ?_⟩) hS ?_
 ·obtain⟨h1,h2,h3⟩:=hS';go_simp
 simp only[IN,zq0];refine aD 4 10 (.pointer (some ⟨E.x,0,none⟩)) rfl rfl (by kernel_rfl) (by kernel_rfl) (by kernel_rfl) (fun _ _ _ h=>h) (PN ⟨by rfl,fun w' hS'=> ?_⟩) hS ?_
 ·obtain⟨h1,h2,h3⟩:=hS';go_simp
 simp only[IN,zq0];refine aD 5 11 (.pointer (some ⟨E.x,0,none⟩)) rfl rfl (by kernel_rfl) (by kernel_rfl) (by kernel_rfl) (fun _ _ _ h=>h) (PN ⟨by rfl,fun w' hS'=> ?_⟩) hS ?_
 ·obtain⟨h1,h2,h3⟩:=hS';go_simp
 simp only[IN,zq0];refine aD 6 12 (sl) rfl rfl (by kernel_rfl) (by kernel_rfl) (by kernel_rfl) (fun _ _ _ h=>h) (PN ⟨by rfl,fun w' hS'=> ?_⟩) hS ?_
 ·obtain⟨h1,h2,h3⟩:=hS';go_simp
 simp only[IN,zq0];refine aD 7 13 (.agg l.toArray) rfl rfl (by kernel_rfl) (by kernel_rfl) (by kernel_rfl) (fun _ _ _ h=>h) (yieldsIf_load_mid (by rfl) _ _ rfl _ _ rfl _ _ (fun w' hS'=>hS'.2.2) hu hd hi) hS ?_;simp only[IN,zq0];refine dY 8 rfl rfl (by kernel_rfl) ?_;refine yT (.tmp 13) rfl l hc rfl 14 rfl ?_;simp only[IN,zq0];have hne1:∀q,(q=E.r∨q=E.x∨q=w.heap.size)→some q≠sl.ownBlock:=fun q hq e=>by
  obtain⟨_,h4⟩:=ho2.out;rcases h4 with⟨rfl,_⟩|⟨b,cap,cur,rfl,_,h5,_⟩
  ·cases e
  ·obtain rfl:q=b:=by simpa[Q8]using e
   rcases hq with rfl|rfl|rfl
   ·have:=hh.out.rb.symm.trans h5;simp at this
   ·have:=hx2.out.symm.trans h5;simp at this
   ·exact absurd (PJ.1 h5).1 (by omega)
 have hS2:((w.alloc (.cells l.toArray 149)).drew.alloc (.cells l.toArray 149)).cell? ⟨E.r,2,none⟩=some (.pointer (some ⟨E.x,0,none⟩))∧((w.alloc (.cells l.toArray 149)).drew.alloc (.cells l.toArray 149)).cell? ⟨E.x,0,none⟩=some sl∧((w.alloc (.cells l.toArray 149)).drew.alloc (.cells l.toArray 149)).rangeAt w.heap.size 0 l:=
  ⟨(IT _ _ ⟨E.r,2,none⟩ (by simp;omega)).trans hS.1,(IT _ _ ⟨E.x,0,none⟩ (by simp;omega)).trans hS.2.1,World.rangeAt_alloc hS.2.2 _⟩
 refine⟨hS2,?_⟩;refine dY 9 rfl rfl (by kernel_rfl) ?_;refine uO (.tmp 12) (.tmp 14) _ rfl 15 rfl E.B 149 i0 _ 261 312 FW hi0 hz0 h0 h6 h7 (by decide) sl n.length xs rfl (((ho2.out.alloc _).drew).alloc _) ⟨w.heap.size+1,0,none⟩ l (by simp[Act.eval]) (by rw[hc]) (by simpa using Ir (w.alloc (.cells l.toArray 149)).drew l 149) h8.out (by simp only[maxLen];omega) (by omega) (by simp;have:=hh.out.lo;omega) (w.heap.size+2) (by simp) ?_;intro gg cap w1 hown1 hgrow hat hlt1;simp only[IN,zq0];have hS3:w1.cell? ⟨E.r,2,none⟩=some (.pointer (some ⟨E.x,0,none⟩))∧w1.cell? ⟨E.x,0,none⟩=some sl∧w1.rangeAt w.heap.size 0 l:=
  ⟨(hgrow.cell_far ⟨E.r,2,none⟩ (by simp;omega) (hne1 _ (.inl rfl))).trans hS2.1,(hgrow.cell_far ⟨E.x,0,none⟩ (by simp;omega) (hne1 _ (.inr (.inl rfl)))).trans hS2.2.1,fun j v hv=>(hgrow.cell_far ⟨w.heap.size,0+j,none⟩ (by simp;omega) (hne1 _ (.inr (.inr rfl)))).trans (hS2.2.2 j v hv)⟩
 refine⟨hS3,?_⟩;refine dY 10 rfl rfl (by kernel_rfl) ?_;refine mZ (.tmp 15) rfl 5 rfl (.slice (some ⟨gg,0,none⟩) (n.length+1:Nat) cap) rfl ?_;refine⟨hS3,?_⟩;refine wpAnyH_done (by kernel_rfl) ?_ _;refine QA ?_;simp only[IN,zq0];have hblk:∀q,q<w.heap.size→some q≠sl.ownBlock→w1.heap[q]?=w.heap[q]?:=fun q hq hn=>by
  rw[hgrow.block q (by simp;omega) hn,Below.heap_alloc _ _ q (by simp;omega)];exact Below.heap_alloc _ _ q hq
 have hr1:ac w1 E.r 123 _:=(hblk _ hlt (hne1 _ (.inl rfl))).trans hh.out.rb;have hx1:ac w1 E.x 83 _:=(hblk _ hltx (hne1 _ (.inr (.inl rfl)))).trans hx2.out;have q2:=hS3.1;have x2:=hx1.cell 0;have f2:=hx1.frozen;have hrx:E.r≠E.x:=fun e=>by
  have h3:=hh.out.rb;have h4:=hx2.out;rw[← e]at h4;have:=h3.symm.trans h4;simp at this
 have hgg:E.x≠gg:=fun e=>by
  rcases hat with h|h
  ·exact hne1 _ (.inr (.inl e.symm)) h.symm
  ·omega
 have hsz:w.heap.size+2≤w1.heap.size:=by have:=hgrow.size;simpa using this
 have hold:∀b,b<w.heap.size→(b<E.B∨(b≠E.r∧b≠E.x∧∀c z,w.heap[b]?≠some (.cells c 149 z)))→w1.heap[b]?=w.heap[b]?:=fun b hb hc=>hblk b hb fun e=>by
  obtain⟨_,h4⟩:=ho2.out;rcases h4 with⟨rfl,_⟩|⟨q,cap,cur,rfl,h3,h5,_⟩
  ·cases e
  ·obtain rfl:b=q:=by simpa[Q8]using e
   rcases hc with hc|⟨_,_,hc⟩
   ·omega
   ·exact hc _ _ h5
 have hos:w1.os=w.os:=hgrow.os;have hout:w1.output=w.output:=hgrow.output;have H1:=AI hr1;have H2:=AI hx1;have H3:=AI hold;have H4:=AI hown1;have H5:=AI hat;have H6:=AI hos;have H7:=AI hout;clear hS hS2 hS3 hr1 hx1 hold hown1 hat hne1 hblk hgrow hr c0 c2 x0 hi hi0 hz0 hu hd hos hout;go_wp2;go_ret;have hl:=hh.out.lo;refine⟨by simp,⟨H6.out,H7.out,by rw[Q7];omega,fun b hb hc=> ?_⟩,⟨H1.out.far hrx _,?_,hl⟩⟩
 ·rw[Below.heap_setCell _ _ _ b (by dsimp only;rintro rfl;rcases hc with hc|⟨_,hc,_⟩;omega;exact hc rfl)];exact H3.out b hb hc
 ·refine⟨_,xs++l,root,H2.out.ci 0 _,?_,by rw[hxs];simp⟩;rw[By];exact ownsRow_setCell_other H4.out (by simpa[Q8]using fun e=>hgg e.symm) _
end
section
open Go.RowKit
theorem fE{E:RE}{p:Nat}(h:p<E.s.size):E.l.drop p=E.s[p]::E.l.drop (p+1):=by
 have h2:p<E.l.length:=by simpa[RE.l]using h
 rw[Qt h2];rfl
theorem oU{E:RE}{p:Nat}(h:¬ p<E.s.size):E.l.drop p=[]:=Qz (by simp[RE.l];omega)
theorem Cq{v:Nat}{c:UInt8}{cs:List UInt8}(h:¬ (48≤c.toNat∧c.toNat≤57)):g4 v (c::cs)=(v,c::cs):=by
 unfold g4;exact if_neg h
theorem zL{v:Nat}{c:UInt8}{cs:List UInt8}(h:48≤c.toNat∧c.toNat≤57):g4 v (c::cs)=g4 (min (10*v+(c.toNat-48)) 21) cs:=by
 rw[g4];exact if_pos h
theorem kD{E:RE}{w:AS}{p:Nat}{n:List (List AT)}{g a:Int}(h:RD E w p g 0 a n)(b:Bool)(hb:b=decide (p<E.s.size)):
 Calls PH 153 #[.pointer (some ⟨E.r,0,none⟩)] w fun e w'=>e= .returned (.bool b)∧∃m,w'=w.drewN m:=
 (Is h).mono fun e w' ⟨h1,h2⟩=>⟨by rw[h1,hb];simp,h2⟩
set_option maxHeartbeats 2000000 in
theorem zz{E:RE}{w:AS}{p:Nat}{n:List (List AT)}{g a:Int}(hp:p≤E.s.size)(hs:E.s.size≤1000)(h:RD E w p g 0 a n):
 Calls PH 152 #[.pointer (some ⟨E.r,0,none⟩)] w fun e w'=>∃v p',e= .returned (.tuple #[.int .i64 (v:Nat),.bool (decide (p<p'))])∧p≤p'∧p'≤E.s.size∧g4 0 (E.l.drop p)=(v,E.l.drop p')∧v≤21∧RK E w w'∧RD E w' p' g 0 a n:=by
 go_enter (PH.func Tryz.func152 (by decide)),Tryz.ntmps152
 go_wp2;go_loopw [4,5] (fun x y wr=>∃v q:Nat,p≤q∧q≤E.s.size∧v≤21∧x= .int .i64 v∧y= .int .i64 (q-p:Nat)∧g4 v (E.l.drop q)=g4 0 (E.l.drop p)∧RK E w wr∧RD E wr q g 0 a n) (fun _ y _=>E.s.size- (intOf y).toNat)
 case atStart=>exact⟨0,p,OF _,hp,by omega,rfl,by simp,rfl,RK.refl E w,h⟩
 case round=>
  obtain⟨v,q,hq,hq2,hv,rfl,rfl,hn,hk,hd⟩:=hrel;clear h;by_cases hlt:q<E.s.size
  ·have hlt2:(q:Int)<E.s.size:=by omega
   have c0:=hd.rb.cell 0;have c1:=hd.rb.cell 1;have f:=hd.rb.frozen;have hd2:=AI hd;clear hd;by_cases h0:48≤E.s[q].toNat
   ·have h1:(48:Int)≤E.s[q].toNat:=by omega
    by_cases h57:E.s[q].toNat≤57
    ·have h2:(E.s[q].toNat:Int)≤57:=by omega
     have hst:∀(m:Nat),RD E ((wr.drewN m).setCell ⟨E.r,1,none⟩ (.int .i64 ((q:Int)+1))) (q+1) g 0 a n:=fun m=>(hd2.out.drewN m).dN 1 _ (by simp)
     have hst2:∀(m:Nat),RK E w ((wr.drewN m).setCell ⟨E.r,1,none⟩ (.int .i64 ((q:Int)+1))):=fun m=>(hk.drewN m).dN hd2.out.lo (.inl rfl) _ _
     have H1:=AI hst;have H2:=AI hst2;clear hst hst2;by_cases h20:20<10*v+(E.s[q].toNat-48)
     ·have h3:(20:Int)<10*(v:Int)+((E.s[q].toNat:Int)-48):=by omega
      go_wp2;go_quiet (exact Q3 (kD (hd2.out.drewN _) true (by simpa using hlt)))
      go_wp2;go_quiet (fail)
      go_wp2;refine⟨⟨21,q+1,by omega,hlt,by omega,rfl,?_,?_,H2.out _,H1.out _⟩,by simp only[intOf];omega⟩
      ·congr 1;omega
      ·rw[← hn,fE hlt,zL ⟨h0,h57⟩,Nat.min_eq_right (by omega)]
     ·have h3:¬ (20:Int)<10*(v:Int)+((E.s[q].toNat:Int)-48):=by omega
      go_wp2;go_quiet (exact Q3 (kD (hd2.out.drewN _) true (by simpa using hlt)))
      go_wp2;go_quiet (fail)
      go_wp2;refine⟨⟨10*v+(E.s[q].toNat-48),q+1,by omega,hlt,by omega,?_,?_,?_,H2.out _,H1.out _⟩,by simp only[intOf];omega⟩
      ·congr 1;omega
      ·congr 1;omega
      ·rw[← hn,fE hlt,zL ⟨h0,h57⟩,Nat.min_eq_left (by omega)]
    ·have h2:decide ((E.s[q].toNat:Int)≤57)=false:=by simp;omega
     go_wp2;go_quiet (exact Q3 (kD (hd2.out.drewN _) true (by simpa using hlt)))
     go_wp2;go_ret2
     refine⟨v,q,congrArg (fun b=>Qm (.tuple #[.int .i64 v,.bool b])) (by congr 1;apply propext;omega),hq,hq2,?_,hv,hk.drewN _,hd2.out.drewN _⟩;rw[← hn,fE hlt,Cq (by omega)]
   ·have h1:decide ((48:Int)≤E.s[q].toNat)=false:=by simp;omega
    go_wp2;go_quiet (exact Q3 (kD (hd2.out.drewN _) true (by simpa using hlt)))
    go_wp2;go_ret2
    refine⟨v,q,congrArg (fun b=>Qm (.tuple #[.int .i64 v,.bool b])) (by congr 1;apply propext;omega),hq,hq2,?_,hv,hk.drewN _,hd2.out.drewN _⟩;rw[← hn,fE hlt,Cq (by omega)]
  ·have hd2:=AI hd;clear hd;go_wp2;go_quiet (exact Q3 (kD (hd2.out.drewN _) false (by simpa using hlt)))
   go_wp2;go_ret2
   refine⟨v,q,congrArg (fun b=>Qm (.tuple #[.int .i64 v,.bool b])) (by congr 1;apply propext;omega),hq,hq2,?_,hv,hk.drewN _,hd2.out.drewN _⟩;rw[← hn,oU hlt];rfl
end
section
open Go.RowKit
theorem qe{E:RE}{w:AS}{p:Nat}{n:List (List AT)}{g k a:Int}{c:Nat}(b:Bool)(hb:jr E.s k p c=b)(hc:c<256)(h:RD E w p g k a n):
 Calls PH 58 #[.pointer (some ⟨E.r,0,none⟩),.int .u8 c] w fun e w'=>e= .returned (.bool b)∧∃m,w'=w.drewN m:=hb▸A7 c hc h
theorem jK{s:ByteArray}{p c:Nat}(hc:c<256):jr s 0 p c=true↔∃h:p<s.size,s[p].toNat=c:=by
 by_cases h:p<s.size
 ·rw[lM h];simp[h]
 ·rw[tc hc h];simp[h]
theorem ol{E:RE}{p:Nat}{c:UInt8}:(E.l.drop p).head?=some c↔jr E.s 0 p c.toNat=true:=by
 rw[jK c.toNat_lt];by_cases h:p<E.s.size
 ·rw[fE h];simp only[Ql,Option.some.injEq];exact⟨fun e=>⟨h,by rw[e]⟩,fun⟨_,e⟩=>Qi.1 e⟩
 ·rw[oU h];simp[h]
theorem HW{rest t:List UInt8}{v:Nat}(h:g4 0 rest=(v,t))(hn:¬ (oS t.length rest.length=true∧t.head?=some 44)):iG rest=(v,(v:Int),oS t.length rest.length,t):=by
 unfold iG;rw[h];exact if_neg hn
theorem zM{rest t:List UInt8}{v:Nat}(h:g4 0 rest=(v,t))(hy:oS t.length rest.length=true∧t.head?=some 44)(hn:¬ (t.tail≠[]∧t.tail.head?≠some 125)):iG rest=(v,-1,true,t.tail):=by
 unfold iG;rw[h];dsimp only;rw[if_pos hy,if_neg hn]
theorem HV{rest t t2:List UInt8}{v v2:Nat}(h:g4 0 rest=(v,t))(hy:oS t.length rest.length=true∧t.head?=some 44)(hn:t.tail≠[]∧t.tail.head?≠some 125)(h2:g4 0 t.tail=(v2,t2)):iG rest=(v,(v2:Int),oS t2.length t.tail.length,t2):=by
 unfold iG;rw[h];dsimp only;rw[if_pos hy,if_pos hn,h2]
theorem A3{E:RE}{p q:Nat}(h:p≤q)(hq:q≤E.s.size):oS (E.l.drop q).length (E.l.drop p).length=decide (p<q):=by
 unfold oS;rw[PM];simp[RE.l];omega
def My(E:RE)(w:AS)(p:Nat)(n:List (List AT))(g a:Int)(e:Ending)(w':AS):Prop:=∃(m n':Int)(p':Nat),e= .returned (.tuple #[.int .i64 m,.int .i64 n'])∧RK E w w'∧
 ∃pe:Nat,p+1≤pe∧p'=pe+1∧pe≤E.s.size∧(iG (E.l.drop (p+1))).2.2.2=E.l.drop pe∧m=(iG (E.l.drop (p+1))).1∧n'=(iG (E.l.drop (p+1))).2.1∧
 ((jZ (iG (E.l.drop (p+1)))∧RD E w' p' g 0 a n)∨(¬ jZ (iG (E.l.drop (p+1)))∧RD E w' p' g 7 p n))
set_option maxRecDepth 10000 in
set_option maxHeartbeats 2000000 in
theorem Dx{E:RE}{w:AS}{p:Nat}{n:List (List AT)}{g a:Int}(hp:p<E.s.size)(hc:E.s[p].toNat=123)(hs:E.s.size≤1000)(h:RD E w p g 0 a n):
 Calls PH 124 #[.pointer (some ⟨E.r,0,none⟩)] w fun e w'=>My E w p n g a e w':=by
 have c0:=h.rb.cell 0;have c1:=h.rb.cell 1;have f:=h.rb.frozen;have hp2:(p:Int)<E.s.size:=by omega
 have e123:(E.s[p].toNat:Int)=123:=by omega
 have hst:∀(m:Nat),RD E ((w.drewN m).setCell ⟨E.r,1,none⟩ (.int .i64 ((p:Int)+1))) (p+1) g 0 a n:=fun m=>(h.drewN m).dN 1 _ (by simp)
 have hst2:∀(m:Nat),RK E w ((w.drewN m).setCell ⟨E.r,1,none⟩ (.int .i64 ((p:Int)+1))):=fun m=>((RK.refl E w).drewN m).dN h.lo (.inl rfl) _ _
 have H1:=AI hst;have H2:=AI hst2;have hh:=AI h;clear hst hst2 h;go_enter (PH.func Tryz.func124 (by decide)),Tryz.ntmps124
 go_wp2;go_quiet (fail)
 go_wp2_with fail
 refine(zz (p:=p+1) hp hs (H1.out _)).mono ?_;rintro e w2 ⟨v,p1,rfl,hf,h9,h8,hv,hK2,hR2⟩;replace hK2:=(H2.out _).trans hK2;have hlt1:=A3 hf h9;generalize hok1:decide (p+1<p1)=ok1 at hlt1;generalize hb1:jr E.s 0 p1 44=b1;go_upto_region 13 with fail
 go_cut [7,50] (fun s7 s50 wx=>s7= .bool ok1∧s50= .bool (ok1&&b1)∧RK E w wx∧RD E wx p1 g 0 a n)
 case first=>
  cases ok1
  ·go_wp2_with fail
   go_meet
   case rel=>exact⟨rfl,rfl,hK2,hR2⟩
  ·go_wp2_with fail
   refine(qe _ hb1 (by decide) hR2).mono ?_;rintro e w3 ⟨rfl,m,rfl⟩;go_wp2_with fail
   go_meet
   case rel=>exact⟨rfl,by simp,hK2.drewN m,hR2.drewN m⟩
 case rest=>
  obtain⟨rfl,rfl,hK3,hR3⟩:=hcut;clear hK2 hR2;go_upto_if 50 with fail
  go_cut [7,8,9,10] (fun s7 s8 s9 s10 wx=>∃(okf:Bool)(n':Int)(pe:Nat),s7= .bool okf∧s8= .int .i64 n'∧p+1≤pe∧pe≤E.s.size∧iG (E.l.drop (p+1))=(v,n',okf,E.l.drop pe)∧-1≤n'∧n'≤21∧RK E w wx∧RD E wx pe g 0 a n)
  case first=>
   generalize hy:(ok1&&b1)=y;cases y
   ·go_wp2_with fail
    go_meet
    case rel=>
     refine⟨ok1,v,p1,rfl,rfl,hf,h9,?_,by omega,by omega,hK3,hR3⟩;have:=HW h8 (by rw[hlt1,ol];rintro⟨h1,h2⟩;rw[show(44:UInt8).toNat=44 from rfl,hb1]at h2;rw[h1,h2]at hy;cases hy);rw[this,hlt1]
   ·obtain⟨rfl,rfl⟩:ok1=true∧b1=true:=by simpa using hy
    obtain⟨hi,hcs⟩:=(jK (by decide)).1 hb1;have h6:oS (E.l.drop p1).length (E.l.drop (p+1)).length=true∧(E.l.drop p1).head?=some 44:=⟨hlt1,ol.2 hb1⟩;have htl:(E.l.drop p1).tail=E.l.drop (p1+1):=by rw[fE hi];rfl
    have c0:=hR3.rb.cell 0;have c1:=hR3.rb.cell 1;have f:=hR3.rb.frozen;obtain⟨P2,hP2⟩:∃P2:Nat,P2=p1+1:=⟨_,rfl⟩;have hPe:(p1:Int)+1=(P2:Int):=by omega
    rw[← hP2]at htl;have hg:=hP2;replace hP2:=AI hP2;clear hg;have hst:RD E (wc.setCell ⟨E.r,1,none⟩ (.int .i64 (P2:Int))) P2 g 0 a n:=hR3.dN 1 _ (by simp);have hst2:=hK3.dN hR3.lo (.inl rfl) 1 (.int .i64 (P2:Int));have H3:=AI hst;have H4:=AI hst2;have hlo:=hR3.lo;clear hst hst2 hR3 hK3;by_cases hl2:P2<E.s.size
    ·have hl2i:(P2:Int)<E.s.size:=by omega
     by_cases h125:E.s[P2].toNat=125
     ·have he:(E.s[P2].toNat:Int)=125:=by omega
      go_wp2_with fail
      go_quiet (exact Q3 (kD (H3.out.drewN _) true (by simpa using hl2)))
      go_wp2_with fail
      go_meet
      case rel=>
       refine⟨true,-1,P2,rfl,rfl,by(have:=hP2.out;omega),by(have:=hP2.out;omega),?_,by omega,by omega,H4.out.drewN _,H3.out.drewN _⟩;rw[zM h8 h6 (by rw[htl];rintro⟨_,h⟩;exact h (ol.2 ((jK (by decide)).2 ⟨hl2,h125⟩))),htl]
     ·have he:decide ((E.s[P2].toNat:Int)=125)=false:=by simp;omega
      go_wp2_with fail
      go_quiet (exact Q3 (kD (H3.out.drewN _) true (by simpa using hl2)))
      go_wp2_with fail
      refine(zz (p:=P2) (by omega) hs (H3.out.drewN _)).mono ?_;rintro e w5 ⟨v2,p2,rfl,hj,hk,hq2,hv2,hK5,hR5⟩;replace hK5:=(H4.out.drewN _).trans hK5;go_wp2_with fail
      go_meet
      case rel=>
       refine⟨decide (P2<p2),v2,p2,rfl,rfl,by(have:=hP2.out;omega),by omega,?_,by omega,by omega,hK5,hR5⟩;have h2:g4 0 (E.l.drop p1).tail=(v2,E.l.drop p2):=by rw[htl];exact hq2
       have h3:=HV h8 h6 (by
        rw[htl];refine⟨fun h=> ?_,fun h=> ?_⟩
        ·rw[fE hl2]at h;cases h
        ·exact h125 ((jK (by decide)).1 (ol.1 h)).2) h2
       rw[h3,htl,A3 hj hk]
    ·go_wp2_with fail
     go_quiet (exact Q3 (kD (H3.out.drewN _) false (by simpa using hl2)))
     go_wp2_with fail
     go_meet
     case rel=>
      refine⟨true,-1,P2,rfl,rfl,by(have:=hP2.out;omega),by(have:=hP2.out;omega),?_,by omega,by omega,H4.out.drewN _,H3.out.drewN _⟩;rw[zM h8 h6 (by rw[htl,oU hl2];simp),htl]
  case rest=>
   obtain⟨okf,n',pe,rfl,rfl,ha,hd,h0,hn1,hn2,hK4,hR4⟩:=hcut;clear hK3 hR3;go_upto_region 21 with fail
   generalize hb2:jr E.s 0 pe 125=b2;refine(qe _ hb2 (by decide) hR4).mono ?_;rintro e w6 ⟨rfl,m,rfl⟩;go_upto_region 21 with fail
   go_cut [103] (fun s103 wx=>s103= .bool (!(okf&&b2&&decide (v≤20)&&decide (n'≤20)&& (decide (n'<0)||decide ((v:Int)≤n'))))∧RK E w wx∧RD E wx pe g 0 a n)
   case first=>
    cases okf
    ·go_wp2_with fail
     go_meet
     case rel=>exact⟨by simp,hK4.drewN m,hR4.drewN m⟩
    cases b2
    ·go_wp2_with fail
     go_meet
     case rel=>exact⟨by simp,hK4.drewN m,hR4.drewN m⟩
    by_cases h1:v≤20
    ·have hl:decide ((20:Int)<v)=false:=by simp;omega
     by_cases h2:n'≤20
     ·have hm:decide ((20:Int)<n')=false:=by simp;omega
      by_cases h3:0≤n'
      ·have hn:decide ((0:Int)≤n')=true:=by simpa using h3
       go_wp2_with fail
       go_meet
       case rel=>exact⟨congrArg Value.bool (by rw[PM];simp[h1,h2];omega),hK4.drewN m,hR4.drewN m⟩
      ·have hn:decide ((0:Int)≤n')=false:=by simpa using h3
       go_wp2_with fail
       go_meet
       case rel=>exact⟨congrArg Value.bool (by rw[PM];simp[h1,h2];omega),hK4.drewN m,hR4.drewN m⟩
     ·have hm:decide ((20:Int)<n')=true:=by simp;omega
      go_wp2_with fail
      go_meet
      case rel=>exact⟨by simp[h1,h2],hK4.drewN m,hR4.drewN m⟩
    ·have hl:decide ((20:Int)<v)=true:=by simp;omega
     go_wp2_with fail
     go_meet
     case rel=>exact⟨by simp[h1],hK4.drewN m,hR4.drewN m⟩
   case rest=>
    obtain⟨rfl,hK5,hR5⟩:=hcut;clear hK4 hR4;have hwell:(!(okf&&b2&&decide (v≤20)&&decide (n'≤20)&& (decide (n'<0)||decide ((v:Int)≤n'))))=false↔jZ (iG (E.l.drop (p+1))):=by
     rw[h0];unfold jZ;rw[ol,show(125:UInt8).toNat=125 from rfl,hb2];simp only[Bool.not_eq_false',PE,QL,decide_eq_true_eq];constructor
     ·rintro⟨⟨⟨⟨h1,h2⟩,h3⟩,h4⟩,h5⟩;exact⟨h1,h2,h3,h4,by omega⟩
     ·rintro⟨h1,h2,h3,h4,h5⟩;exact⟨⟨⟨⟨h1,h2⟩,h3⟩,h4⟩,by omega⟩
    generalize hz:(!(okf&&b2&&decide (v≤20)&&decide (n'≤20)&& (decide (n'<0)||decide ((v:Int)≤n'))))=z;rw[hz]at hwell;cases z
    ·have c1:=hR5.rb.cell 1;have f:=hR5.rb.frozen;have hst:RD E (wc.setCell ⟨E.r,1,none⟩ (.int .i64 ((pe:Int)+1))) (pe+1) g 0 a n:=hR5.dN 1 _ (by simp);have hst2:=hK5.dN hR5.lo (.inl rfl) 1 (.int .i64 ((pe:Int)+1));have H3:=AI hst;have H4:=AI hst2;clear hst hst2 hR5 hK5;go_wp2;go_ret2
     exact⟨v,n',pe+1,rfl,H4.out,pe,ha,rfl,hd,by rw[h0],by rw[h0],by rw[h0],.inl ⟨by simpa using hwell,H3.out⟩⟩
    ·go_wp2_with fail
     refine(io 7 p hR5).mono ?_;rintro e w7 ⟨rfl,hK7,h7⟩;replace hK7:=hK5.trans hK7;have c1:=h7.rb.cell 1;have f:=h7.rb.frozen;have hst:RD E (w7.setCell ⟨E.r,1,none⟩ (.int .i64 ((pe:Int)+1))) (pe+1) g 7 p n:=h7.dN 1 _ (by simp);have hst2:=hK7.dN h7.lo (.inl rfl) 1 (.int .i64 ((pe:Int)+1));have H3:=AI hst;have H4:=AI hst2;clear hst hst2 hR5 hK5 h7 hK7;go_wp2;go_ret2
     exact⟨v,n',pe+1,rfl,H4.out,pe,ha,rfl,hd,by rw[h0],by rw[h0],by rw[h0],.inr ⟨by simpa using hwell,H3.out⟩⟩
end
section
open Go.RowKit
def NZ(E:RE)(w:AS)(n:List (List AT))(g a:Int)(x:dF)(e:Ending)(v:AT)(w':AS):Prop:=
 RK E w w'∧match x.wr with
  |none=>e= .returned v∧RD E w' x.p g 0 a n
  |some y=>(∃u,e= .returned u)∧∃p',p'≤E.s.size+1∧RD E w' p' g y.1 y.2 n
set_option maxRecDepth 10000 in
set_option maxHeartbeats 2000000 in
theorem rT{E:RE}{w:AS}{p:Nat}{n:List (List AT)}{g a:Int}(c:Nat)(le mo:Int)(hcc:c=42∧le=0∧mo= -1∨c=43∧le=1∧mo= -1∨c=63∧le=0∧mo=1)(hp:p<E.s.size)(hs:E.s.size≤1000)(hc:E.s[p].toNat=c)(h:RD E w p g 0 a n):
 Calls PH 124 #[.pointer (some ⟨E.r,0,none⟩)] w fun e w'=>e= .returned (.tuple #[.int .i64 le,.int .i64 mo])∧RK E w w'∧RD E w' (p+1) g 0 a n:=by
 have c0:=h.rb.cell 0;have c1:=h.rb.cell 1;have f:=h.rb.frozen;have hp2:(p:Int)<E.s.size:=by omega
 have hst:∀(m:Nat),RD E ((w.drewN m).setCell ⟨E.r,1,none⟩ (.int .i64 ((p:Int)+1))) (p+1) g 0 a n:=fun m=>(h.drewN m).dN 1 _ (by simp)
 have hst2:∀(m:Nat),RK E w ((w.drewN m).setCell ⟨E.r,1,none⟩ (.int .i64 ((p:Int)+1))):=fun m=>((RK.refl E w).drewN m).dN h.lo (.inl rfl) _ _
 have H1:=AI hst;have H2:=AI hst2;clear hst hst2 h;rcases hcc with⟨rfl,rfl,rfl⟩|⟨rfl,rfl,rfl⟩|⟨rfl,rfl,rfl⟩
 ·have e42:(E.s[p].toNat:Int)=42:=by omega
  go_enter (PH.func Tryz.func124 (by decide)),Tryz.ntmps124
  go_wp2;go_quiet (fail)
  go_wp2;go_ret2
  exact⟨rfl,H2.out _,H1.out _⟩
 ·have e42:(E.s[p].toNat:Int)=43:=by omega
  go_enter (PH.func Tryz.func124 (by decide)),Tryz.ntmps124
  go_wp2;go_quiet (fail)
  go_wp2;go_ret2
  exact⟨rfl,H2.out _,H1.out _⟩
 ·have e42:(E.s[p].toNat:Int)=63:=by omega
  go_enter (PH.func Tryz.func124 (by decide)),Tryz.ntmps124
  go_wp2;go_quiet (fail)
  go_wp2;go_ret2
  exact⟨rfl,H2.out _,H1.out _⟩
theorem HP{E:RE}{w:AS}{p:Nat}{n:List (List AT)}{g a:Int}(hp:p<E.s.size)(hc:E.s[p].toNat=42∨E.s[p].toNat=43∨E.s[p].toNat=63∨E.s[p].toNat=123)(hs:E.s.size≤1000)(h:RD E w p g 0 a n):
 Calls PH 124 #[.pointer (some ⟨E.r,0,none⟩)] w fun e w'=>(∃m n':Int,e= .returned (.tuple #[.int .i64 m,.int .i64 n']))∧
  NZ E w n g a (de E.s[p].toNat p (E.l.drop (p+1))) e (.tuple #[.int .i64 (de E.s[p].toNat p (E.l.drop (p+1))).t.least,.int .i64 (de E.s[p].toNat p (E.l.drop (p+1))).t.most]) w':=by
 generalize hX:de E.s[p].toNat p (E.l.drop (p+1))=X;rcases hc with hc|hc|hc|hc
 ·rw[hc]at hX;subst hX;exact(rT 42 0 (-1) (.inl ⟨rfl,rfl,rfl⟩) hp hs hc h).mono fun e w' ⟨h1,h2,h3⟩=>⟨⟨_,_,h1⟩,h2,h1,h3⟩
 ·rw[hc]at hX;subst hX;exact(rT 43 1 (-1) (.inr (.inl ⟨rfl,rfl,rfl⟩)) hp hs hc h).mono fun e w' ⟨h1,h2,h3⟩=>⟨⟨_,_,h1⟩,h2,h1,h3⟩
 ·rw[hc]at hX;subst hX;exact(rT 63 0 1 (.inr (.inr ⟨rfl,rfl,rfl⟩)) hp hs hc h).mono fun e w' ⟨h1,h2,h3⟩=>⟨⟨_,_,h1⟩,h2,h1,h3⟩
 ·refine(Dx hp hc hs h).mono ?_;rintro e w' ⟨m,n',p',rfl,hk,pe,h1,rfl,h2,h3,rfl,rfl,h4⟩;refine⟨⟨_,_,rfl⟩,hk,?_⟩;rw[hc]at hX;obtain⟨h5,h6⟩:=AK (E.l.drop (p+1));have h0:X=⟨si p (bO (E.l.drop (p+1))).1 (bO (E.l.drop (p+1))).2.1 (!(bO (E.l.drop (p+1))).2.2.1),if(bO (E.l.drop (p+1))).2.2.1 then none else some (7,p),(bO (E.l.drop (p+1))).2.2.1,p+1+(bO (E.l.drop (p+1))).2.2.2⟩:=by
   rw[← hX];rfl
  rcases h4 with⟨h7,h8⟩|⟨h7,h8⟩
  ·obtain⟨h9,h10,h11⟩:=h6 h7;rw[h5.2 h7]at h0;rw[h0];dsimp only[si];refine⟨by rw[h9,h10],?_⟩;rw[h3]at h11;have hh:=h7.2.1;rw[h3]at hh;have hpe:pe<E.s.size:=by
    rcases Q9 pe E.s.size with h|h
    ·exact h
    ·rw[oU (by omega)]at hh;cases hh
   simp only[QI]at h11;have hl:E.l.length=E.s.size:=by simp[RE.l]
   rw[hl]at h11;rw[show p+1+(bO (E.l.drop (p+1))).2.2.2=pe+1 from by omega];exact h8
  ·have hb:(bO (E.l.drop (p+1))).2.2.1=false:=by
    cases hb:(bO (E.l.drop (p+1))).2.2.1
    ·rfl
    ·exact absurd (h5.1 hb) h7
   rw[hb]at h0;rw[h0];exact⟨⟨_,rfl⟩,pe+1,by omega,h8⟩
end
section
open Go.RowKit
def aX(S:an):List AT:=(List.range 256).map fun i=>.bool (S i)
theorem dX(S:an):(aX S).length=256:=by simp[aX]
theorem sL(S:an){i:Nat}(h:i<256):(aX S)[i]?=some (.bool (S i)):=by simp[aX,h]
theorem xk(S:an):∀u∈aX S,u.oneCell'=true:=by
 intro u hu;obtain⟨i,_,rfl⟩:=List.mem_map.1 hu;rfl
theorem Lh(S:an)(k:Nat)(b:Bool)(hk:k<256):(aX S).set k (.bool b)=aX fun x=>if x=k then b else S x:=by
 apply List.ext_getElem?;intro i;rw[List.getElem?_set];by_cases h:i<256
 ·rw[sL _ h];by_cases hk2:k=i
  ·subst hk2;rw[sL _ h];simp[dX,h]
  ·rw[if_neg hk2,sL _ h,if_neg (fun e=>hk2 e.symm)]
 ·have h1:(aX S)[i]?=none:=Qf (by rw[dX];omega);have h2:(aX fun x=>if x=k then b else S x)[i]?=none:=Qf (by rw[dX];omega);rw[h1,h2];split
  ·split
   ·rename_i h3 h4;rw[dX]at h4;omega
   ·rfl
  ·rfl
theorem wh:PH.underlying 147=some (.array 256 4):=by kernel_rfl
theorem Mg:(PH.info? 147).map (fun i=>(i.zero,i.size))=some (some (.agg (aX az).toArray),256):=by kernel_rfl
theorem li:(PH.info? 147).map (·.size)=some 256:=by
 obtain⟨i,h1,h2⟩:=Qy.1 Mg;rw[h1];simp only[Prod.mk.injEq]at h2;simp[h2.2]
theorem qj:Tryz.zeroCells147=(aX az).toArray:=by kernel_rfl
def BB(w:AS)(b:Nat)(t:PK)(A:List AT)(S:an)(Z:List AT):Prop:=ac w b t (A++aX S++Z).toArray
theorem BB.get{w:AS}{b:Nat}{t:PK}{A Z:List AT}{S:an}(h:BB w b t A S Z){i:Nat}(hi:i<256):w.cell? ⟨b,A.length+i,none⟩=some (.bool (S i)):=by
 rw[ac.cell h];have:i<(aX S).length:=by rw[dX];exact hi
 simp only[QB];rw[PD,List.getElem?_append_right (by omega),Qw,Qs this,sL S hi]
theorem BB.put{w:AS}{b:Nat}{t:PK}{A Z:List AT}{S:an}(h:BB w b t A S Z){i:Nat}(hi:i<256)(v:Bool):BB (w.setCell ⟨b,A.length+i,none⟩ (.bool v)) b t A (fun x=>if x=i then v else S x) Z:=by
 have:=ac.ci h (A.length+i) (.bool v);unfold BB;rw[← Lh S i v hi];rw[Qq,PD,List.set_append_right _ _ (by omega),Qw,List.set_append_left _ _ (by rw[dX];exact hi),← PD]at this;exact this
theorem BB.range{w:AS}{b:Nat}{t:PK}{A Z:List AT}{S:an}(h:BB w b t A S Z):w.rangeAt b A.length (aX S):=fun j v hv=>by
 have hj:j<256:=by
  rcases Q9 j 256 with h|h
  ·exact h
  ·rw[Qf (by rw[dX];exact h)]at hv;cases hv
 rw[h.get hj,← sL S hj,hv]
theorem BB.there{w:AS}{b:Nat}{t:PK}{A Z:List AT}{S:an}(h:BB w b t A S Z):w.there b A.length 256:=fun j hj=>⟨by rw[h.get hj];rfl,ac.frozen h _⟩
theorem ac.mid{b:Nat}{t:PK}:∀(vs M A Z:List AT)(w:AS),M.length=vs.length→ac w b t (A++M++Z).toArray→ac (w.setCells b A.length vs) b t (A++vs++Z).toArray
 |[],M,A,Z,w,hm,h=>by
  obtain rfl:=List.length_eq_zero_iff.1 hm;exact h
 |v::r,[],A,Z,w,hm,h=>by cases hm
 |v::r,m::M,A,Z,w,hm,h=>by
  have h1:=h.ci A.length v;rw[Qq]at h1;have e:(A++m::M++Z).set A.length v=(A++[v])++M++Z:=by simp
  rw[e]at h1;have h2:=ac.mid r M (A++[v]) Z _ (by simpa using hm) h1;have e2:(A++[v])++r++Z=A++(v::r)++Z:=by simp
  rw[e2,By]at h2;exact h2
theorem BB.fill{w:AS}{b:Nat}{t:PK}{A Z:List AT}{S:an}(h:BB w b t A S Z)(T:an):BB (w.setCells b A.length (aX T)) b t A T Z:=ac.mid (aX T) (aX S) A Z w (by rw[dX,dX]) h
theorem BB.dK{w:AS}{b:Nat}{t:PK}{Z:List AT}{S:an}(h:BB w b t [] S Z):w.rangeAt b 0 (aX S):=h.range
theorem BB.gW{w:AS}{b:Nat}{t:PK}{Z:List AT}{S:an}(h:BB w b t [] S Z):w.there b 0 256:=h.there
theorem BB.jM{w:AS}{b:Nat}{t:PK}{Z:List AT}{S:an}(h:BB w b t [] S Z)(T:an):BB (w.setCells b 0 (aX T)) b t [] T Z:=h.fill T
theorem Old.setCells{a b:AS}(h:Old a b){q:Nat}(hq:a.heap.size≤q)(o:Nat)(vs:List AT):Old a (b.setCells q o vs):=by
 induction vs generalizing o b with
 |nil=>exact h
 |cons v r ih=>exact ih (h.setCell (p:=⟨q,o,none⟩) hq v) _
theorem ac.old{w w':AS}{b:Nat}{t:PK}{c:Array AT}(h:ac w b t c)(k:Old w w'):ac w' b t c:=(k.old _ h.lt).trans h
theorem RD.old{E:RE}{w w':AS}{p:Nat}{g k a:Int}{n:List (List AT)}(h:RD E w p g k a n)(o:Old w w'):RD E w' p g k a n:=by
 obtain⟨sl,xs,root,h1,h2,h3⟩:=h.xb;refine⟨h.rb.old o,⟨sl,xs,root,h1.old o,⟨h2.1,?_⟩,h3⟩,h.lo⟩;rcases h2.2 with h4|⟨q,cap,cur,h4,h5,h6,h7⟩
 ·exact .inl h4
 ·exact .inr ⟨q,cap,cur,h4,h5,(o.old _ (PJ.1 h6).1).trans h6,h7⟩
theorem RK.qL{E:RE}{a b c:AS}(h:RK E a b)(o:Old b c):RK E a c:=⟨o.os.trans h.os,o.out.trans h.out,PL h.size o.size,fun i hi hb=>(o.old i (PO hi h.size)).trans (h.old i hi hb)⟩
theorem eC{o:Oper}{a:Act}{w:AS}{K:Act→AS→Prop}{Q:Exit→Act→AS→Prop}(x:Qu)(ho:o.op= .load 147 x)(d:Tmp)(hd:o.dst=some d)(b off:Nat)(hx:a.eval x= .pointer (some ⟨b,off,none⟩))(S:an)(hr:w.rangeAt b off (aX S))
 (h:K (a.put (some d) (.agg (aX S).toArray)) w):o.wp PH a w K Q:=
 wp_load_mid _ x ho b off hx (aX S) _ hr wh rfl (by rw[dX];exact li) (by rw[hd];exact h)
theorem xq{o:Oper}{a:Act}{w:AS}{K:Act→AS→Prop}{Q:Exit→Act→AS→Prop}(x y:Qu)(ho:o.op= .store 147 x y)(hd:o.dst=none)(b off:Nat)(hx:a.eval x= .pointer (some ⟨b,off,none⟩))(S:an)(hy:a.eval y= .agg (aX S).toArray)(ht:w.there b off 256)
 (h:K a (w.setCells b off (aX S))):o.wp PH a w K Q:=
 wp_store_mid _ x y ho b off (aX S).toArray hx hy (by simpa[dX]using ht) (by simpa[dX]using li) (all_oneCell_toArray (xk S)) (by rw[hd];exact h)
end
section
open Go.RowKit
def dq(c:Nat)(S:an):an:=fun x=>if 97≤x∧x<c then S x||S (x-32)else if 65≤x∧x+32<c then S x||S (x+32)else S x
theorem IV(S:an):dq 97 S=S:=by
 funext x
 unfold dq;rw[if_neg (by omega),if_neg (by omega)]
theorem Eb(S:an):dq 123 S=mg S:=by
 funext x
 unfold dq mg;by_cases h1:97≤x∧x<123
 ·rw[if_pos h1];have h2:¬ (65≤x∧x≤90):=by omega
  have h3:97≤x∧x≤122:=by omega
  simp[h2,h3]
 ·rw[if_neg h1];have h3:¬ (97≤x∧x≤122):=by omega
  by_cases h2:65≤x∧x+32<123
  ·have h4:65≤x∧x≤90:=by omega
   simp[h2,h3,h4]
  ·have h4:¬ (65≤x∧x≤90):=by omega
   rw[if_neg h2];simp[h3,h4]
theorem BZ(S:an){c d:Nat}(hc:97≤c)(hc2:c<123)(hd:d+32=c)(b:Bool)(hb:b=(dq c S c||dq c S d)):(fun x=>if x=d then b else(fun x=>if x=c then b else dq c S x) x)=dq (c+1) S:=by
 have e1:dq c S c=S c:=by unfold dq;rw[if_neg (by omega),if_neg (by omega)]
 have e2:dq c S d=S d:=by unfold dq;rw[if_neg (by omega),if_neg (by omega)]
 rw[e1,e2]at hb;subst hb;funext x
 dsimp only;by_cases h1:x=d
 ·subst h1;rw[if_pos rfl];unfold dq;rw[if_neg (by omega),if_pos (by omega),hd,Bool.or_comm]
 ·rw[if_neg h1];by_cases h2:x=c
  ·subst h2;rw[if_pos rfl];unfold dq;rw[if_pos (by omega)];rw[show x-32=d from by omega]
  ·rw[if_neg h2];have e3:(97≤x∧x<c+1)=(97≤x∧x<c):=propext (by omega);have e4:(65≤x∧x+32<c+1)=(65≤x∧x+32<c):=propext (by omega);unfold dq;simp only[e3,e4]
theorem dz{w:AS}{b off:Nat}{S:an}(ht:w.there b off 256):(storeCells ⟨b,off,none⟩ (aX S)).run PH w= .ok () (w.setCells b off (aX S)):=by
 have:=run_storeCells_cells (P:=PH) b off (aX S) 0 w (fun j hj=>by simpa using(ht j (by simpa[dX]using hj)).1) (fun j hj=>by simpa using(ht j (by simpa[dX]using hj)).2) (fun v hv=>xk S v hv);simpa using this
theorem eM{fn:Func}{p:Tmp}(h:fn.results=#[.cell p 147]){tmps:Array AT}{b:Nat}{S:an}{w:AS}(hp:tmps.getD p undef= .pointer (some ⟨b,0,none⟩))(hr:w.rangeAt b 0 (aX S)):
 (results fn tmps).run PH w= .ok (.agg (aX S).toArray) w:=by
 have:=run_loadVar_mid (P:=PH) w b 0 147 (aX S) _ hr wh rfl (by rw[dX];exact li);simp only[results,h];rw[Qp]at hp;simp[Qj,PZ,hp,asAddr,this]
set_option maxRecDepth 10000 in
set_option maxHeartbeats 2000000 in
theorem xI{E:RE}{w:AS}{p:Nat}{n:List (List AT)}{g k a:Int}(S:an)(hf:E.fl<256)(h:RD E w p g k a n):
 Calls PH 165 #[.pointer (some ⟨E.r,0,none⟩),.agg (aX S).toArray] w fun e w'=>e= .returned (.agg (aX (lv (decide (E.fl%2=1)) S)).toArray)∧Old w w':=by
 obtain⟨sl,xs,root,hx,hown,hxs⟩:=h.xb;have c2:=h.rb.cell 2;have x3:=hx.cell 3;have hlt:=h.rb.lt;have hltx:=hx.lt;have hB1:BB ((w.alloc (.cells (aX S).toArray 147)).alloc (.cells Tryz.zeroCells147 147)) w.heap.size 147 [] S []:=by
  unfold BB;rw[PG,BY];exact(ac.new w _ _).alloc _
 have hB2:BB ((w.alloc (.cells (aX S).toArray 147)).alloc (.cells Tryz.zeroCells147 147)) (w.heap.size+1) 147 [] az []:=by
  unfold BB;rw[PG,BY,qj];exact ac.new2 w _ _ _
 have hO:Old w ((w.alloc (.cells (aX S).toArray 147)).alloc (.cells Tryz.zeroCells147 147)):=((Old.refl w).alloc _).alloc _;have H1:=AI hB1;have H2:=AI hB2;have H3:=AI hO;clear h hx hown hxs hB1 hB2 hO;by_cases hfl:E.fl%2=1
 ·have h0:(((E.fl:Int)%2)==0)=false:=by simp;omega
  go_enter (PH.func Tryz.func165 (by decide)),Tryz.ntmps165
  go_wp2;go_loopw [5,6] (fun x y wr=>∃c:Nat,97≤c∧c≤123∧x= .int .i32 c∧BB wr w.heap.size 147 [] (dq c S) []∧BB wr (w.heap.size+1) 147 [] az []∧Old w wr) (fun x _ _=>(123-intOf x).toNat)
  case atStart=>exact⟨97,OF _,by omega,rfl,by rw[IV];exact H1.out,H2.out,H3.out⟩
  case round=>
   obtain⟨c,h2,hc2,rfl,hB,hB2,hO⟩:=hrel;clear c2 x3;by_cases hlt:c<123
   ·obtain⟨d,hd⟩:∃d:Nat,d+32=c:=⟨c-32,by omega⟩;have hdi:(c:Int)-32=(d:Int):=by omega
    have hci:(c:Int)≤122:=by omega
    have g1:wr.cell? ⟨w.heap.size,c,none⟩=some (.bool (dq c S c)):=by simpa using hB.get (i:=c) (by omega)
    have g2:wr.cell? ⟨w.heap.size,d,none⟩=some (.bool (dq c S d)):=by simpa using hB.get (i:=d) (by omega)
    have f:=ac.frozen hB;have hst:∀b,b=(dq c S c||dq c S d)→BB ((wr.setCell ⟨w.heap.size,c,none⟩ (.bool b)).setCell ⟨w.heap.size,d,none⟩ (.bool b)) w.heap.size 147 [] (dq (c+1) S) []:=fun b hb=>by
     have h1:=(hB.put (i:=c) (by omega) b).put (i:=d) (by omega) b;rw[BZ S h2 hlt hd b hb]at h1;simpa using h1
    have hst2:∀b,BB ((wr.setCell ⟨w.heap.size,c,none⟩ (.bool b)).setCell ⟨w.heap.size,d,none⟩ (.bool b)) (w.heap.size+1) 147 [] az []:=fun b=>(ac.far hB2 (by simp) _).far (by simp) _
    have hst3:∀b,Old w ((wr.setCell ⟨w.heap.size,c,none⟩ (.bool b)).setCell ⟨w.heap.size,d,none⟩ (.bool b)):=fun b=>(hO.setCell (p:=⟨w.heap.size,c,none⟩) (OF _) _).setCell (p:=⟨w.heap.size,d,none⟩) (OF _) _
    have K1:=AI hst;have K2:=AI hst2;have K3:=AI hst3;have hd':=AI hd;clear hst hst2 hst3 hB hB2 hO H1 H2 H3 hd;have hc255:(c:Int)<256:=by omega
    have hd255:(d:Int)<256:=by have:=hd'.out;omega
    cases hb1:dq c S c
    ·rw[hb1]at g1;go_wp2;refine⟨⟨c+1,by omega,by omega,by simp,K1.out _ (by rw[hb1];simp),K2.out _,K3.out _⟩,by simp only[intOf];omega⟩
    ·rw[hb1]at g1;go_wp2;refine⟨⟨c+1,by omega,by omega,by simp,K1.out _ (by rw[hb1];simp),K2.out _,K3.out _⟩,by simp only[intOf];omega⟩
   ·have hci:¬ (c:Int)≤122:=by omega
    obtain rfl:c=123:=by omega
    have K1:=AI hB;have K2:=AI hB2;have K3:=AI hO;clear hB hB2 hO H1 H2 H3;go_wp2;refine eC (.tmp 3) rfl 37 rfl _ 0 rfl (dq 123 S) (BB.dK K1.out) ?_;simp only[IN,zq0];have r1:=dz (b:=w.heap.size+1) (off:=0) (S:=dq 123 S) (BB.gW K2.out);go_wp2;try simp only[PX,Exit.then]
    refine bodyPost_ret (eM (b:=w.heap.size+1) (S:=dq 123 S) rfl ?_ ?_) rfl ?_
    ·rfl
    ·exact BB.dK (BB.jM K2.out _)
    exact⟨by simp[lv,hfl,Eb],K3.out.setCells (PV _) _ _⟩
 ·have h0:(((E.fl:Int)%2)==0)=true:=by simp;omega
  go_enter (PH.func Tryz.func165 (by decide)),Tryz.ntmps165
  go_wp2;refine eC (.tmp 3) rfl 16 rfl _ 0 rfl S (BB.dK H1.out) ?_;simp only[IN,zq0];have r1:=dz (b:=w.heap.size+1) (off:=0) (S:=S) (BB.gW H2.out);go_wp2;try simp only[PX,Exit.then]
  refine bodyPost_ret (eM (b:=w.heap.size+1) (S:=S) rfl ?_ ?_) rfl ?_
  ·rfl
  ·exact BB.dK (BB.jM H2.out S)
  exact⟨by simp[lv,hfl],H3.out.setCells (PV _) _ _⟩
end
section
open Go.RowKit
def iX(l:List UInt8)(p:Nat):Int:=if Q4 (l.drop p) [58,93]= -1 then -1 else(p:Int)+Q4 (l.drop p) [58,93]
theorem s_at{s:ByteArray}{p:Nat}(h:p<s.size):s.data.toList.drop p=s[p]::s.data.toList.drop (p+1):=by
 have h2:p<s.data.toList.length:=by simpa using h
 rw[Qt h2];rfl
theorem Im{s:ByteArray}{p i j:Nat}(hp:p≤i)(hj:j=i+1)(h:j<s.size)(hi:i<s.size):Lib.occAt (s.data.toList.drop p) [58,93] (i-p)=(decide (s[i].toNat=58)&&decide (s[j].toNat=93)):=by
 subst hj;unfold Lib.occAt;rw[Qn,show p+(i-p)=i from by omega,s_at (by omega),s_at h];rw[PM];simp only[List.isPrefixOf,Bool.and_true,PE,beq_iff_eq,decide_eq_true_eq];constructor
 ·rintro⟨h1,h2⟩;exact⟨by rw[← h1];rfl,by rw[← h2];rfl⟩
 ·rintro⟨h1,h2⟩;exact⟨Qi.1 h1.symm,Qi.1 h2.symm⟩
set_option maxRecDepth 10000 in
theorem FL(s:ByteArray)(p:Nat)(w:AS)(hs:s.size≤1000)(hp:p≤1000):
 Calls PH 176 #[.string s,.int .i64 p] w fun e w'=>e= .returned (.int .i64 (iX s.data.toList p))∧w'=w:=by
 go_enter (PH.func Tryz.func176 (by decide)),Tryz.ntmps176
 go_wp2;go_loopw [5] (fun x wr=>∃i:Nat,p≤i∧i≤p+1000∧x= .int .i64 i∧wr=w∧Lib.NoOcc (s.data.toList.drop p) [58,93] (i-p)) (fun x _=>(p+1000- (intOf x).toNat))
 case atStart=>exact⟨p,OF _,by omega,rfl,rfl,by rw[Nat.sub_self];exact Lib.NoOcc.zero _ _⟩
 case round=>
  obtain⟨i,h5,hi2,rfl,rfl,hno⟩:=hrel;obtain⟨j,hj⟩:∃j:Nat,j=i+1:=⟨_,rfl⟩;have hji:(i:Int)+1=(j:Int):=by omega
  replace hno:=AI hno;by_cases hlt:j<s.size
  ·have hlt2:(j:Int)<s.size:=by omega
   have hlti:i<s.size:=by omega
   have hlti2:(i:Int)<s.size:=by omega
   have h0:=AI (Im h5 hj hlt hlti);have hj':=AI hj;clear hj;by_cases h58:s[i].toNat=58
   ·have h3:(s[i].toNat:Int)=58:=by omega
    by_cases h93:s[j].toNat=93
    ·have h4:(s[j].toNat:Int)=93:=by omega
     go_wp2;go_ret;refine⟨?_,rfl⟩;have h1:=Lib.index_hit hno.out (by simp;omega) (by rw[h0.out];simp[h58,h93]);unfold iX;have h2:(p:Int)+((i-p:Nat):Int)=i:=by omega
     rw[h1,if_neg (by omega),h2];rfl
    ·have h4:decide ((s[j].toNat:Int)=93)=false:=by simp;omega
     have h93j:((s[j].toNat:Int)==93)=false:=by simp;omega
     go_wp2;refine⟨⟨j,by(have:=hj'.out;omega),by(have:=hj'.out;omega),rfl,trivial,?_⟩,by(have:=hj'.out;simp only[intOf];omega)⟩;have h1:=hno.out.succ (by rw[h0.out];simp[h93]);rw[show j-p=i-p+1 from by(have:=hj'.out;omega)];exact h1
   ·have h3:decide ((s[i].toNat:Int)=58)=false:=by simp;omega
    have h58j:((s[i].toNat:Int)==58)=false:=by simp;omega
    go_wp2;refine⟨⟨j,by(have:=hj'.out;omega),by(have:=hj'.out;omega),rfl,trivial,?_⟩,by(have:=hj'.out;simp only[intOf];omega)⟩;have h1:=hno.out.succ (by rw[h0.out];simp[h58]);rw[show j-p=i-p+1 from by(have:=hj'.out;omega)];exact h1
  ·have hlt2:¬ (j:Int)<s.size:=by omega
   have hj':=AI hj;clear hj;go_wp2;go_ret;refine⟨?_,rfl⟩;have h1:=Lib.index_past (by simp) hno.out (by(have:=hj'.out;simp;omega));unfold iX;rw[h1,if_pos rfl];rfl
end
section
open Go.RowKit
theorem ac.FO{w:AS}{b:Nat}{t:PK}{l:List AT}(h:ac w b t l.toArray):w.rangeAt b 0 l:=fun j v hv=>by
 rw[Nat.zero_add,h.cell j];simpa using hv
theorem BB.zK{w:AS}{b:Nat}{t:PK}{x:AT}{Z:List AT}{S:an}(h:BB w b t [x] S Z):w.rangeAt b 1 (aX S):=h.range
theorem BB.za{w:AS}{b:Nat}{t:PK}{x:AT}{Z:List AT}{S:an}(h:BB w b t [x] S Z):w.there b 1 256:=h.there
theorem BB.JK{w:AS}{b:Nat}{t:PK}{x:AT}{Z:List AT}{S:an}(h:BB w b t [x] S Z)(T:an):BB (w.setCells b 1 (aX T)) b t [x] T Z:=h.fill T
theorem BB.whole{w:AS}{b:Nat}{t:PK}{k num le mo:Int}{kids:AT}{S:an}(h:BB w b t [.int .i64 k] S [kids,.int .i64 num,.int .i64 le,.int .i64 mo]):w.rangeAt b 0 (ez k (aX S) kids num le mo):=ac.FO h
theorem DO:(PH.info? 149).map (·.size)=some 261:=by
 obtain⟨i,z,h1,h2,h3,h4,h5⟩:=DR;rw[h1];simp[h3]
theorem ue{o:Oper}{a:Act}{w:AS}{K:Act→AS→Prop}{Q:Exit→Act→AS→Prop}(x:Qu)(ho:o.op= .load 149 x)(d:Tmp)(hd:o.dst=some d)(b:Nat)(hx:a.eval x= .pointer (some ⟨b,0,none⟩))(l:List AT)(hl:l.length=261)(hr:w.rangeAt b 0 l)
 (h:K (a.put (some d) (.agg l.toArray)) w):o.wp PH a w K Q:=by
 obtain⟨dd,h1,h2⟩:=FX;exact wp_load_mid _ x ho b 0 hx l dd hr h1 h2 (by rw[hl];exact DO) (by rw[hd];exact h)
theorem Nl:Tryz.zeroCells149=(ez 0 (aX az) (.slice none 0 0) 0 0 0).toArray:=by kernel_rfl
theorem j5(kind:Int)(S:an)(kids:AT)(num le mo:Int):(ez kind (aX S) kids num le mo).length=261:=by simp[ez,dX]
theorem qc(kind:Int)(S:an)(kids:AT)(num le mo:Int)(hk:kids.oneCell'=true):∀u∈ez kind (aX S) kids num le mo,u.oneCell'=true:=by
 intro u hu;unfold ez at hu;simp only[Q5,Qa,PU,List.not_mem_nil,or_false]at hu;rcases hu with rfl|h|rfl|rfl|rfl|rfl
 ·rfl
 ·exact xk S u h
 ·exact hk
 ·rfl
 ·rfl
 ·rfl
theorem CW{w:AS}{b:Nat}{C:Array AT}{l:List AT}(h:ac w b 149 C)(hc:C.size=261)(hl:l.length=261)(h1:∀u∈l,u.oneCell'=true):(storeCells ⟨b,0,none⟩ l).run PH w= .ok () (w.setCells b 0 l):=by
 have:=run_storeCells_cells (P:=PH) b 0 l 0 w (fun j hj=>by rw[h.cell];simp;omega) (fun j hj=>h.frozen _) h1;simpa using this
theorem ac.JJ{w:AS}{b:Nat}{t:PK}{C:Array AT}{l:List AT}(h:ac w b t C)(hc:C.size=l.length):ac (w.setCells b 0 l) b t l.toArray:=by
 have:=ac.mid l C.toList [] [] w (by simpa using hc) (by simpa using h);simpa using this
theorem ut(w:AS)(k:Int):(storeCells ⟨w.heap.size,0,none⟩ (Tryz.zeroCells149.toList.set 0 (.int .i64 k))).run PH (w.alloc (.cells Tryz.zeroCells149 149))= .ok () ((w.alloc (.cells Tryz.zeroCells149 149)).setCells w.heap.size 0 (ez k (aX az) (.slice none 0 0) 0 0 0))∧
 ac ((w.alloc (.cells Tryz.zeroCells149 149)).setCells w.heap.size 0 (ez k (aX az) (.slice none 0 0) 0 0 0)) w.heap.size 149 (ez k (aX az) (.slice none 0 0) 0 0 0).toArray∧
 Old w ((w.alloc (.cells Tryz.zeroCells149 149)).setCells w.heap.size 0 (ez k (aX az) (.slice none 0 0) 0 0 0)):=by
 have e:Tryz.zeroCells149.toList.set 0 (.int .i64 k)=ez k (aX az) (.slice none 0 0) 0 0 0:=by
  rw[Nl];rfl
 have hb:=ac.new w 149 Tryz.zeroCells149;have hsz:Tryz.zeroCells149.size=261:=by rw[Nl];simp[j5]
 rw[e];exact⟨CW hb hsz (j5 ..) (qc _ _ _ _ _ _ rfl),hb.JJ (by rw[hsz,j5]),((Old.refl w).alloc _).setCells (OF _) _ _⟩
set_option maxRecDepth 10000 in
set_option maxHeartbeats 1000000 in
theorem one_any{E:RE}{w:AS}{p:Nat}{n:List (List AT)}{g k a:Int}(c:Nat)(hc:c<256)(hf:E.fl<256)(hn:n.length<1000000)(h:RD E w p g k a n):
 Calls PH 151 #[.pointer (some ⟨E.r,0,none⟩),.int .u8 c] w fun e w'=>e= .returned (.int .i64 n.length)∧RK E w w'∧RD E w' p g k a (n++[ez 0 (aX (lv (decide (E.fl%2=1)) (bV az c c))) (.slice none 0 0) 0 0 0]):=by
 have hc2:(c:Int)<256:=by omega
 obtain⟨r1,hb,hO⟩:=ut w 0;generalize (w.alloc (.cells Tryz.zeroCells149 149)).setCells w.heap.size 0 (ez 0 (aX az) (.slice none 0 0) 0 0 0)=W1 at r1 hb hO;have hB:BB W1 w.heap.size 149 [.int .i64 0] az [.slice none 0 0,.int .i64 0,.int .i64 0,.int .i64 0]:=hb;have g1:W1.cell? ⟨w.heap.size,1+c,none⟩=some (.bool false):=hB.get hc;have f:=hb.frozen;have hB2:BB (W1.setCell ⟨w.heap.size,1+c,none⟩ (.bool true)) w.heap.size 149 [.int .i64 0] (fun x=>if x=c then true else az x) [.slice none 0 0,.int .i64 0,.int .i64 0,.int .i64 0]:=hB.put hc true;have eS:(fun x=>if x=c then true else az x)=bV az c c:=by
  funext x
  unfold bV az;by_cases h:x=c
  ·simp[h]
  ·simp[h];omega
 rw[eS]at hB2;have hO2:Old w (W1.setCell ⟨w.heap.size,1+c,none⟩ (.bool true)):=hO.setCell (p:=⟨w.heap.size,1+c,none⟩) (OF _) _;have K1:=AI hB2;have K2:=AI hO2;clear hb hO hB hB2 hO2 eS;go_enter (PH.func Tryz.func151 (by decide)),Tryz.ntmps151
 go_wp2_with fail
 generalize W1.setCell ⟨w.heap.size,1+c,none⟩ (.bool true)=W2 at K1 K2 ⊢;clear g1 f r1;refine eC (.tmp 11) rfl 12 rfl _ 1 rfl (bV az c c) (BB.zK K1.out) ?_;simp only[IN,zq0];go_wp2_with fail
 refine(xI (bV az c c) hf (h.old K2.out)).mono ?_;rintro e W3 ⟨rfl,hO3⟩;have K3:BB W3 w.heap.size 149 _ _ _:=ac.old K1.out hO3;have K4:=K2.out.trans hO3;generalize hT:lv (decide (E.fl%2=1)) (bV az c c)=T;have r2:=dz (b:=w.heap.size) (off:=1) (S:=T) (BB.za K3);have K5:=BB.JK K3 T;have K6:=K4.setCells (OF _) 1 (aX T);generalize W3.setCells w.heap.size 1 (aX T)=W4 at r2 K5 K6;replace K5:=AI K5;replace K6:=AI K6;clear K1 K2 K3 K4 hO3;go_wp2_with fail
 clear r2;refine ue (.tmp 5) rfl 16 rfl _ rfl (ez 0 (aX T) (.slice none 0 0) 0 0 0) (j5 ..) (BB.whole K5.out) ?_;simp only[IN,zq0];go_wp2_with fail
 refine(qN _ (j5 ..) (qc _ _ _ _ _ _ rfl) hn (h.old K6.out)).mono ?_;rintro e W5 ⟨rfl,hK,hR⟩;go_wp2;go_ret;subst hT;exact⟨rfl,((RK.refl E w).qL K6.out).trans hK,hR⟩
end
section
open Go.RowKit
def txt(l:List UInt8):AT:=.string ⟨l.toArray⟩
set_option maxRecDepth 10000 in
set_option maxHeartbeats 1000000 in
theorem zJ(w:AS):
 Calls PH 186 #[] w fun e w'=>e= .returned (.tuple #[.slice (some ⟨w.heap.size,0,none⟩) 12 12,.slice (some ⟨w.heap.size+1,0,none⟩) 12 12])∧
  w'=(w.alloc (.cells (bz.map fun x=>txt x.1).toArray 9)).alloc (.cells (bz.map fun x=>txt x.2).toArray 9):=by
 go_enter (PH.func Tryz.func186 (by decide)),Tryz.ntmps186
 go_wp2;go_ret2
 exact⟨rfl,rfl⟩
end
section
open Go.RowKit
def kh(T:an)(lo c:Nat):an:=fun x=>T x||(decide (lo≤x)&&decide (x<c))
theorem CI(T:an)(lo:Nat):kh T lo lo=T:=by
 funext x
 unfold kh;have:(decide (lo≤x)&&decide (x<lo))=false:=by
  rw[Bool.and_eq_false_iff];simp;omega
 rw[this,Bool.or_false]
theorem wn(T:an){lo c:Nat}(h:lo≤c):(fun x=>if x=c then true else kh T lo c x)=kh T lo (c+1):=by
 funext x
 unfold kh;by_cases hx:x=c
 ·subst hx;simp[h]
 ·rw[if_neg hx];rw[show decide (x<c+1)=decide (x<c)from by rw[PM];simp;omega]
theorem EH{T:an}{rs t:List UInt8}{k:Nat}{lo hi:UInt8}(h:rs.drop k=lo::hi::t):ga T (rs.drop k)=ga (bV T lo.toNat hi.toNat) (rs.drop (k+2)):=by
 have h2:rs.drop (k+2)=t:=by
  have:=congrArg (QD 2) h;simpa[Qn]using this
 rw[h,h2];rfl
def lr(nm:List UInt8)(i:Nat):Prop:=∀j x,j<i→bz[j]?=some x→x.1≠nm
theorem lr.zero(nm:List UInt8):lr nm 0:=fun j x h=>absurd h (Nat.not_lt_zero _)
theorem lr.succ{nm:List UInt8}{i:Nat}(h:lr nm i)(hx:∀x,bz[i]?=some x→x.1≠nm):lr nm (i+1):=fun j x hj h0=>by
 rcases Nat.lt_succ_iff_lt_or_eq.1 hj with h1|h1
 ·exact h j x h1 h0
 ·subst h1;exact hx x h0
theorem Cz{α:Type}{p:α→Bool}:∀{l:List α}{i:Nat}{x:α},l[i]?=some x→p x=true→(∀j y,j<i→l[j]?=some y→p y=false)→l.find? p=some x
 |[],i,x,h,_,_=>by cases h
 |y::l,0,x,h,hp,_=>by
  obtain rfl:y=x:=by simpa using h
  simp[List.find?,hp]
 |y::l,i+1,x,h,hp,hn=>by
  have h1:=hn 0 y (by omega) rfl;rw[List.find?_cons_of_neg (by simp[h1])];exact Cz (by simpa using h) hp fun j z hj hz=>hn (j+1) z (by omega) (by simpa using hz)
theorem lr.hit{nm:List UInt8}{i:Nat}{x:List UInt8×List UInt8}(h:lr nm i)(hx:bz[i]?=some x)(he:x.1=nm):bz.find? (fun x=>x.1==nm)=some x:=
 Cz hx (by simpa using he) fun j y hj hy=>by simpa using h j y hj hy
theorem lr.none{nm:List UInt8}(h:lr nm 12):bz.find? (fun x=>x.1==nm)=none:=by
 rw[List.find?_eq_none];intro x hx;obtain⟨j,hj,rfl⟩:=Qk.1 hx;have hj2:j<12:=hj;simpa using h j _ hj2 (PW hj)
theorem FK:∀x∈bz,x.2.length%2=0∧x.2.length≤8:=by decide
end
section
open Go.RowKit
def oH(S:an)(nm:List UInt8):AT:=match bz.find? (fun x=>x.1==nm)with
 |none=>.tuple #[.agg (aX S).toArray,.bool false]
 |some x=>.tuple #[.agg (aX (ga S x.2)).toArray,.bool true]
theorem y6(w:AS)(b:Nat)(f:List UInt8×List UInt8→List UInt8)(h:ac w b 9 (bz.map fun x=>txt (f x)).toArray)(i:Nat)(hi:i<12):w.cell? ⟨b,i,none⟩=some (.string ⟨(f (bz.getD i ([],[]))).toArray⟩):=by
 rw[h.cell i];have h2:i<bz.length:=hi;simp only[QB,List.getElem?_map,PW h2,Option.map_some];rw[Qb,PW h2];rfl
theorem q9{fn:Func}{p q:Tmp}(h:fn.results=#[.cell p 147,.tmp q]){tmps:Array AT}{b:Nat}{S:an}{w:AS}{v:AT}(hp:tmps.getD p undef= .pointer (some ⟨b,0,none⟩))(hr:w.rangeAt b 0 (aX S))(hq:tmps.getD q undef=v):
 (results fn tmps).run PH w= .ok (.tuple #[.agg (aX S).toArray,v]) w:=by
 have:=run_loadVar_mid (P:=PH) w b 0 147 (aX S) _ hr wh rfl (by rw[dX];exact li);simp only[results,h];rw[Qp]at hp hq;simp[Qj,PZ,hp,hq,asAddr,this]
theorem wo(T:an){lo hi c:Nat}(h1:lo≤c)(h2:c≤lo∨c≤hi+1)(h3:hi<c):kh T lo c=bV T lo hi:=by
 funext x
 unfold kh bV;congr 1
 rw[PM];simp only[PE,decide_eq_true_eq];omega
theorem z7{R:ByteArray}{j:Nat}(h:j<R.size):R.data.toList.drop j=R[j]::R.data.toList.drop (j+1):=s_at h
set_option maxRecDepth 10000 in
set_option maxHeartbeats 4000000 in
theorem Dw(nm:ByteArray)(hs:nm.size≤1000)(S:an)(w:AS):
 Calls PH 177 #[.string nm,.agg (aX S).toArray] w fun e w'=>e= .returned (oH S nm.data.toList)∧Old w w':=by
 have hB1:BB ((w.alloc (.cells (aX S).toArray 147)).alloc (.cells Tryz.zeroCells147 147)) w.heap.size 147 [] S []:=by
  unfold BB;rw[PG,BY];exact(ac.new w _ _).alloc _
 have hB2:BB ((w.alloc (.cells (aX S).toArray 147)).alloc (.cells Tryz.zeroCells147 147)) (w.heap.size+1) 147 [] az []:=by
  unfold BB;rw[PG,BY,qj];exact ac.new2 w _ _ _
 have hO:Old w ((w.alloc (.cells (aX S).toArray 147)).alloc (.cells Tryz.zeroCells147 147)):=((Old.refl w).alloc _).alloc _;have H1:=AI hB1;have H2:=AI hB2;have H3:=AI hO;clear hB1 hB2 hO;go_enter (PH.func Tryz.func177 (by decide)),Tryz.ntmps177
 go_wp2_with fail
 have hz:((w.alloc (.cells (aX S).toArray 147)).alloc (.cells Tryz.zeroCells147 147)).heap.size=w.heap.size+2:=by simp
 generalize (w.alloc (.cells (aX S).toArray 147)).alloc (.cells Tryz.zeroCells147 147)=w0 at H1 H2 H3 hz ⊢;refine(zJ w0).mono ?_;rintro e w1 ⟨rfl,hw1⟩;have hN:ac w1 (w.heap.size+2) 9 (bz.map fun x=>txt x.1).toArray:=by rw[hw1,← hz];exact(ac.new w0 _ _).alloc _
 have hR:ac w1 (w.heap.size+2+1) 9 (bz.map fun x=>txt x.2).toArray:=by rw[hw1,← hz];exact ac.new2 w0 _ _ _
 have hO1:Old w0 w1:=by rw[hw1];exact((Old.refl w0).alloc _).alloc _
 have J1:BB w1 w.heap.size 147 [] S []:=ac.old H1.out hO1;have J2:BB w1 (w.heap.size+1) 147 [] az []:=ac.old H2.out hO1;have J3:=H3.out.trans hO1;rw[hz];clear hw1 H1 H2 H3 hO1 hz;replace J1:=AI J1;replace J2:=AI J2;replace J3:=AI J3;replace hN:=AI hN;replace hR:=AI hR;obtain⟨b0,hb0⟩:∃b0,b0=w.heap.size:=⟨_,rfl⟩;go_wp2_with fail
 go_loopw [8] (fun x wr=>∃i:Nat,i≤12∧x= .int .i64 i∧wr=w1∧lr nm.data.toList i) (fun x _=>12- (intOf x).toNat)
 case atStart=>exact⟨0,by omega,rfl,rfl,lr.zero _⟩
 case round=>
  obtain⟨i,hi,rfl,rfl,hno⟩:=hrel;replace hno:=AI hno;by_cases hlt:i<12
  ·have hlt2:(i:Int)<12:=by omega
   have g1:=y6 _ _ (fun x=>x.1) hN.out i hlt;have g2:=y6 _ _ (fun x=>x.2) hR.out i hlt;have f1:=hN.out.frozen;have h4:bz[i]?=some (bz.getD i ([],[])):=by
    rw[Qb,PW (show i<bz.length from hlt)];rfl
   have hev:=FK _ (List.mem_of_getElem? h4);generalize hA:(⟨(bz.getD i ([],[])).1.toArray⟩:ByteArray)=A at g1;generalize hR2:(⟨(bz.getD i ([],[])).2.toArray⟩:ByteArray)=rs at g2;have h5:(bz.getD i ([],[])).1=A.data.toList:=by rw[← hA]
   have hRl:(bz.getD i ([],[])).2=rs.data.toList:=by rw[← hR2]
   rw[hRl]at hev;have hev2:rs.size%2=0∧rs.size≤8:=by simpa using hev
   by_cases he:A=nm
   ·have hb:(A.toList==nm.toList)=true:=by rw[he];simp
    have h1:=hno.out.hit h4 (by rw[h5,he]);have hV:oH S nm.data.toList= .tuple #[.agg (aX (ga S rs.data.toList)).toArray,.bool true]:=by
     unfold oH;rw[h1];dsimp only;rw[hRl]
    replace hV:=AI hV;have hrs8:(rs.size:Int)≤8:=by have:=hev2.2;omega
    replace hev2:=AI hev2;clear hev h1 hno hA hR2 h5 hRl h4 he;go_wp2_with fail
    clear hb g1 g2 f1 hN hR;go_loopw [10,11] (fun x y wi=>∃j:Nat,j≤rs.size∧j%2=0∧x= .int .i64 j∧(∃T,BB wi w.heap.size 147 [] T []∧ga T (rs.data.toList.drop j)=ga S rs.data.toList)∧BB wi (w.heap.size+1) 147 [] az []∧Old w wi) (fun x _ _=>rs.size- (intOf x).toNat)
    case atStart=>exact⟨0,by omega,rfl,rfl,⟨S,J1.out,rfl⟩,J2.out,J3.out⟩
    case round=>
     obtain⟨j,hj,hj2,rfl,⟨T,hT,hadd⟩,hZ,hOl⟩:=hrel;clear J1 J2 J3;by_cases h7:j<rs.size
     ·have h2:j+1<rs.size:=by have:=hev2.out;omega
      have h1i:(j:Int)<(rs.size:Int):=by omega
      obtain⟨j1,hj1⟩:∃j1,j1=j+1:=⟨_,rfl⟩;have hlt3:j1<rs.size:=by omega
      have h2i:(j1:Int)<(rs.size:Int):=by omega
      have hji:(j:Int)+1=(j1:Int):=by omega
      have hw2:IntKind.i64.wrap ((j:Int)+2)=((j+2:Nat):Int):=by have:=hev2.out;rw[Qv];omega
      have hd:rs.data.toList.drop j=rs[j]::rs[j1]::rs.data.toList.drop (j1+1):=by
       subst hj1;rw[z7 h7,z7 h2]
      have h3:=EH (T:=T) hd;rw[h3]at hadd;have hlo:rs[j].toNat<256:=rs[j].toNat_lt;have hhi:rs[j1].toNat<256:=rs[j1].toNat_lt;replace hT:=AI hT;replace hZ:=AI hZ;replace hOl:=AI hOl;replace hadd:=AI hadd;have hj1':=AI hj1;replace hj2:=AI hj2;clear hd h3 hj1 h2;go_wp2_with fail
      generalize hlv:rs[j].toNat=lo at *;generalize hhv:rs[j1].toNat=hi at *;go_loopw [11] (fun x wj=>∃c:Nat,lo≤c∧(c≤lo∨c≤hi+1)∧x= .int .i64 c∧BB wj w.heap.size 147 [] (kh T lo c) []∧BB wj (w.heap.size+1) 147 [] az []∧Old w wj) (fun x _=>256+hi- (intOf x).toNat)
      case atStart=>exact⟨lo,OF _,.inl (OF _),rfl,by rw[CI];exact hT.out,hZ.out,hOl.out⟩
      case round=>
       obtain⟨c,h6,hc2,rfl,h0,hZc,hOc⟩:=hrel;clear hT hZ hOl;by_cases hltc:c≤hi
       ·have hci:(c:Int)≤((rs[j1].toNat:Nat):Int):=by omega
        have hc255:(c:Int)<256:=by omega
        have f:=ac.frozen h0;have g3:(wr.cell? ⟨w.heap.size,c,none⟩)=some (.bool (kh T lo c c)):=by simpa using h0.get (i:=c) (by omega)
        have hB2:BB (wr.setCell ⟨w.heap.size,c,none⟩ (.bool true)) w.heap.size 147 [] (kh T lo (c+1)) []:=by
         have:=h0.put (i:=c) (by omega) true;rw[wn T h6]at this;simpa using this
        have hZ2:BB (wr.setCell ⟨w.heap.size,c,none⟩ (.bool true)) (w.heap.size+1) 147 [] az []:=ac.far hZc (by simp) _;have hO2:=hOc.setCell (p:=⟨w.heap.size,c,none⟩) (OF _) (.bool true);have hwr:IntKind.i64.wrap ((c:Int)+1)=((c+1:Nat):Int):=by rw[Qv];omega
        replace hB2:=AI hB2;replace hZ2:=AI hZ2;replace hO2:=AI hO2;clear h0 hZc hOc;go_wp2_with fail
        refine⟨⟨c+1,by omega,.inr (by omega),by simp,hB2.out,hZ2.out,hO2.out⟩,by simp only[intOf];omega⟩
       ·have hci:¬ (c:Int)≤((rs[j1].toNat:Nat):Int):=by omega
        rw[wo T h6 hc2 (by omega)]at h0;replace h0:=AI h0;replace hZc:=AI hZc;replace hOc:=AI hOc;go_wp2_with fail
        refine⟨⟨j+2,by(have:=hev2.out;have:=hj2.out;omega),by(have:=hj2.out;omega),by simp,⟨_,h0.out,hadd.out⟩,hZc.out,hOc.out⟩,by simp only[intOf];omega⟩
     ·have h1i:¬ (j:Int)<(rs.size:Int):=by omega
      have hjR:rs.data.toList.drop j=[]:=Qz (by simp;omega);rw[hjR]at hadd;have hTe:T=ga S rs.data.toList:=hadd;subst hTe;have K1:=AI hT;have K2:=AI hZ;have K3:=AI hOl;clear hT hZ hOl hjR hadd;generalize ga S rs.data.toList=T at *;go_wp2_with fail
      refine eC (.tmp 3) rfl 53 rfl _ 0 rfl T (BB.dK K1.out) ?_;simp only[IN,zq0];have r1:=dz (b:=w.heap.size+1) (off:=0) (S:=T) (BB.gW K2.out);go_wp2_with fail
      try simp only[PX,Exit.then]
      refine bodyPost_ret (q9 (b:=w.heap.size+1) (S:=T) (v:=.bool true) rfl ?_ ?_ ?_) rfl ?_
      ·rfl
      ·exact BB.dK (BB.jM K2.out T)
      ·rfl
      exact⟨by rw[hV.out],K3.out.setCells (PV _) _ _⟩
   ·have hb:(A.toList==nm.toList)=false:=by
     rw[Lib.toList_data,Lib.toList_data];simp only[beq_eq_false_iff_ne,ne_eq];intro h;exact he (ByteArray.ext (Array.ext' h))
    clear hev hev2 hRl;go_wp2_with fail
    refine⟨⟨i+1,by omega,by simp,trivial,hno.out.succ fun x hx h8=>he ?_⟩,by simp only[intOf];omega⟩;rw[← hA,Qb,hx];show(⟨x.1.toArray⟩:ByteArray)=nm;rw[h8]
  ·have hlt2:¬ (i:Int)<12:=by omega
   obtain rfl:i=12:=by omega
   have hV:oH S nm.data.toList= .tuple #[.agg (aX S).toArray,.bool false]:=by
    unfold oH;rw[hno.out.none]
   replace hV:=AI hV;go_wp2_with fail
   refine eC (.tmp 3) rfl 54 rfl _ 0 rfl S (BB.dK J1.out) ?_;simp only[IN,zq0];have r1:=dz (b:=w.heap.size+1) (off:=0) (S:=S) (BB.gW J2.out);go_wp2_with fail
   try simp only[PX,Exit.then]
   refine bodyPost_ret (q9 (b:=w.heap.size+1) (S:=S) (v:=.bool false) rfl ?_ ?_ ?_) rfl ?_
   ·rfl
   ·exact BB.dK (BB.jM J2.out S)
   ·rfl
   exact⟨by rw[hV.out],J3.out.setCells (PV _) _ _⟩
end
def kindOf(c:Nat):Int:=if 0≤dH c then dH c else if c=42∨c=43∨c=63∨c=123 then 7 else 1
theorem nh(ln fold:Bool)(l:List UInt8)(nt:Bool)(at_:Nat):∀(f:Nat)(first:Bool)(S:an)(p:Nat)(x:dF),fI ln fold l nt at_ f first S p=some x→x.t.kind=8∨x.t.kind=1
 |0,_,_,_,_,h=>by cases h
 |f+1,first,S,p,x,h=>by
  unfold fI at h;split at h
  ·cases h;exact .inl rfl
  ·split at h
   ·cases h;exact .inr rfl
   split at h
   ·split at h
    ·cases h;exact .inl rfl
    ·exact nh ln fold l nt at_ f _ _ _ _ h
   split at h
   ·split at h
    ·cases h;exact .inl rfl
    ·exact nh ln fold l nt at_ f _ _ _ _ h
   ·exact nh ln fold l nt at_ f _ _ _ _ h
theorem zx(c p:Nat)(rest:List UInt8):(de c p rest).t.kind=7:=by
 unfold de;split
 ·rfl
 split
 ·rfl
 split
 ·rfl
 ·rfl
theorem f9{c:UInt8}{n:Nat}(hn:n<256):c=UInt8.ofNat n↔c.toNat=n:=by
 constructor
 ·rintro rfl;simp[Nat.mod_eq_of_lt hn]
 ·intro h;rw[← h];simp
theorem Cm{c:UInt8}:(c=42∨c=43∨c=63∨c=123)↔(c.toNat=42∨c.toNat=43∨c.toNat=63∨c.toNat=123):=
 or_congr (f9 (n:=42) (by decide)) (or_congr (f9 (n:=43) (by decide)) (or_congr (f9 (n:=63) (by decide)) (f9 (n:=123) (by decide))))
theorem Fx{ln fold:Bool}{l:List UInt8}{p:Nat}(h:l.drop p=[]):bG ln fold l p=some ⟨gl 0 p,none,false,p⟩:=by
 unfold bG;rw[h]
theorem Dm{ln fold:Bool}{l:List UInt8}{p:Nat}{c:UInt8}{r:List UInt8}{x:dF}(h:l.drop p=c::r)(hx:bG ln fold l p=some x):x.t.kind=kindOf c.toNat∨(kindOf c.toNat=1∧x.t.kind=8):=by
 unfold bG at hx;rw[h]at hx;dsimp only at hx;unfold kindOf;split at hx
 ·next h0=>
  cases hx;rw[if_pos h0];exact .inl rfl
 ·next h0=>
  rw[if_neg h0];have eR:= @Cm c;split at hx
  ·next h1=>
   rw[if_pos (eR.1 h1)];cases hx;exact .inl (zx _ _ _)
  ·next h1=>
   rw[if_neg fun h=>h1 (eR.2 h)];have key:x.t.kind=1∨x.t.kind=8→x.t.kind=1∨((1:Int)=1∧x.t.kind=8):=fun h=>h.elim .inl fun h=>.inr ⟨rfl,h⟩
   apply key;split at hx
   ·rcases nh _ _ _ _ _ _ _ _ _ _ hx with h|h
    ·exact .inr h
    ·exact .inl h
   split at hx
   ·cases hx;exact .inl rfl
   split at hx
   ·split at hx
    ·cases hx;exact .inr rfl
    split at hx
    ·cases hx;exact .inr rfl
    split at hx
    ·cases hx;exact .inr rfl
    ·cases hx;exact .inl rfl
   ·cases hx;exact .inl rfl
theorem IC{c:Nat}(h:kindOf c=6):c=124:=by
 unfold kindOf dH at h;repeat(split at h<;>try omega)
theorem ID{c:Nat}(h:kindOf c=5):c=41:=by
 unfold kindOf dH at h;repeat(split at h<;>try omega)
theorem IF{c:Nat}(h:kindOf c=4):c=40:=by
 unfold kindOf dH at h;repeat(split at h<;>try omega)
theorem IB{c:Nat}(h:kindOf c=7):c=42∨c=43∨c=63∨c=123:=by
 unfold kindOf dH at h;repeat(split at h<;>try omega)
theorem xV{c:Nat}(h:c=42∨c=43∨c=63∨c=123):kindOf c=7:=by
 rcases h with rfl|rfl|rfl|rfl<;>decide
theorem IG(c:Nat):kindOf c≠0:=by
 unfold kindOf dH;repeat(split <;>try omega)
structure N9(c:Nat)(x:dF):Prop where
 k0:x.t.kind≠0
 k6:x.t.kind=6↔c=124
 k5:x.t.kind=5↔c=41
 k4:x.t.kind=4↔c=40
 k7:x.t.kind=7↔(c=42∨c=43∨c=63∨c=123)
theorem Do{ln fold:Bool}{l:List UInt8}{p:Nat}{c:UInt8}{r:List UInt8}{x:dF}(h:l.drop p=c::r)(hx:bG ln fold l p=some x):N9 c.toNat x:=by
 rcases Dm h hx with h1|⟨h1,h2⟩
 ·refine⟨by rw[h1];exact IG _,?_,?_,?_,?_⟩
  ·rw[h1];exact⟨IC,fun h=>by rw[h];decide⟩
  ·rw[h1];exact⟨ID,fun h=>by rw[h];decide⟩
  ·rw[h1];exact⟨IF,fun h=>by rw[h];decide⟩
  ·rw[h1];exact⟨IB,xV⟩
 ·have k1:∀{d:Nat},kindOf d≠1→c.toNat≠d:=fun hd e=>hd (e▸h1)
  refine⟨by omega,?_,?_,?_,?_⟩
  ·exact⟨fun h=>by omega,fun h=>absurd h (k1 (by decide))⟩
  ·exact⟨fun h=>by omega,fun h=>absurd h (k1 (by decide))⟩
  ·exact⟨fun h=>by omega,fun h=>absurd h (k1 (by decide))⟩
  ·exact⟨fun h=>by omega,fun h=>by rcases h with h|h|h|h<;>exact absurd h (k1 (by decide))⟩
theorem Ft{ln fold:Bool}{l:List UInt8}{p:Nat}{c:UInt8}{r:List UInt8}(h:l.drop p=c::r)(hc:c.toNat=42∨c.toNat=43∨c.toNat=63∨c.toNat=123):bG ln fold l p=some (de c.toNat p r):=by
 have e:c=42∨c=43∨c=63∨c=123:=hc.imp (f9 (n:=42) (by decide)).2 (Or.imp (f9 (n:=43) (by decide)).2 (Or.imp (f9 (n:=63) (by decide)).2 (f9 (n:=123) (by decide)).2));unfold bG;rw[h];dsimp only;rw[if_neg (by rcases hc with h|h|h|h<;>rw[h]<;>decide),if_pos e]
theorem vh{ln fold:Bool}{l:List UInt8}{p:Nat}{c:UInt8}{r:List UInt8}(h:l.drop p=c::r)(hc:c.toNat=40):bG ln fold l p=some ⟨gl 4 p,none,true,p+1⟩:=by
 unfold bG;rw[h];dsimp only;rw[hc,if_pos (by decide)];rfl
theorem BI{ln fold:Bool}{l:List UInt8}{p:Nat}{c:UInt8}{r:List UInt8}(h:l.drop p=c::r)(hc:c.toNat=41):bG ln fold l p=some ⟨gl 5 p,none,true,p+1⟩:=by
 unfold bG;rw[h];dsimp only;rw[hc,if_pos (by decide)];rfl
theorem Fz{ln fold:Bool}{l:List UInt8}{p:Nat}{c:UInt8}{r:List UInt8}(h:l.drop p=c::r)(hc:c.toNat=124):bG ln fold l p=some ⟨gl 6 p,none,true,p+1⟩:=by
 unfold bG;rw[h];dsimp only;rw[hc,if_pos (by decide)];rfl
theorem Fv{ln fold:Bool}{l:List UInt8}{p:Nat}{c:UInt8}{r:List UInt8}(h:l.drop p=c::r)(hc:c.toNat=94):bG ln fold l p=some ⟨gl 2 p,none,true,p+1⟩:=by
 unfold bG;rw[h];dsimp only;rw[hc,if_pos (by decide)];rfl
theorem zy{ln fold:Bool}{l:List UInt8}{p:Nat}{c:UInt8}{r:List UInt8}(h:l.drop p=c::r)(hc:c.toNat=36):bG ln fold l p=some ⟨gl 3 p,none,true,p+1⟩:=by
 unfold bG;rw[h];dsimp only;rw[hc,if_pos (by decide)];rfl
theorem Fs{ln fold:Bool}{l:List UInt8}{p:Nat}{c:UInt8}{r:List UInt8}(h:l.drop p=c::r)(hc:c.toNat=91):bG ln fold l p=uh ln fold l p (p+1):=by
 obtain rfl:c=91:=(f9 (n:=91) (by decide)).2 hc;unfold bG;rw[h];rfl
theorem Fy{ln fold:Bool}{l:List UInt8}{p:Nat}{c:UInt8}{r:List UInt8}(h:l.drop p=c::r)(hc:c.toNat=46):bG ln fold l p=some ⟨dl p (lu ln (bV az 0 255)),none,true,p+1⟩:=by
 obtain rfl:c=46:=(f9 (n:=46) (by decide)).2 hc;unfold bG;rw[h];rfl
theorem Dn{ln fold:Bool}{l:List UInt8}{p:Nat}{c:UInt8}(h:l.drop p=[c])(hc:c.toNat=92):bG ln fold l p=some (dC 2 p (p+1)):=by
 obtain rfl:c=92:=(f9 (n:=92) (by decide)).2 hc;unfold bG;rw[h];rfl
theorem Fw{ln fold:Bool}{l:List UInt8}{p:Nat}{c d:UInt8}{r:List UInt8}(h:l.drop p=c::d::r)(hc:c.toNat=92):bG ln fold l p=
 (if 49≤d.toNat∧d.toNat≤57 then some (dC 3 p (p+2))else if No sE d<0 then some (dC 2 p (p+2))else some ⟨dl p (lv fold (bV az d.toNat d.toNat)),none,true,p+2⟩):=by
 obtain rfl:c=92:=(f9 (n:=92) (by decide)).2 hc;unfold bG;rw[h];rfl
theorem Fu{ln fold:Bool}{l:List UInt8}{p:Nat}{c:UInt8}{r:List UInt8}(h:l.drop p=c::r)(hk:kindOf c.toNat=1)(h1:c.toNat≠91)(h2:c.toNat≠46)(h3:c.toNat≠92):bG ln fold l p=some ⟨dl p (lv fold (bV az c.toNat c.toNat)),none,true,p+1⟩:=by
 have hs:¬ 0≤dH c.toNat:=by
  intro hs;unfold kindOf at hk;rw[if_pos hs]at hk;rcases tL hs with h|h|h|h|h<;>omega
 have hr:¬ (c.toNat=42∨c.toNat=43∨c.toNat=63∨c.toNat=123):=fun h=>by
  rw[xV h]at hk;omega
 unfold bG;rw[h];dsimp only;rw[if_neg hs,if_neg fun h=>hr (Cm.1 h)];split
 ·next e=>exact absurd ((f9 (n:=91) (by decide)).1 e) h1
 split
 ·next e=>exact absurd ((f9 (n:=46) (by decide)).1 e) h2
 split
 ·next e=>exact absurd ((f9 (n:=92) (by decide)).1 e) h3
 ·rfl
section
open Go.RowKit
def lX(B:Nat)(w:AS)(A:Nat→Prop)(v:AT)(ks:List Nat):Prop:=
 w.ownsRow B 3 1 v ks.length (ks.map fun(k:Nat)=>Qe .i64 (k:Int))∧∀b,v.ownBlock=some b→A b
def eT(w w':AS)(A:Nat→Prop):Prop:=∀b c z,A b→w.heap[b]?=some (.cells c 3 z)→w'.heap[b]?=w.heap[b]?
theorem lX.keep{B:Nat}{w w':AS}{A A':Nat→Prop}{v:AT}{ks:List Nat}(h:lX B w A v ks)(hk:eT w w' A)(hA:∀b,b<w.heap.size→A b→A' b):lX B w' A' v ks:=by
 refine⟨⟨h.1.1,?_⟩,fun b hb=>hA b (h.1.lt b hb).2 (h.2 b hb)⟩;rcases h.1.2 with h1|⟨g,cap,cur,h1,h2,h3,h4⟩
 ·exact .inl h1
 ·refine .inr ⟨g,cap,cur,h1,h2,?_,h4⟩;rw[hk g _ _ (h.2 g (by rw[h1];rfl)) h3];exact h3
def Ip:AT:=.slice none 0 0
mutual
inductive gQ(B:Nat)(w:AS)(ns:List (List AT))(A:Nat→Prop):Nat→Nd→Prop
 |set {k:Nat} {id b0 b1 b2 b3:Int} (S:an):ns[k]?=some (ez 0 (aX S) Ip 0 0 0)→b0=wz S 0→b1=wz S 1→b2=wz S 2→b3=wz S 3→gQ B w ns A k (.set id b0 b1 b2 b3)
 |edge {k:Nat} {id:Int} {fin:Bool}:ns[k]?=some (ez (if fin then 2 else 1) (aX az) Ip 0 0 0)→gQ B w ns A k (.edge id fin)
 |seq {k:Nat} {id:Int} {kids:List Nd} {v:AT} {ks:List Nat}:ns[k]?=some (ez 3 (aX az) v 0 0 0)→lX B w A v ks→gO B w ns A ks kids→gQ B w ns A k (.seq id kids)
 |alt {k:Nat} {id:Int} {kids:List Nd} {v:AT} {ks:List Nat}:ns[k]?=some (ez 4 (aX az) v 0 0 0)→lX B w A v ks→gO B w ns A ks kids→gQ B w ns A k (.alt id kids)
 |grp {k:Nat} {id num:Int} {kid:Nd} {v:AT} {j:Nat}:ns[k]?=some (ez 5 (aX az) v num 0 0)→lX B w A v [j]→gQ B w ns A j kid→gQ B w ns A k (.grp id kid num)
 |rep {k:Nat} {id least most:Int} {kid:Nd} {v:AT} {j:Nat}:ns[k]?=some (ez 6 (aX az) v 0 least most)→lX B w A v [j]→gQ B w ns A j kid→gQ B w ns A k (.rep id kid least most)
inductive gO(B:Nat)(w:AS)(ns:List (List AT))(A:Nat→Prop):List Nat→List Nd→Prop
 |nil:gO B w ns A [] []
 |cons {k:Nat} {ks:List Nat} {nd:Nd} {kids:List Nd}:gQ B w ns A k nd→gO B w ns A ks kids→gO B w ns A (k::ks) (nd::kids)
end
theorem nI{ns ms:List (List AT)}{k:Nat}{x:List AT}(h:ns[k]?=some x):(ns++ms)[k]?=some x:=by
 rw[Qs (List.getElem?_eq_some_iff.1 h).1];exact h
section
variable{B:Nat}{w w':AS}{ns:List (List AT)}{A A':Nat→Prop}
mutual
theorem gQ.keep(ms:List (List AT))(hk:eT w w' A)(hA:∀b,b<w.heap.size→A b→A' b){k:Nat}{nd:Nd}:gQ B w ns A k nd→gQ B w' (ns++ms) A' k nd
 | .set S h h0 h1 h2 h3=>.set S (nI h) h0 h1 h2 h3
 | .edge h=>.edge (nI h)
 | .seq h hr hs=>.seq (nI h) (hr.keep hk hA) (gO.keep ms hk hA hs)
 | .alt h hr hs=>.alt (nI h) (hr.keep hk hA) (gO.keep ms hk hA hs)
 | .grp h hr hs=>.grp (nI h) (hr.keep hk hA) (gQ.keep ms hk hA hs)
 | .rep h hr hs=>.rep (nI h) (hr.keep hk hA) (gQ.keep ms hk hA hs)
theorem gO.keep(ms:List (List AT))(hk:eT w w' A)(hA:∀b,b<w.heap.size→A b→A' b){ks:List Nat}{nds:List Nd}:gO B w ns A ks nds→gO B w' (ns++ms) A' ks nds
 | .nil=>.nil
 | .cons h hs=>.cons (gQ.keep ms hk hA h) (gO.keep ms hk hA hs)
end
theorem gO.snoc{ks:List Nat}{nds:List Nd}(h:gO B w ns A ks nds){k:Nat}{nd:Nd}(hn:gQ B w ns A k nd):gO B w ns A (ks++[k]) (nds++[nd]):=by
 match h with
 | .nil=>exact .cons hn .nil
 | .cons h1 h2=>exact .cons h1 (gO.snoc h2 hn)
theorem gO.len{ks:List Nat}{nds:List Nd}(h:gO B w ns A ks nds):ks.length=nds.length:=by
 match h with
 | .nil=>rfl
 | .cons h1 h2=>simp[gO.len h2]
end
theorem RK.gU{E:RE}{w w':AS}{p:Nat}{g k a:Int}{n:List (List AT)}(h:RK E w w')(hd:RD E w p g k a n)(A:Nat→Prop):eT w w' A:=fun b c z _ hb=>by
 refine h.old b (PJ.1 hb).1 (.inr ⟨?_,?_,?_⟩)
 ·rintro rfl;have:=hd.rb.symm.trans hb;simp at this
 ·rintro rfl;obtain⟨sl,xs,root,hx,_⟩:=hd.xb;have:=hx.symm.trans hb;simp at this
 ·intro c' z' e;have:=e.symm.trans hb;simp at this
theorem Old.gU{w w':AS}(h:Old w w')(A:Nat→Prop):eT w w' A:=fun b c z _ hb=>h.old b (PJ.1 hb).1
def cG(E:RE)(w:AS)(ns:List (List AT))(p:Nat)(g a:Int)(c:Nat)(x:df Nd)(e:Ending)(w':AS):Prop:=
 RK E w w'∧∃(k:Nat)(ms:List (List AT)),e= .returned (.int .i64 k)∧match x with
  | .ok nd s=>RD E w' s.p s.g 0 a (ns++ms)∧p≤s.p∧s.p≤E.s.size∧g≤s.g∧s.g≤9∧ms.length≤4*(s.p-p)+c∧gQ E.B w' (ns++ms) (fun b=>w.heap.size≤b) k nd
  | .err k' a'=>k'≠0∧∃(p':Nat)(g':Int),RD E w' p' g' k' a' (ns++ms)∧(p':Int)≤E.s.size+10-g∧(ms.length:Int)≤4*((E.s.size:Int)-p)+4*(10-g)+c
end
def kg(S:an)(a:UInt8)(r:List UInt8):Int ⊕ (an×Nat):=
 if 0<r.length∧a=91∧0≤No [58,46,61] (r.getD 0 0)then
  match eU S (a::r)with
  |none=>.inl 5
  |some x=>.inr x
 else if 1<r.length∧r.getD 0 0=45∧r.getD 1 0≠93 then
  if(r.getD 1 0).toNat<a.toNat then .inl 6 else .inr (bV S a.toNat (r.getD 1 0).toNat,3)
 else .inr (bV S a.toNat a.toNat,1)
theorem Dk{ln fold:Bool}{l:List UInt8}{nt:Bool}{at_ f:Nat}{first:Bool}{S:an}{p:Nat}{a:UInt8}{r:List UInt8}(h:l.drop p=a::r)(h93:¬ (a=93∧first=false)):
 fI ln fold l nt at_ (f+1) first S p=match kg S a r with
  | .inl k=>some (dC k p p)
  | .inr x=>fI ln fold l nt at_ f false x.1 (p+x.2):=by
 rw[fI.eq_def];dsimp only;rw[h];dsimp only;rw[if_neg h93];unfold kg;split
 ·cases eU S (a::r)<;>rfl
 split
 ·split
  ·rfl
  ·rfl
 ·rfl
theorem Fq{ln fold:Bool}{l:List UInt8}{nt:Bool}{at_ f:Nat}{first:Bool}{S:an}{p:Nat}(h:l.drop p=[]):fI ln fold l nt at_ (f+1) first S p=some (dC 4 at_ p):=by
 rw[fI.eq_def];dsimp only;rw[h]
theorem BH{ln fold:Bool}{l:List UInt8}{nt:Bool}{at_ f:Nat}{S:an}{p:Nat}{a:UInt8}{r:List UInt8}(h:l.drop p=a::r)(h93:a=93):fI ln fold l nt at_ (f+1) false S p=some ⟨dl at_ (pE ln fold nt S),none,true,p+1⟩:=by
 rw[fI.eq_def];dsimp only;rw[h];dsimp only;rw[if_pos ⟨h93,rfl⟩]
theorem BU{S:an}{a:UInt8}{r:List UInt8}{k:Int}(h:kg S a r= .inl k):k=5∨k=6:=by
 unfold kg at h;split at h
 ·split at h
  ·cases h;exact .inl rfl
  ·cases h
 split at h
 ·split at h
  ·cases h;exact .inr rfl
  ·cases h
 ·cases h
theorem Ge{S:an}{a:UInt8}{r:List UInt8}{x:an×Nat}(h:kg S a r= .inr x):0<x.2∧x.2≤r.length+1:=by
 unfold kg at h;split at h
 ·next h0=>
  split at h
  ·cases h
  ·next y hy=>
   cases h;have:=rR hy (by simp only[If];omega);simp only[If]at this;omega
 split at h
 ·split at h
  ·cases h
  ·cases h;simp only;omega
 ·cases h;simp only;omega
theorem xG{S:an}{rest:List UInt8}:eU S rest=if rest.getD 1 0≠58∨Q4 (rest.drop 2) [58,93]= -1 then none else match bz.find? (fun x=>x.1==(rest.drop 2).take (Q4 (rest.drop 2) [58,93]).toNat)with
 |none=>none
 |some x=>some (ga S x.2,(Q4 (rest.drop 2) [58,93]).toNat+4):=by
 unfold eU Qg;dsimp only;by_cases h:0≤Q4 (rest.drop 2) [58,93]
 ·have h2:Q4 (rest.drop 2) [58,93]≠-1:=by omega
  have h3:=Lib.index_room _ _ h;rw[if_pos h];simp only[h2,Qc];by_cases h4:rest.getD 1 0≠58
  ·rw[if_pos (.inl h4),if_pos (.inl h4)]
  ·rw[if_neg (by simpa using h4),if_neg (by simpa using h4)];simp only[List.length_take];rw[Nat.min_eq_left (by omega)];cases List.find? (fun x=>x.1==List.take (Q4 (QD 2 rest) [58,93]).toNat (QD 2 rest)) bz<;>rfl
 ·have h2:Q4 (rest.drop 2) [58,93]= -1:=by
   rcases Qo (rest.drop 2) [58,93]with⟨h1,_⟩|⟨i,h1,_⟩
   ·exact h1
   ·omega
  rw[if_neg h,if_pos (.inr rfl),if_pos (.inr h2)]
section
open Go.RowKit
structure KR(E:RE)(w w':AS):Prop where
 old:∀b,b<w.heap.size→b≠E.r→w'.heap[b]?=w.heap[b]?
 size:w.heap.size≤w'.heap.size
 os:w'.os=w.os
 out:w'.output=w.output
theorem KR.refl(E:RE)(w:AS):KR E w w:=⟨fun _ _ _=>rfl,OF _,rfl,rfl⟩
theorem KR.of{E:RE}{a b:AS}(h:Old a b):KR E a b:=⟨fun i hi _=>h.old i hi,h.size,h.os,h.out⟩
theorem KR.trans{E:RE}{a b c:AS}(h:KR E a b)(k:KR E b c):KR E a c:=⟨fun i hi hn=>(k.old i (PO hi h.size) hn).trans (h.old i hi hn),PL h.size k.size,k.os.trans h.os,k.out.trans h.out⟩
theorem KR.drewN{E:RE}{a b:AS}(h:KR E a b)(m:Nat):KR E a (b.drewN m):=⟨h.old,h.size,h.os,h.out⟩
theorem KR.alloc{E:RE}{a b:AS}(h:KR E a b)(o:Obj):KR E a (b.alloc o):=h.trans (.of ((Old.refl b).alloc o))
theorem KR.qL{E:RE}{a b c:AS}(h:KR E a b)(k:Old b c):KR E a c:=h.trans (.of k)
theorem KR.setCell{E:RE}{a b:AS}(h:KR E a b){q:Addr}(hq:a.heap.size≤q.block∨q.block=E.r)(v:AT):KR E a (b.setCell q v):=
 ⟨fun i hi hn=>(Below.heap_setCell _ _ _ i (by rintro rfl;rcases hq with hq|hq;omega;exact hn hq)).trans (h.old i hi hn),by rw[Q7];exact h.size,h.os,h.out⟩
theorem KR.setCells{E:RE}{a b:AS}(h:KR E a b){q:Nat}(hq:a.heap.size≤q)(o:Nat)(vs:List AT):KR E a (b.setCells q o vs):=by
 induction vs generalizing o b with
 |nil=>exact h
 |cons v r ih=>exact ih (h.setCell (q:=⟨q,o,none⟩) (.inl hq) v) _
theorem KR.rk{E:RE}{a b:AS}(h:KR E a b)(hl:E.B≤E.r):RK E a b:=⟨h.os,h.out,h.size,fun i hi hc=>h.old i hi (by rintro rfl;rcases hc with hc|⟨hc,_⟩;omega;exact hc rfl)⟩
def rj(E:RE)(p:Nat)(k a:Int):Array AT:=#[.string E.s,.int .i64 p,.pointer (some ⟨E.x,0,none⟩),.int .i64 k,.int .i64 a]
theorem RD.kr{E:RE}{w w':AS}{p p':Nat}{g k a k' a':Int}{n:List (List AT)}(h:RD E w p g k a n)(hk:KR E w w')(hb:ac w' E.r 123 (rj E p' k' a')):RD E w' p' g k' a' n:=by
 obtain⟨sl,xs,root,h1,h2,h3⟩:=h.xb;have hne:∀b(c:Array AT)(t:PK)(z:Nat×Nat),w.heap[b]?=some (Obj.cells c t z)→t≠123→w'.heap[b]?=w.heap[b]?:=fun b c t z hc ht=>hk.old b (PJ.1 hc).1 (by
  rintro rfl;have:=h.rb.symm.trans hc;simp only[Option.some.injEq,Obj.cells.injEq]at this;exact ht this.2.1.symm)
 refine⟨hb,⟨sl,xs,root,(hne _ _ _ _ h1 (by decide)).trans h1,⟨h2.1,?_⟩,h3⟩,h.lo⟩;rcases h2.2 with h4|⟨q,cap,cur,h4,h5,h6,h7⟩
 ·exact .inl h4
 ·exact .inr ⟨q,cap,cur,h4,h5,(hne _ _ _ _ h6 (by decide)).trans h6,h7⟩
theorem ac.kr{E:RE}{w w':AS}{b:Nat}{t:PK}{c:Array AT}(h:ac w b t c)(k:KR E w w')(hn:b≠E.r):ac w' b t c:=(k.old _ h.lt hn).trans h
theorem sN{E:RE}{w:AS}{p:Nat}{n:List (List AT)}{g k a:Int}(k' a':Int)(h:RD E w p g k a n):
 Calls PH 98 #[.pointer (some ⟨E.r,0,none⟩),.int .i64 k',.int .i64 a'] w fun e w'=>e= .returned (.tuple #[])∧KR E w w'∧ac w' E.r 123 (rj E p (if k=0 then k' else k) (if k=0 then a' else a)):=by
 have c3:=h.rb.cell 3;have f:=h.rb.frozen;have c4:=h.rb.cell 4;have hh:=AI h;go_enter (PH.func Tryz.func98 (by decide)),Tryz.ntmps98
 by_cases hk:k=0
 ·subst hk;go_wp2;refine bodyPost_end (results_none rfl _ _ _) rfl ⟨rfl,((KR.refl E w).setCell (.inr rfl) _).setCell (.inr rfl) _,?_⟩;exact(ac.ci (ac.ci hh.out.rb 3 _) 4 _)
 ·have hd:decide (k=0)=false:=by simpa using hk
  go_wp2;refine bodyPost_end (results_none rfl _ _ _) rfl ⟨rfl,KR.refl E w,?_⟩;first
   |exact hh.out.rb
   |(rw[if_neg hk,if_neg hk];exact hh.out.rb)
def yO(E:RE)(w:AS)(n:List (List AT))(g a:Int)(p:Nat)(x:Int ⊕ (an×Nat))(e:Ending)(w':AS):Prop:=
 match x with
  | .inr y=>e= .returned (.agg (aX y.1).toArray)∧KR E w w'∧ac w' E.r 123 (rj E (p+y.2) 0 a)
  | .inl k=>∃T p',e= .returned (.agg (aX T).toArray)∧p'≤E.s.size∧KR E w w'∧ac w' E.r 123 (rj E p' k p)
theorem M2{l:List UInt8}{c:UInt8}:0≤No l c↔c∈l:=by
 rcases oh l c with h|⟨A,B,h1,h2,h3⟩
 ·constructor
  ·intro h2;omega
  ·intro h2;obtain⟨k,hk,e⟩:=Qk.1 h2;exact absurd (by rw[PW hk,e]) (Lib.indexByte_none h k)
 ·constructor
  ·intro _;rw[h1];simp
  ·intro _;omega
theorem Gk(l:List UInt8)(c:UInt8):inB ⟨l.toArray⟩ c.toNat=decide (0≤No l c):=by
 unfold inB;rw[PM,QJ,decide_eq_true_eq,M2];constructor
 ·rintro⟨x,hx,he⟩;have:x=c:=Qi.1 (by simpa using he);exact this▸(by simpa using hx)
 ·intro h;exact⟨c,by simpa using h,by simp⟩
def lS(s:ByteArray)(p:Nat):Bool:=decide (fF s p=91)&&decide (p+1<s.size)&&inB ⟨#[58,46,61]⟩ (fF s (p+1))
def rU(s:ByteArray)(p:Nat):Bool:=decide (p+2<s.size)&&decide (fF s (p+1)=45)&& !decide (fF s (p+2)=93)
theorem cN{s:ByteArray}{p:Nat}(h:p<s.size):fF s p=s[p].toNat:=by unfold fF;rw[dif_pos h]
theorem JE{E:RE}{p:Nat}(h:p<E.s.size):(E.l.drop p).getD 0 0=E.s[p]:=by rw[fE h];rfl
theorem A6{E:RE}{p:Nat}(S:an)(hp:p<E.s.size):kg S E.s[p] (E.l.drop (p+1))=
 if lS E.s p=true then(match eU S (E.l.drop p)with |none=>.inl 5|some x=>.inr x)
 else if rU E.s p=true then(if fF E.s (p+2)<E.s[p].toNat then .inl 6 else .inr (bV S E.s[p].toNat (fF E.s (p+2)),3))
 else .inr (bV S E.s[p].toNat E.s[p].toNat,1):=by
 have hl:(E.l.drop (p+1)).length=E.s.size- (p+1):=by simp[RE.l]
 unfold kg;have e1:(0<(E.l.drop (p+1)).length∧E.s[p]=91∧0≤No [58,46,61] ((E.l.drop (p+1)).getD 0 0))↔lS E.s p=true:=by
  unfold lS;rw[hl,cN hp];by_cases h1:p+1<E.s.size
  ·rw[JE h1,cN h1];have h2:inB ⟨#[58,46,61]⟩ E.s[p+1].toNat=decide (0≤No [58,46,61] E.s[p+1]):=Gk [58,46,61] _;rw[h2,PE,PE,decide_eq_true_eq,decide_eq_true_eq,decide_eq_true_eq];have h3:E.s[p]=91↔E.s[p].toNat=91:=f9 (n:=91) (by decide);rw[h3];constructor
   ·rintro⟨_,h4,h5⟩;exact⟨⟨h4,h1⟩,h5⟩
   ·rintro⟨⟨h4,_⟩,h5⟩;exact⟨by omega,h4,h5⟩
  ·constructor
   ·rintro⟨h2,_⟩;omega
   ·intro h2;rw[PE,PE,decide_eq_true_eq,decide_eq_true_eq]at h2;exact absurd h2.1.2 h1
 have e2:(1<(E.l.drop (p+1)).length∧(E.l.drop (p+1)).getD 0 0=45∧(E.l.drop (p+1)).getD 1 0≠93)↔rU E.s p=true:=by
  unfold rU;rw[hl];by_cases h1:p+2<E.s.size
  ·have h0:p+1<E.s.size:=by omega
   have hg:(E.l.drop (p+1)).getD 1 0=E.s[p+2]:=by rw[fE h0,fE h1];rfl
   rw[JE h0,hg,cN h0,cN h1,PE,PE,decide_eq_true_eq,decide_eq_true_eq,Bool.not_eq_true',decide_eq_false_iff_not];have h3:E.s[p+1]=45↔E.s[p+1].toNat=45:=f9 (n:=45) (by decide);have h4:E.s[p+2]=93↔E.s[p+2].toNat=93:=f9 (n:=93) (by decide);rw[h3,ne_eq,h4];constructor
   ·rintro⟨_,h5,h6⟩;exact⟨⟨h1,h5⟩,h6⟩
   ·rintro⟨⟨_,h5⟩,h6⟩;exact⟨by omega,h5,h6⟩
  ·constructor
   ·rintro⟨h2,_⟩;omega
   ·intro h2;rw[PE,PE,decide_eq_true_eq]at h2;exact absurd h2.1.1 h1
 by_cases h1:lS E.s p=true
 ·rw[if_pos h1,if_pos (e1.2 h1),fE hp];first |done|(cases eU S (E.s[p]::QD (p+1) E.l)<;>rfl)
 ·rw[if_neg h1,if_neg fun h=>h1 (e1.1 h)];by_cases h2:rU E.s p=true
  ·rw[if_pos h2,if_pos (e2.2 h2)];have h3:p+2<E.s.size:=by
    unfold rU at h2;rw[PE,PE,decide_eq_true_eq]at h2;exact h2.1.1
   have hg:(E.l.drop (p+1)).getD 1 0=E.s[p+2]:=by rw[fE (show p+1<E.s.size by omega),fE h3];rfl
   rw[hg,cN h3]
  ·rw[if_neg h2,if_neg fun h=>h2 (e2.1 h)]
end
section
open Go.RowKit
theorem yU{o:Oper}{a:Act}{w:AS}{K:Act→AS→Prop}{Q:Exit→Act→AS→Prop}(d:Tmp)(hd:o.dst=some d)(f:FuncId)(args:Array AT)(hrun:(execOp a.eval o).run PH w= .ok (.enter f args) w)(v:AT)(R:AS→Prop)
 (hc:Calls PH f args w fun e w'=>e= .returned v∧R w') (h:∀w',R w'→K (a.put (some d) v) w'):o.wp PH a w K Q:=by
 unfold Oper.wp;rw[hrun,Oper.upon_enter];refine hc.mono fun e w'' hh=> ?_
 obtain⟨rfl,hR⟩:=hh;rw[hd];exact h _ hR
theorem Cf{o:Oper}{a:Act}{w:AS}{K:Act→AS→Prop}{Q:Exit→Act→AS→Prop}(d:Tmp)(hd:o.dst=some d)(v:AT)(w':AS)(hrun:(execOp a.eval o).run PH w= .ok (.value v) w')(h:K (a.put (some d) v) w'):o.wp PH a w K Q:=by
 unfold Oper.wp;rw[hrun,Oper.upon_value,hd];exact h
structure f8(E:RE)(w:AS)(a:Int)(p2:Nat)(S:an)(wx:AS):Prop where
 kr:KR E w wx
 rb:ac wx E.r 123 (rj E p2 0 a)
 b1:BB wx w.heap.size 147 [] S []
 b2:BB wx (w.heap.size+1) 147 [] az []
theorem f8.drewN{E:RE}{w wx:AS}{a:Int}{p2:Nat}{S:an}(h:f8 E w a p2 S wx)(m:Nat):f8 E w a p2 S (wx.drewN m):=⟨h.kr.drewN m,h.rb,h.b1,h.b2⟩
theorem f8.old{E:RE}{w wx wy:AS}{a:Int}{p2:Nat}{S:an}(h:f8 E w a p2 S wx)(k:Old wx wy):f8 E w a p2 S wy:=⟨h.kr.qL k,h.rb.old k,ac.old h.b1 k,ac.old h.b2 k⟩
theorem f8.move{E:RE}{w wx:AS}{a:Int}{p2 p3:Nat}{S:an}(h:f8 E w a p2 S wx)(hr:E.r<w.heap.size):f8 E w a p3 S (wx.setCell ⟨E.r,1,none⟩ (.int .i64 (p3:Int))):=
 ⟨h.kr.setCell (.inr rfl) _,h.rb.ci 1 _,ac.far h.b1 (by dsimp only;omega) _,ac.far h.b2 (by dsimp only;omega) _⟩
theorem f8.start{E:RE}{w:AS}{p:Nat}{g a:Int}{n:List (List AT)}(h:RD E w p g 0 a n)(S:an):f8 E w a p S ((w.alloc (.cells (aX S).toArray 147)).alloc (.cells Tryz.zeroCells147 147)):=by
 refine⟨((KR.refl E w).alloc _).alloc _,(h.rb.alloc _).alloc _,?_,?_⟩
 ·unfold BB;rw[PG,BY];exact(ac.new w _ _).alloc _
 ·unfold BB;rw[PG,BY,qj];exact ac.new2 w _ _ _
theorem ac.cells{w:AS}{b q:Nat}{t:PK}{c:Array AT}(h:ac w b t c)(hq:b≠q)(o:Nat)(vs:List AT):ac (w.setCells q o vs) b t c:=by
 induction vs generalizing o w with
 |nil=>exact h
 |cons v r ih=>exact ih (h.far (p:=⟨q,o,none⟩) hq v) _
theorem f8.cells{E:RE}{w wx:AS}{a:Int}{p2 nb:Nat}{S:an}(h:f8 E w a p2 S wx)(hn:w.heap.size+1<nb)(o:Nat)(vs:List AT)(hr:E.r<w.heap.size:=by assumption):f8 E w a p2 S (wx.setCells nb o vs):=
 ⟨h.kr.setCells (by omega) o vs,ac.cells h.rb (by omega) o vs,ac.cells h.b1 (by omega) o vs,ac.cells h.b2 (by omega) o vs⟩
theorem ac.rk{E:RE}{w w':AS}{b:Nat}{t:PK}{c:Array AT}{p:Nat}{g k a:Int}{n:List (List AT)}(h:ac w b t c)(hk:RK E w w')(hd:RD E w p g k a n)(h1:t≠123)(h2:t≠83)(h3:t≠149):ac w' b t c:=by
 refine(hk.old b h.lt (.inr ⟨?_,?_,?_⟩)).trans h
 ·rintro rfl;have:=hd.rb.symm.trans h;simp only[Option.some.injEq,Obj.cells.injEq]at this;exact h1 this.2.1.symm
 ·rintro rfl;obtain⟨sl,xs,root,hx,_⟩:=hd.xb;have:=hx.symm.trans h;simp only[Option.some.injEq,Obj.cells.injEq]at this;exact h2 this.2.1.symm
 ·intro c' z' e;have:=e.symm.trans h;simp only[Option.some.injEq,Obj.cells.injEq]at this;exact h3 this.2.1.symm
theorem RD.cells{E:RE}{w:AS}{b:Nat}{t:PK}{c:Array AT}{p:Nat}{g k a:Int}{n:List (List AT)}(hd:RD E w p g k a n)(h:ac w b t c)(h1:t≠123)(h2:t≠83)(h3:t≠149)(o:Nat)(vs:List AT):RD E (w.setCells b o vs) p g k a n:=by
 have n1:E.r≠b:=by
  rintro rfl;have:=hd.rb.symm.trans h;simp only[Option.some.injEq,Obj.cells.injEq]at this;exact h1 this.2.1.symm
 obtain⟨sl,xs,root,hx,h4,h5⟩:=hd.xb;have n2:E.x≠b:=by
  rintro rfl;have:=hx.symm.trans h;simp only[Option.some.injEq,Obj.cells.injEq]at this;exact h2 this.2.1.symm
 refine⟨ac.cells hd.rb n1 o vs,⟨sl,xs,root,ac.cells hx n2 o vs,⟨h4.1,?_⟩,h5⟩,hd.lo⟩;rcases h4.2 with h6|⟨q,cap,cur,h6,h7,h8,h9⟩
 ·exact .inl h6
 ·refine .inr ⟨q,cap,cur,h6,h7,ac.cells (b:=q) (c:=cur) h8 ?_ o vs,h9⟩;rintro rfl;have:=h8.symm.trans h;simp only[Option.some.injEq,Obj.cells.injEq]at this;exact h3 this.2.1.symm
theorem RK.setCells{E:RE}{a b:AS}(h:RK E a b){q:Nat}(hq:a.heap.size≤q)(hl:E.B≤E.r∧E.B≤E.x)(o:Nat)(vs:List AT):RK E a (b.setCells q o vs):=by
 induction vs generalizing o b with
 |nil=>exact h
 |cons v r ih=>exact ih (h.dN hl (.inr (.inr hq)) o v) _
theorem f8.jf{E:RE}{w wx:AS}{a:Int}{p2:Nat}{S:an}(h:f8 E w a p2 S wx):wx.cell? ⟨E.r,0,none⟩=some (.string E.s)∧wx.cell? ⟨E.r,1,none⟩=some (.int .i64 p2)∧wx.rangeAt w.heap.size 0 (aX S):=⟨h.rb.cell 0,h.rb.cell 1,BB.dK h.b1⟩
theorem Old.drewN{a b:AS}(h:Old a b)(m:Nat):Old a (b.drewN m):=⟨h.old,h.size,h.os,h.out⟩
theorem f8.add{E:RE}{w wx:AS}{a:Int}{p2:Nat}{S:an}(h:f8 E w a p2 S wx)(c:Nat)(hc:c<256)(hr:E.r<w.heap.size:=by assumption):f8 E w a p2 (bV S c c) (wx.setCell ⟨w.heap.size,c,none⟩ (.bool true)):=by
 refine⟨h.kr.setCell (.inl (OF _)) _,ac.far h.rb (by dsimp only;omega) _,?_,ac.far h.b2 (by simp) _⟩;have h1:=h.b1.put hc true;have e:(fun x=>if x=c then true else S x)=bV S c c:=by
  funext x
  unfold bV;by_cases hx:x=c
  ·simp[hx]
  ·simp[hx];omega
 rw[e]at h1;simpa using h1
theorem f8.put{E:RE}{w wx:AS}{a:Int}{p2:Nat}{S:an}(h:f8 E w a p2 S wx)(c:Nat)(hc:c<256)(hr:E.r<w.heap.size:=by assumption):f8 E w a p2 (fun x=>if x=c then true else S x) (wx.setCell ⟨w.heap.size,c,none⟩ (.bool true)):=by
 refine⟨h.kr.setCell (.inl (OF _)) _,ac.far h.rb (by dsimp only;omega) _,?_,ac.far h.b2 (by simp) _⟩;have h1:=h.b1.put hc true;simpa using h1
theorem f8.c0{E:RE}{w wx:AS}{a:Int}{p2:Nat}{S:an}(h:f8 E w a p2 S wx):wx.cell? ⟨E.r,0,none⟩=some (.string E.s):=h.rb.cell 0
theorem f8.c1{E:RE}{w wx:AS}{a:Int}{p2:Nat}{S:an}(h:f8 E w a p2 S wx):wx.cell? ⟨E.r,1,none⟩=some (.int .i64 p2):=h.rb.cell 1
theorem Ab(s:ByteArray)(c:Nat)(w:AS)(b:Bool)(hb:inB s c=b)(hs:s.size≤1000):Calls PH 122 #[.string s,.int .u8 c] w fun e w'=>e= .returned (.bool b)∧w'=w:=by
 rw[← hb];exact Gj s c w hs
theorem AE(l:List UInt8)(p:Nat): -1≤iX l p∧iX l p≤p+l.length:=by
 unfold iX;split
 ·omega
 ·rcases Qo (l.drop p) [58,93]with⟨h1,_⟩|⟨i,h1,h2,_⟩
  ·omega
  ·simp only[QI]at h2;omega
theorem Lc{E:RE}{p P2 P3 k:Nat}{S:an}(h2:P2=p+1)(h3:P3=p+2)(hl:P2<E.s.size)(h58:E.s[P2].toNat=58)(hk:iX E.l P3=k):
 ∃T ok,oH S (E.s.extract P3 k).data.toList= .tuple #[.agg (aX T).toArray,.bool ok]∧P3≤k∧k+2≤E.s.size∧eU S (E.l.drop p)=if ok=true then some (T,k+2-p)else none:=by
 subst h2 h3;have hp:p<E.s.size:=by omega
 have e1:(E.l.drop p).getD 1 0=E.s[p+1]:=by rw[fE hp,fE hl];rfl
 have e2:(E.l.drop p).drop 2=E.l.drop (p+2):=by rw[Qn]
 unfold iX at hk;have hi:Q4 (E.l.drop (p+2)) [58,93]≠-1:=by
  intro h;rw[if_pos h]at hk;omega
 rw[if_neg hi]at hk;have hi0:0≤Q4 (E.l.drop (p+2)) [58,93]:=by
  rcases Qo (E.l.drop (p+2)) [58,93]with⟨h1,_⟩|⟨i,h1,_⟩<;>omega
 have hroom:=Lib.index_room _ _ hi0;have hlen:(E.l.drop (p+2)).length=E.s.size- (p+2):=by simp[RE.l]
 rw[hlen]at hroom;simp only[If,IS]at hroom;have hkn:(Q4 (E.l.drop (p+2)) [58,93]).toNat=k- (p+2):=by omega
 have hname:(E.s.extract (p+2) k).data.toList=(E.l.drop (p+2)).take (k- (p+2)):=ext_list _ _ _;have h58':E.s[p+1]=58:=(f9 (n:=58) (by decide)).2 h58;rw[xG,e1,e2,if_neg (by rintro(h|h);exact h h58';exact hi h),hkn,hname];unfold oH;cases hf:bz.find? (fun x=>x.1==(E.l.drop (p+2)).take (k- (p+2)))with
 |none=>exact⟨S,false,rfl,by omega,by omega,rfl⟩
 |some x=>exact⟨ga S x.2,true,rfl,by omega,by omega,by rw[if_pos rfl];dsimp only;congr 2;omega⟩
theorem FJ{E:RE}{p P2 P3:Nat}{S:an}(h2:P2=p+1)(h3:P3=p+2)(hl:P2<E.s.size)(h:E.s[P2].toNat≠58∨iX E.l P3<0):eU S (E.l.drop p)=none:=by
 subst h2 h3;have hp:p<E.s.size:=by omega
 have e1:(E.l.drop p).getD 1 0=E.s[p+1]:=by rw[fE hp,fE hl];rfl
 have e2:(E.l.drop p).drop 2=E.l.drop (p+2):=by rw[Qn]
 rw[xG,e1,e2,if_pos];rcases h with h|h
 ·exact .inl fun h'=>h (by rw[h'];rfl)
 ·right;unfold iX at h;split at h
  ·assumption
  ·rcases Qo (E.l.drop (p+2)) [58,93]with⟨h1,_⟩|⟨i,h1,_⟩<;>omega
set_option maxRecDepth 10000 in
set_option maxHeartbeats 4000000 in
theorem FD{E:RE}{w:AS}{p:Nat}{n:List (List AT)}{g a:Int}(S:an)(h0:lS E.s p=false)(hp:p<E.s.size)(hs:E.s.size≤1000)(h:RD E w p g 0 a n):
 Calls PH 164 #[.pointer (some ⟨E.r,0,none⟩),.agg (aX S).toArray] w (yO E w n g a p (kg S E.s[p] (E.l.drop (p+1)))):=by
 replace h0:=AI h0;have hI:=f8.start h S;have hlt:=h.rb.lt;have hlo:=h.lo;have hh:=AI h;clear h;go_enter (PH.func Tryz.func164 (by decide)),Tryz.ntmps164
 go_upto_region 1 with fail
 generalize (w.alloc (.cells (aX S).toArray 147)).alloc (.cells Tryz.zeroCells147 147)=w1 at hI ⊢;have c0:=hI.c0;have c1:=hI.c1;have f:=hI.rb.frozen;obtain⟨P2,hP2⟩:∃P2:Nat,P2=p+1:=⟨_,rfl⟩;have hPe:(p:Int)+1=(P2:Int):=by omega
 have hp2:(p:Int)<E.s.size:=by omega
 have hP2s:(P2:Int)≤E.s.size:=by omega
 have hcd:lS E.s p=(decide (E.s[p].toNat=91)&&decide (P2<E.s.size)&&inB ⟨#[58,46,61]⟩ (fF E.s P2)):=by
  unfold lS;rw[cN hp,hP2]
 replace hP2:=AI hP2;have hI2:=AI (hI.move (p3:=P2) hlt);clear hI;go_upto_region 4 with fail
 generalize w1.setCell ⟨E.r,1,none⟩ (.int .i64 (P2:Int))=w2 at hI2 ⊢;clear c0 c1 f;have c0:=hI2.out.c0;have c1:=hI2.out.c1;generalize h5:lS E.s p=cb;rw[h5]at hcd;go_cut [54] (fun s54 wx=>s54= .bool cb∧f8 E w a P2 S wx)
 case first=>
  replace hcd:=AI hcd;by_cases h91:E.s[p].toNat=91
  ·have h91i:(E.s[p].toNat:Int)=91:=by omega
   by_cases hl:P2<E.s.size
   ·have hl2:(P2:Int)<E.s.size:=by omega
    generalize hin:inB ⟨#[58,46,61]⟩ E.s[P2].toNat=bi;go_wp2_with fail
    go_quiet (exact PY (Ab _ _ _ _ hin (by decide)))
    go_wp2_with fail
    go_meet
    case rel=>exact⟨by rw[hcd.out,cN hl,hin];simp[h91,hl],hI2.out.drewN _⟩
   ·have hl2:decide ((P2:Int)<E.s.size)=false:=by simp;omega
    go_wp2_with fail
    go_quiet (fail)
    go_wp2_with fail
    go_meet
    case rel=>exact⟨by rw[hcd.out];simp[hl],hI2.out.drewN _⟩
  ·have h91i:decide ((E.s[p].toNat:Int)=91)=false:=by simp;omega
   have h91j:((E.s[p].toNat:Int)==91)=false:=by simp;omega
   go_wp2_with fail
   go_quiet (fail)
   go_wp2_with fail
   go_meet
   case rel=>exact⟨by rw[hcd.out];simp[h91],hI2.out.drewN _⟩
 case rest=>
  obtain⟨rfl,hI3⟩:=hcut;clear c0 c1 hI2;have c0:=hI3.c0;have c1:=hI3.c1;have f:=hI3.rb.frozen;replace hcd:=AI hcd;cases cb
  ·have hitem:=A6 S hp;rw[h5,if_neg (by simp)]at hitem;obtain⟨P3,hP3⟩:∃P3:Nat,P3=P2+1:=⟨_,rfl⟩;have hP3e:(P2:Int)+1=(P3:Int):=by omega
   have hP3s:(P3:Int)≤1001:=by omega
   have hP3p:P3=p+2:=by have:=hP2.out;omega
   have hrd:rU E.s p=(decide (P3<E.s.size)&&decide (fF E.s P2=45)&& !decide (fF E.s P3=93)):=by
    unfold rU;rw[hP3p,hP2.out]
   rw[← hP3p]at hitem;generalize h8:rU E.s p=rb at hitem;rw[h8]at hrd;replace hP3:=AI hP3;replace hP3p:=AI hP3p;replace hitem:=AI hitem;replace hrd:=AI hrd;clear hcd;go_upto_if 54 with fail
   go_upto_region 14 with fail
   go_cut [145] (fun s145 wx=>s145= .bool rb∧f8 E w a P2 S wx)
   case first=>
    by_cases hl:P3<E.s.size
    ·have hl3:(P3:Int)<E.s.size:=by omega
     have hl2:P2<E.s.size:=by have:=hP3.out;omega
     have hl2i:(P2:Int)<E.s.size:=by omega
     by_cases h45:E.s[P2].toNat=45
     ·have hd:(E.s[P2].toNat:Int)=45:=by omega
      by_cases h93:E.s[P3].toNat=93
      ·have he:(E.s[P3].toNat:Int)=93:=by omega
       go_wp2_with fail
       go_quiet (fail)
       go_wp2_with fail
       go_meet
       case rel=>exact⟨by rw[hrd.out,cN hl,cN hl2];simp[h93],hI3.drewN _⟩
      ·have he:((E.s[P3].toNat:Int) !=93)=true:=by simp;omega
       go_wp2_with fail
       go_quiet (fail)
       go_wp2_with fail
       go_meet
       case rel=>exact⟨by rw[hrd.out,cN hl,cN hl2];simp[h45,h93,hl],hI3.drewN _⟩
     ·have hd:decide ((E.s[P2].toNat:Int)=45)=false:=by simp;omega
      have h45j:((E.s[P2].toNat:Int)==45)=false:=by simp;omega
      go_wp2_with fail
      go_quiet (fail)
      go_wp2_with fail
      go_meet
      case rel=>exact⟨by rw[hrd.out,cN hl,cN hl2];simp[h45],hI3.drewN _⟩
    ·have hl3:decide ((P3:Int)<E.s.size)=false:=by simp;omega
     go_wp2_with fail
     go_quiet (fail)
     go_wp2_with fail
     go_meet
     case rel=>exact⟨by rw[hrd.out];simp[hl],hI3.drewN _⟩
   case rest=>
    obtain⟨rfl,hI4⟩:=hcut;clear c0 c1 f hI3;cases rb
    ·have h1:=hitem.out;rw[if_neg (by simp)]at h1;replace hitem:=AI h1;clear h1 hrd;have hc2:E.s[p].toNat<256:=u8_in hp;have hc3:(E.s[p].toNat:Int)<256:=by omega
     have hB:=hI4.b1;have g1:wc.cell? ⟨w.heap.size,E.s[p].toNat,none⟩=some (.bool (S E.s[p].toNat)):=by simpa using hB.get (i:=E.s[p].toNat) hc2
     have f:=ac.frozen hB;have h2:=AI (hI4.add E.s[p].toNat hc2);clear hI4 hB;go_wp2_with fail
     refine eC (.tmp 3) rfl 183 rfl _ 0 rfl (bV S E.s[p].toNat E.s[p].toNat) (BB.dK h2.out.b1) ?_;simp only[IN,zq0];have r1:=dz (b:=w.heap.size+1) (off:=0) (S:=bV S E.s[p].toNat E.s[p].toNat) (BB.gW h2.out.b2);go_wp2_with fail
     try simp only[PX,Exit.then]
     refine bodyPost_ret (eM (b:=w.heap.size+1) (S:=bV S E.s[p].toNat E.s[p].toNat) rfl ?_ ?_) rfl ?_
     ·rfl
     ·exact BB.dK (BB.jM h2.out.b2 (bV S E.s[p].toNat E.s[p].toNat))
     rw[hitem.out];exact⟨rfl,h2.out.kr.setCells (PV _) _ _,by rw[← hP2.out];exact ac.cells h2.out.rb (by omega) _ _⟩
    ·obtain⟨⟨hl,h45⟩,h93⟩:(P3<E.s.size∧fF E.s P2=45)∧¬ fF E.s P3=93:=by
      have:=hrd.out.symm;simpa only[PE,decide_eq_true_eq,Bool.not_eq_true',decide_eq_false_iff_not]using this
     clear h45 h93 hrd h8;have h1:=hitem.out;rw[if_pos rfl,cN hl]at h1;clear hitem;have hl3:(P3:Int)<E.s.size:=by omega
     obtain⟨P4,h9⟩:∃P4:Nat,P4=P2+2:=⟨_,rfl⟩;have hP4e:(P2:Int)+2=(P4:Int):=by omega
     have hP4p:P4=p+3:=by have:=hP2.out;omega
     have hP4s:(P4:Int)≤E.s.size:=by have:=hP3p.out;omega
     replace h9:=AI h9;replace hP4p:=AI hP4p;have c0:=hI4.c0;have c1:=hI4.c1;have f:=hI4.rb.frozen;go_upto_if 145 with fail
     go_upto_region 15 with fail
     go_cut [10] (fun s10 wx=>s10= .int .u8 (E.s[P3].toNat)∧f8 E w a P2 S wx)
     case first=>
      go_wp2_with fail
      go_quiet (fail)
      go_wp2_with fail
      go_meet
      case rel=>exact⟨rfl,hI4.drewN _⟩
     case rest=>
      obtain⟨rfl,hI5⟩:=hcut;clear c0 c1 f hI4;have c1:=hI5.c1;have f:=hI5.rb.frozen;have h2:=AI (hI5.move (p3:=P4) hlt);clear hI5;go_upto_region 17 with fail
      generalize wc.setCell ⟨E.r,1,none⟩ (.int .i64 (P4:Int))=w6 at h2 ⊢;clear c1 f;have hc256:E.s[p].toNat<256:=u8_in hp;have hd256:E.s[P3].toNat<256:=u8_in hl;by_cases ha:E.s[P3].toNat<E.s[p].toNat
      ·rw[if_pos ha]at h1;have hitem:=AI h1;clear h1;have h6:(E.s[P3].toNat:Int)<(E.s[p].toNat:Int):=by omega
       have hdcj:¬ (E.s[p].toNat:Int)≤(E.s[P3].toNat:Int):=by omega
       go_wp2_with fail
       refine(sN 6 p (hh.out.kr h2.out.kr h2.out.rb)).mono ?_;rintro e w7 ⟨rfl,hK7,h3⟩;replace h3:ac w7 E.r 123 (rj E P4 6 p):=h3;have hb1:BB w7 (w.heap.size+1) 147 [] az []:=ac.kr h2.out.b2 hK7 (by omega);have h7:BB w7 w.heap.size 147 [] S []:=ac.kr h2.out.b1 hK7 (by omega);have hK:=h2.out.kr.trans hK7;replace hb1:=AI hb1;replace h7:=AI h7;replace hK:=AI hK;replace h3:=AI h3;clear h2 hK7;go_wp2_with fail
       go_loopw [11] (fun x wr=>x= .int .i64 (E.s[p].toNat)∧wr=w7) (fun x _=>0)
       case atStart=>exact⟨rfl,rfl⟩
       case round=>
        obtain⟨rfl,rfl⟩:=hrel;go_wp2_with fail
        refine eC (.tmp 3) rfl 180 rfl _ 0 rfl (S) (BB.dK h7.out) ?_;simp only[IN,zq0];have r1:=dz (b:=w.heap.size+1) (off:=0) (S:=S) (BB.gW hb1.out);go_wp2_with fail
        try simp only[PX,Exit.then]
        refine bodyPost_ret (eM (b:=w.heap.size+1) (S:=S) rfl ?_ ?_) rfl ?_
        ·rfl
        ·exact BB.dK (BB.jM hb1.out (S))
        rw[hitem.out];exact⟨S,P4,rfl,by omega,hK.out.setCells (PV _) _ _,ac.cells h3.out (by omega) _ _⟩
      ·rw[if_neg ha]at h1;have hitem:=AI h1;clear h1;have h6:¬ (E.s[P3].toNat:Int)<(E.s[p].toNat:Int):=by omega
       go_wp2_with fail
       go_loopw [11] (fun x wr=>∃i:Nat,E.s[p].toNat≤i∧i≤E.s[P3].toNat+1∧x= .int .i64 i∧f8 E w a P4 (kh S E.s[p].toNat i) wr) (fun x _=>256- (intOf x).toNat)
       case atStart=>exact⟨_,OF _,by omega,rfl,by rw[CI];exact h2.out⟩
       case round=>
        obtain⟨i,hc,hg,rfl,hI7⟩:=hrel;clear h2 h6;by_cases hid:i≤E.s[P3].toNat
        ·have hf:(i:Int)≤(E.s[P3].toNat:Int):=by omega
         have hi256:(i:Int)<256:=by omega
         have hB:=hI7.b1;have g1:wr.cell? ⟨w.heap.size,i,none⟩=some (.bool (kh S E.s[p].toNat i i)):=by simpa using hB.get (i:=i) (by omega)
         have f:=ac.frozen hB;have h4:=hI7.put i (by omega);rw[wn S hc]at h4;replace h4:=AI h4;clear hB hI7;go_wp2_with fail
         refine⟨⟨i+1,by omega,by omega,by simp,h4.out⟩,by simp only[intOf];omega⟩
        ·have hf:¬ (i:Int)≤(E.s[P3].toNat:Int):=by omega
         rw[wo S hc (.inr hg) (by omega)]at hI7;replace hI7:=AI hI7;go_wp2_with fail
         refine eC (.tmp 3) rfl 180 rfl _ 0 rfl (bV S E.s[p].toNat E.s[P3].toNat) (BB.dK hI7.out.b1) ?_;simp only[IN,zq0];have r1:=dz (b:=w.heap.size+1) (off:=0) (S:=bV S E.s[p].toNat E.s[P3].toNat) (BB.gW hI7.out.b2);go_wp2_with fail
         try simp only[PX,Exit.then]
         refine bodyPost_ret (eM (b:=w.heap.size+1) (S:=bV S E.s[p].toNat E.s[P3].toNat) rfl ?_ ?_) rfl ?_
         ·rfl
         ·exact BB.dK (BB.jM hI7.out.b2 (bV S E.s[p].toNat E.s[P3].toNat))
         rw[hitem.out];exact⟨rfl,hI7.out.kr.setCells (PV _) _ _,by rw[← hP4p.out];exact ac.cells hI7.out.rb (by omega) _ _⟩
  ·have:=h0.out;rw[h5]at this;cases this
end
section
open Go.RowKit
set_option maxRecDepth 10000 in
set_option maxHeartbeats 4000000 in
theorem FE{E:RE}{w:AS}{p:Nat}{n:List (List AT)}{g a:Int}(S:an)(h0:lS E.s p=true)(hp:p<E.s.size)(hs:E.s.size≤1000)(h:RD E w p g 0 a n):
 Calls PH 164 #[.pointer (some ⟨E.r,0,none⟩),.agg (aX S).toArray] w (yO E w n g a p (kg S E.s[p] (E.l.drop (p+1)))):=by
 replace h0:=AI h0;have hI:=f8.start h S;have hlt:=h.rb.lt;have hlo:=h.lo;have hh:=AI h;clear h;go_enter (PH.func Tryz.func164 (by decide)),Tryz.ntmps164
 go_upto_region 1 with fail
 generalize (w.alloc (.cells (aX S).toArray 147)).alloc (.cells Tryz.zeroCells147 147)=w1 at hI ⊢;have c0:=hI.c0;have c1:=hI.c1;have f:=hI.rb.frozen;obtain⟨P2,hP2⟩:∃P2:Nat,P2=p+1:=⟨_,rfl⟩;have hPe:(p:Int)+1=(P2:Int):=by omega
 have hp2:(p:Int)<E.s.size:=by omega
 have hP2s:(P2:Int)≤E.s.size:=by omega
 have hcd:lS E.s p=(decide (E.s[p].toNat=91)&&decide (P2<E.s.size)&&inB ⟨#[58,46,61]⟩ (fF E.s P2)):=by
  unfold lS;rw[cN hp,hP2]
 replace hP2:=AI hP2;have hI2:=AI (hI.move (p3:=P2) hlt);clear hI;go_upto_region 4 with fail
 generalize w1.setCell ⟨E.r,1,none⟩ (.int .i64 (P2:Int))=w2 at hI2 ⊢;clear c0 c1 f;have c0:=hI2.out.c0;have c1:=hI2.out.c1;generalize hd:lS E.s p=cb;rw[hd]at hcd;go_cut [54] (fun s54 wx=>s54= .bool cb∧f8 E w a P2 S wx)
 case first=>
  replace hcd:=AI hcd;by_cases h91:E.s[p].toNat=91
  ·have h91i:(E.s[p].toNat:Int)=91:=by omega
   by_cases hl:P2<E.s.size
   ·have hl2:(P2:Int)<E.s.size:=by omega
    generalize hin:inB ⟨#[58,46,61]⟩ E.s[P2].toNat=bi;go_wp2_with fail
    go_quiet (exact PY (Ab _ _ _ _ hin (by decide)))
    go_wp2_with fail
    go_meet
    case rel=>exact⟨by rw[hcd.out,cN hl,hin];simp[h91,hl],hI2.out.drewN _⟩
   ·have hl2:decide ((P2:Int)<E.s.size)=false:=by simp;omega
    go_wp2_with fail
    go_quiet (fail)
    go_wp2_with fail
    go_meet
    case rel=>exact⟨by rw[hcd.out];simp[hl],hI2.out.drewN _⟩
  ·have h91i:decide ((E.s[p].toNat:Int)=91)=false:=by simp;omega
   have h91j:((E.s[p].toNat:Int)==91)=false:=by simp;omega
   go_wp2_with fail
   go_quiet (fail)
   go_wp2_with fail
   go_meet
   case rel=>exact⟨by rw[hcd.out];simp[h91],hI2.out.drewN _⟩
 case rest=>
  obtain⟨rfl,hI3⟩:=hcut;clear c0 c1 hI2;have c0:=hI3.c0;have c1:=hI3.c1;have f:=hI3.rb.frozen;replace hcd:=AI hcd;cases cb
  ·have:=h0.out;rw[hd]at this;cases this
  ·obtain⟨⟨h91,hl⟩,hin⟩:(E.s[p].toNat=91∧P2<E.s.size)∧inB ⟨#[58,46,61]⟩ (fF E.s P2)=true:=by
    have:=hcd.out.symm;simpa only[PE,decide_eq_true_eq]using this
   have hl2:(P2:Int)<E.s.size:=by omega
   have hitem:=A6 S hp;rw[hd,if_pos rfl]at hitem;replace hitem:=AI hitem;clear hin hcd h91;obtain⟨P3,hP3⟩:∃P3:Nat,P3=P2+1:=⟨_,rfl⟩;have hP3e:(P2:Int)+1=(P3:Int):=by omega
   have hP3s:P3≤1000:=by omega
   have hP3p:P3=p+2:=by have:=hP2.out;omega
   replace hP3:=AI hP3;replace hP3p:=AI hP3p;go_upto_if 54 with fail
   go_upto_region 5 with fail
   go_cut [7] (fun s7 wx=>s7= .int .i64 (iX E.l P3)∧f8 E w a P2 S wx)
   case first=>
    go_wp2_with fail
    go_quiet (exact PY (FL E.s P3 _ hs hP3s))
    go_wp2_with fail
    go_meet
    case rel=>exact⟨rfl,hI3.drewN _⟩
   case rest=>
    obtain⟨rfl,hI4⟩:=hcut;clear c0 c1 f hI3;have c0:=hI4.c0;have c1:=hI4.c1;have f:=hI4.rb.frozen;generalize h8:iX E.l P3=kI;generalize h6:(!decide (E.s[P2].toNat=58)||decide (kI<0))=fb;have he:=AE E.l P3;rw[h8]at he;have hkr2: -1≤kI∧kI≤2000:=by have:=he.2;simp[RE.l]at this;omega
    clear he;go_upto_region 6 with fail
    go_cut [78] (fun s78 wx=>s78= .bool fb∧f8 E w a P2 S wx)
    case first=>
     by_cases h58:E.s[P2].toNat=58
     ·have hm:(E.s[P2].toNat:Int)=58:=by omega
      go_wp2_with fail
      go_quiet (fail)
      go_wp2_with fail
      go_meet
      case rel=>exact⟨by rw[← h6];simp[h58],hI4.drewN _⟩
     ·have hm:decide ((E.s[P2].toNat:Int)=58)=false:=by simp;omega
      have h58j:((E.s[P2].toNat:Int) !=58)=true:=by simp;omega
      go_wp2_with fail
      go_quiet (fail)
      go_wp2_with fail
      go_meet
      case rel=>exact⟨by rw[← h6];simp[h58],hI4.drewN _⟩
    case rest=>
     obtain⟨rfl,hI5⟩:=hcut;clear c0 c1 f hI4;cases fb
     ·obtain⟨h58,hk0⟩:E.s[P2].toNat=58∧¬ kI<0:=by simpa using h6
      obtain⟨k,rfl⟩:∃k:Nat,kI=k:=⟨kI.toNat,by omega⟩;obtain⟨T,ok,hV,hk1,hk2,hcl⟩:=Lc (S:=S) (p:=p) (P2:=P2) (P3:=P3) hP2.out hP3p.out hl h58 h8;have hn:=AI hcl;have hk1i:(P3:Int)≤k:=by omega
      have hk2i:(k:Int)≤E.s.size:=by omega
      have hPk:(k:Int)+2≤E.s.size:=by omega
      have hnm:(E.s.extract P3 k).size≤1000:=by rw[ByteArray.size_extract];omega
      have hcall:=fun u=>Dw (E.s.extract P3 k) hnm S u
      rw[hV]at hcall;replace hcall:=AI hcall;clear hcl hV hnm h6 h8 h58;go_upto_if 78 with fail
      go_upto_region 9 with fail
      go_cut [8,9] (fun s8 s9 wx=>∃nb,s8= .pointer (some ⟨nb,0,none⟩)∧s9= .bool ok∧f8 E w a P2 S wx∧BB wx nb 147 [] T []∧w.heap.size+1<nb)
      case first=>
       refine wp_region_noPanic ?_;refine wp_region_held_drew (S:=fun w'=>w'.cell? ⟨E.r,0,none⟩=some (.string E.s)∧w'.cell? ⟨E.r,1,none⟩=some (.int .i64 P2)∧w'.rangeAt w.heap.size 0 (aX S)) (by rfl) ⟨(hI5.drewN 1).c0,(hI5.drewN 1).c1,BB.dK (hI5.drewN 1).b1⟩ fun hS=> ?_
       refine aD 0 84 (.pointer (some ⟨E.r,0,none⟩)) rfl rfl (by kernel_rfl) (by kernel_rfl) (by kernel_rfl) (fun _ _ _ h=>h) (PN ⟨by rfl,fun w' hS'=> ?_⟩) hS ?_
       ·obtain⟨h1,h2,h3⟩:=hS';go_simp
       simp only[IN,zq0];refine aD 1 85 (.pointer (some ⟨E.r,0,none⟩)) rfl rfl (by kernel_rfl) (by kernel_rfl) (by kernel_rfl) (fun _ _ _ h=>h) (PN ⟨by rfl,fun w' hS'=> ?_⟩) hS ?_
       ·obtain⟨h1,h2,h3⟩:=hS';go_simp
       simp only[IN,zq0];refine aD 2 86 (.pointer (some ⟨E.r,0,none⟩)) rfl rfl (by kernel_rfl) (by kernel_rfl) (by kernel_rfl) (fun _ _ _ h=>h) (PN ⟨by rfl,fun w' hS'=> ?_⟩) hS ?_
       ·obtain⟨h1,h2,h3⟩:=hS';go_simp
       simp only[IN,zq0];refine aD 3 87 (.string E.s) rfl rfl (by kernel_rfl) (by kernel_rfl) (by kernel_rfl) (fun _ _ _ h=>h) (PN ⟨by rfl,fun w' hS'=> ?_⟩) hS ?_
       ·obtain⟨h1,h2,h3⟩:=hS';go_simp
       simp only[IN,zq0];refine aD 4 88 (.pointer (some ⟨E.r,0,none⟩)) rfl rfl (by kernel_rfl) (by kernel_rfl) (by kernel_rfl) (fun _ _ _ h=>h) (PN ⟨by rfl,fun w' hS'=> ?_⟩) hS ?_
       ·obtain⟨h1,h2,h3⟩:=hS';go_simp
       simp only[IN,zq0];refine aD 5 89 (.pointer (some ⟨E.r,0,none⟩)) rfl rfl (by kernel_rfl) (by kernel_rfl) (by kernel_rfl) (fun _ _ _ h=>h) (PN ⟨by rfl,fun w' hS'=> ?_⟩) hS ?_
       ·obtain⟨h1,h2,h3⟩:=hS';go_simp
       simp only[IN,zq0];refine aD 6 90 (.pointer (some ⟨E.r,1,none⟩)) rfl rfl (by kernel_rfl) (by kernel_rfl) (by kernel_rfl) (fun _ _ _ h=>h) (PN ⟨by rfl,fun w' hS'=> ?_⟩) hS ?_
       ·obtain⟨h1,h2,h3⟩:=hS';go_simp
       simp only[IN,zq0];refine aD 7 91 (.int .i64 P2) rfl rfl (by kernel_rfl) (by kernel_rfl) (by kernel_rfl) (fun _ _ _ h=>h) (PN ⟨by rfl,fun w' hS'=> ?_⟩) hS ?_
       ·obtain⟨h1,h2,h3⟩:=hS';go_simp
       simp only[IN,zq0];refine aD 8 92 (.int .i64 P3) rfl rfl (by kernel_rfl) (by kernel_rfl) (by kernel_rfl) (fun _ _ _ h=>h) (PN ⟨by rfl,fun w' hS'=> ?_⟩) hS ?_
       ·obtain⟨h1,h2,h3⟩:=hS';go_simp
        rw[Qv];omega
       simp only[IN,zq0];refine aD 9 93 (.int .i64 k) rfl rfl (by kernel_rfl) (by kernel_rfl) (by kernel_rfl) (fun _ _ _ h=>h) (PN ⟨by rfl,fun w' hS'=> ?_⟩) hS ?_
       ·obtain⟨h1,h2,h3⟩:=hS';go_simp
       simp only[IN,zq0];refine aD 10 94 (.string (E.s.extract P3 k)) rfl rfl (by kernel_rfl) (by kernel_rfl) (by kernel_rfl) (fun _ _ _ h=>h) (PN ⟨by rfl,fun w' hS'=> ?_⟩) hS ?_
       ·obtain⟨h1,h2,h3⟩:=hS';go_simp
       simp only[IN,zq0];refine aD 11 95 (.agg (aX S).toArray) rfl rfl (by kernel_rfl) (by kernel_rfl) (by kernel_rfl) (fun _ _ _ h=>h) (yieldsIf_load_mid (by rfl) _ _ rfl _ _ rfl _ _ (fun w' hS'=>hS'.2.2) wh rfl (by rw[dX];exact li)) hS ?_;simp only[IN,zq0];refine wpAnyH_ready (rs:=[12,16]) (by kernel_rfl) (by simp) (AllReadyH.cons rfl ?_ (AllReadyH.cons rfl ?_ AllReadyH.nil))
       ·intro K' hK';rw[if_pos (by rfl)];refine yU 96 rfl 177 #[.string (E.s.extract P3 k),.agg (aX S).toArray] (by go_simp) _ _ (hcall.out _) ?_;intro w3 hO3;have hIw3:=(hI5.drewN 1).old hO3;refine hK'.out _ _ hIw3.jf fun hS3=> ?_
        simp only[IN,zq0];refine aD 13 83 (.tuple #[.agg (aX T).toArray,.bool ok]) rfl rfl (by kernel_rfl) (by kernel_rfl) (by kernel_rfl) (fun _ _ _ h=>h) (PN ⟨by rfl,fun w' hS'=> ?_⟩) hS3 ?_
        ·go_simp
        simp only[IN,zq0];refine aD 14 97 (.agg (aX T).toArray) rfl rfl (by kernel_rfl) (by kernel_rfl) (by kernel_rfl) (fun _ _ _ h=>h) (PN ⟨by rfl,fun w' hS'=> ?_⟩) hS3 ?_
        ·go_simp
        simp only[IN,zq0];refine aD 15 98 (.bool ok) rfl rfl (by kernel_rfl) (by kernel_rfl) (by kernel_rfl) (fun _ _ _ h=>h) (PN ⟨by rfl,fun w' hS'=> ?_⟩) hS3 ?_
        ·go_simp
        simp only[IN,zq0];refine dY 16 rfl rfl (by kernel_rfl) ?_;refine Cf 8 rfl (.pointer (some ⟨w3.heap.size,0,none⟩)) (w3.alloc (.cells Tryz.zeroCells147 147)) (by go_simp) ?_;have hg:Old w3 (w3.alloc (.cells Tryz.zeroCells147 147)):=(Old.refl w3).alloc _;have hIw4:=hIw3.old hg;refine⟨hIw4.jf,?_⟩;simp only[IN,zq0];have hBn:BB (w3.alloc (.cells Tryz.zeroCells147 147)) w3.heap.size 147 [] az []:=by
         unfold BB;rw[PG,BY,qj];exact ac.new w3 _ _
        have hnb:w.heap.size+1<w3.heap.size:=ac.lt hIw3.b2;refine dY 17 rfl rfl (by kernel_rfl) ?_;refine xq (.tmp 8) (.tmp 97) rfl rfl (w3.heap.size) 0 rfl T rfl (BB.gW hBn) ?_;have hIw6:=hIw4.cells (nb:=w3.heap.size) hnb 0 (aX T);refine⟨hIw6.jf,?_⟩;refine dY 18 rfl rfl (by kernel_rfl) ?_;refine mZ (.tmp 98) rfl 9 rfl (.bool ok) rfl ?_;refine⟨hIw6.jf,?_⟩;refine wpAnyH_done (by kernel_rfl) ?_ _;refine QA ?_;simp only[IN,zq0];go_wp2_with fail
        go_meet
        case rel=>exact⟨_,rfl,rfl,hIw6,BB.jM hBn T,hnb⟩
       ·intro K' hK';rw[if_pos (by rfl)];refine Cf 8 rfl (.pointer (some ⟨wc.heap.size,0,none⟩)) (wc.drew.alloc (.cells Tryz.zeroCells147 147)) (by go_simp) ?_;have hg:Old wc (wc.drew.alloc (.cells Tryz.zeroCells147 147)):=((Old.refl wc).drewN 1).alloc _;have hIw4:=hI5.old hg;refine hK'.out _ _ hIw4.jf fun hS4=> ?_
        simp only[IN,zq0];have hBn:BB (wc.drew.alloc (.cells Tryz.zeroCells147 147)) wc.heap.size 147 [] az []:=by
         unfold BB;rw[PG,BY,qj];exact ac.new wc.drew _ _
        have hnb:w.heap.size+1<wc.heap.size:=ac.lt hI5.b2;refine dY 12 rfl rfl (by kernel_rfl) ?_;refine yU 96 rfl 177 #[.string (E.s.extract P3 k),.agg (aX S).toArray] (by go_simp) _ _ (hcall.out _) ?_;intro w3 hO3;have hIw5:=hIw4.old hO3;have hBn3:BB w3 wc.heap.size 147 [] az []:=ac.old hBn hO3;refine⟨hIw5.jf,?_⟩;simp only[IN,zq0];refine aD 13 83 (.tuple #[.agg (aX T).toArray,.bool ok]) rfl rfl (by kernel_rfl) (by kernel_rfl) (by kernel_rfl) (fun _ _ _ h=>h) (PN ⟨by rfl,fun w' hS'=> ?_⟩) hIw5.jf ?_
        ·go_simp
        simp only[IN,zq0];refine aD 14 97 (.agg (aX T).toArray) rfl rfl (by kernel_rfl) (by kernel_rfl) (by kernel_rfl) (fun _ _ _ h=>h) (PN ⟨by rfl,fun w' hS'=> ?_⟩) hIw5.jf ?_
        ·go_simp
        simp only[IN,zq0];refine aD 15 98 (.bool ok) rfl rfl (by kernel_rfl) (by kernel_rfl) (by kernel_rfl) (fun _ _ _ h=>h) (PN ⟨by rfl,fun w' hS'=> ?_⟩) hIw5.jf ?_
        ·go_simp
        simp only[IN,zq0];refine dY 17 rfl rfl (by kernel_rfl) ?_;refine xq (.tmp 8) (.tmp 97) rfl rfl (wc.heap.size) 0 rfl T rfl (BB.gW hBn3) ?_;have hIw6:=hIw5.cells (nb:=wc.heap.size) hnb 0 (aX T);refine⟨hIw6.jf,?_⟩;refine dY 18 rfl rfl (by kernel_rfl) ?_;refine mZ (.tmp 98) rfl 9 rfl (.bool ok) rfl ?_;refine⟨hIw6.jf,?_⟩;refine wpAnyH_done (by kernel_rfl) ?_ _;refine QA ?_;simp only[IN,zq0];go_wp2_with fail
        go_meet
        case rel=>exact⟨_,rfl,rfl,hIw6,BB.jM hBn3 T,hnb⟩
      case rest=>
       obtain⟨nb,rfl,rfl,h4,h9,hnb⟩:=hcut;clear hI5 hcall;obtain⟨P4,hi⟩:∃P4:Nat,P4=k+2:=⟨_,rfl⟩;have hP4e:(k:Int)+2=(P4:Int):=by omega
       have hP4s:(P4:Int)≤E.s.size:=by omega
       replace hi:=AI hi;replace hitem:=hitem.out;rw[hn.out]at hitem;cases ok
       ·rw[if_neg (by simp)]at hitem;replace hitem:=AI hitem;have ho:=h9;have hq:=h4.kr;go_upto_region 11 with fail
        go_wp2_with fail
        refine(sN 5 p (hh.out.kr h4.kr h4.rb)).mono ?_;rintro e w7 ⟨rfl,hK7,h5⟩;have ha:ac w7 E.r 123 (rj E P2 5 p):=h5;have hb1:BB w7 (w.heap.size+1) 147 [] az []:=ac.kr h4.b2 hK7 (by omega);have h7:BB w7 nb 147 [] T []:=ac.kr h9 hK7 (by omega);have hK:=h4.kr.trans hK7;have c1:w7.cell? ⟨E.r,1,none⟩=some (.int .i64 P2):=ha.cell 1;have f:=ha.frozen;have hst:ac (w7.setCell ⟨E.r,1,none⟩ (.int .i64 (P4:Int))) E.r 123 (rj E P4 5 p):=ha.ci 1 _;have hst2:KR E w (w7.setCell ⟨E.r,1,none⟩ (.int .i64 (P4:Int))):=hK.setCell (.inr rfl) _;have hc:BB (w7.setCell ⟨E.r,1,none⟩ (.int .i64 (P4:Int))) (w.heap.size+1) 147 [] az []:=ac.far hb1 (by dsimp only;omega) _;have hj:BB (w7.setCell ⟨E.r,1,none⟩ (.int .i64 (P4:Int))) nb 147 [] T []:=ac.far h7 (by dsimp only;omega) _;replace hst:=AI hst;replace hst2:=AI hst2;replace hc:=AI hc;replace hj:=AI hj;clear hb1 h7 hK ha h5 hK7 h4 h9 ho hq;go_wp2_with fail
        refine eC (.tmp 8) rfl 109 rfl nb 0 rfl T (BB.dK hj.out) ?_;simp only[IN,zq0];have r1:=dz (b:=w.heap.size+1) (off:=0) (S:=T) (BB.gW hc.out);go_wp2_with fail
        try simp only[PX,Exit.then]
        refine bodyPost_ret (eM (b:=w.heap.size+1) (S:=T) rfl ?_ ?_) rfl ?_
        ·rfl
        ·exact BB.dK (BB.jM hc.out T)
        rw[hitem.out];exact⟨T,P4,rfl,by omega,hst2.out.setCells (PV _) _ _,ac.cells hst.out (by omega) _ _⟩
       ·rw[if_pos rfl]at hitem;replace hitem:=AI hitem;have f:=h4.rb.frozen;have c1:=h4.c1;have hst:=h4.move (p3:=P4) hlt;have hk:BB (wc.setCell ⟨E.r,1,none⟩ (.int .i64 (P4:Int))) nb 147 [] T []:=ac.far h9 (by dsimp only;omega) _;replace hst:=AI hst;replace hk:=AI hk;clear h4 h9;go_wp2_with fail
        refine eC (.tmp 8) rfl 109 rfl nb 0 rfl T (BB.dK hk.out) ?_;simp only[IN,zq0];have r1:=dz (b:=w.heap.size+1) (off:=0) (S:=T) (BB.gW hst.out.b2);go_wp2_with fail
        try simp only[PX,Exit.then]
        refine bodyPost_ret (eM (b:=w.heap.size+1) (S:=T) rfl ?_ ?_) rfl ?_
        ·rfl
        ·exact BB.dK (BB.jM hst.out.b2 T)
        rw[hitem.out];have hpk:p+(k+2-p)=P4:=by have:=hi.out;omega
        exact⟨rfl,hst.out.kr.setCells (PV _) _ _,by rw[hpk];exact ac.cells hst.out.rb (by omega) _ _⟩
     ·obtain hf:E.s[P2].toNat≠58∨kI<0:=by
       by_cases h:E.s[P2].toNat=58
       ·exact .inr (by simpa[h]using h6)
       ·exact .inl h
      have hcl:=FJ (S:=S) hP2.out hP3p.out hl (hf.imp id fun h=>by rw[h8];exact h);replace hitem:=hitem.out;rw[hcl]at hitem;replace hitem:=AI hitem;clear hcl hf h6 h8;go_wp2_with fail
      refine(sN 5 p (hh.out.kr hI5.kr hI5.rb)).mono ?_;rintro e w7 ⟨rfl,hK7,h5⟩;replace h5:ac w7 E.r 123 (rj E P2 5 p):=h5;have hb1:BB w7 (w.heap.size+1) 147 [] az []:=ac.kr hI5.b2 hK7 (by omega);have h7:BB w7 w.heap.size 147 [] S []:=ac.kr hI5.b1 hK7 (by omega);have hK:=hI5.kr.trans hK7;replace hb1:=AI hb1;replace h7:=AI h7;replace hK:=AI hK;replace h5:=AI h5;clear hI5 hK7;go_wp2_with fail
      refine eC (.tmp 3) rfl 82 rfl _ 0 rfl S (BB.dK h7.out) ?_;simp only[IN,zq0];have r1:=dz (b:=w.heap.size+1) (off:=0) (S:=S) (BB.gW hb1.out);go_wp2_with fail
      try simp only[PX,Exit.then]
      refine bodyPost_ret (eM (b:=w.heap.size+1) (S:=S) rfl ?_ ?_) rfl ?_
      ·rfl
      ·exact BB.dK (BB.jM hb1.out S)
      rw[hitem.out];exact⟨S,P2,rfl,by omega,hK.out.setCells (PV _) _ _,ac.cells h5.out (by omega) _ _⟩
theorem FF{E:RE}{w:AS}{p:Nat}{n:List (List AT)}{g a:Int}(S:an)(hp:p<E.s.size)(hs:E.s.size≤1000)(h:RD E w p g 0 a n):
 Calls PH 164 #[.pointer (some ⟨E.r,0,none⟩),.agg (aX S).toArray] w (yO E w n g a p (kg S E.s[p] (E.l.drop (p+1)))):=by
 cases hb:lS E.s p
 ·exact FD S hb hp hs h
 ·exact FE S hb hp hs h
end
section
open Go.RowKit
structure Fits(E:RE)(w:AS)(ns:List (List AT))(p:Nat)(g a d:Int)(c:Nat):Prop where
 rd:RD E w p g 0 a ns
 le:p≤E.s.size
 g0:0≤g
 g9:g≤9
 d0:0≤d
 dg:d≤g
 room:(ns.length:Int)+4*((E.s.size:Int)-p)+4*(10-g)+c<1000000
def AX(E:RE)(R:Int→jO→Option (df Nd)):Prop:=∀w ns p g a d n x,Fits E w ns p g a d 2→R d ⟨p,n,g⟩=some x→Calls PH 43 #[.pointer (some ⟨E.r,0,none⟩),.int .i64 d] w (cG E w ns p g a 2 x)
def AY(E:RE)(R:Int→jO→Option (df Nd)):Prop:=∀w ns p g a d n x,Fits E w ns p g a d 1→R d ⟨p,n,g⟩=some x→Calls PH 57 #[.pointer (some ⟨E.r,0,none⟩),.int .i64 d] w (cG E w ns p g a 1 x)
def xn(s:ByteArray)(p:Nat):Prop:=p<s.size∧fF s p≠124∧fF s p≠41
def jN(s:ByteArray)(p:Nat):Prop:=fF s p=42∨fF s p=43∨fF s p=63∨fF s p=123
def AV(E:RE)(R:Int→jO→Option (df Nd)):Prop:=∀w ns p g a d n x b,Fits E w ns p g a d 0→xn E.s p→¬ jN E.s p→R d ⟨p,n,g⟩=some x→Calls PH 97 #[.pointer (some ⟨E.r,0,none⟩),.int .i64 d,.bool b] w fun e w'=>cG E w ns p g a 0 x e w'∧∀nd s,x= .ok nd s→p<s.p
def AZ(E:RE)(R:Int→jO→Option (df Nd)):Prop:=∀w ns p g a d n x,Fits E w ns p g a d 0→xn E.s p→¬ jN E.s p→R d ⟨p,n,g⟩=some x→Calls PH 123 #[.pointer (some ⟨E.r,0,none⟩),.int .i64 d] w fun e w'=>cG E w ns p g a 0 x e w'∧∀nd s,x= .ok nd s→p<s.p
def AW(E:RE)(R:Int→jO→Option (df Nd)):Prop:=∀w ns p q g a d n x,q=p+1→Fits E w ns q g a d 4→fF E.s p=40→R d ⟨p,n,g⟩=some x→Calls PH 148 #[.pointer (some ⟨E.r,0,none⟩),.int .i64 p,.int .i64 d] w (cG E w ns q g a 4 x)
def fG(E:RE)(w0 w:AS)(ns:List (List AT))(v:AT)(nds:List Nd):Prop:=
 ∃ks:List Nat,lX w0.heap.size w (fun _=>True) v ks∧gO E.B w ns (fun b=>w0.heap.size≤b∧v.ownBlock≠some b) ks nds
theorem fG.start(E:RE)(w:AS)(ns:List (List AT)):fG E w w ns Ip []:=⟨[],⟨World.ownsRow_nil w _ _ _,fun _ _=>trivial⟩,.nil⟩
theorem fG.keep{E:RE}{w0 w w':AS}{ns:List (List AT)}{v:AT}{nds:List Nd}(h:fG E w0 w ns v nds)(hk:∀A,eT w w' A)(ms:List (List AT)):fG E w0 w' (ns++ms) v nds:=by
 obtain⟨ks,h1,h2⟩:=h;exact⟨ks,h1.keep (hk _) fun _ _ _=>trivial,h2.keep ms (hk _) fun _ _ h=>h⟩
theorem fG.lt{E:RE}{w0 w:AS}{ns:List (List AT)}{v:AT}{nds:List Nd}(h:fG E w0 w ns v nds){b:Nat}(hb:v.ownBlock=some b):w0.heap.size≤b∧b<w.heap.size:=by
 obtain⟨ks,h1,h2⟩:=h;exact h1.1.lt b hb
theorem fG.grow{E:RE}{w0 w w1 w2:AS}{ns:List (List AT)}{v:AT}{nds:List Nd}{nd:Nd}{k gg cap:Nat}{ks:List Nat}
 (h1:gO E.B w ns (fun b=>w0.heap.size≤b∧v.ownBlock≠some b) ks nds) (hn:gQ E.B w ns (fun b=>w0.heap.size≤b∧v.ownBlock≠some b) k nd) (h0:Old w w1)
 (ho:w2.ownsRow w0.heap.size 3 1 (.slice (some ⟨gg,0,none⟩) (ks.length+1:Nat) cap) (ks.length+1) ((ks.map fun(k:Nat)=>Qe .i64 (k:Int))++[.int .i64 (k:Int)])) (hg:w1.grownBy w2 v.ownBlock) (ha:v.ownBlock=some gg∨gg=w1.heap.size):
 fG E w0 w2 ns (.slice (some ⟨gg,0,none⟩) (ks.length+1:Nat) cap) (nds++[nd]):=by
 refine⟨ks++[k],⟨?_,fun _ _=>trivial⟩,?_⟩
 ·have e1:(ks++[k]).length=ks.length+1:=by simp
  have e2:((ks++[k]).map fun(k:Nat)=>Qe .i64 (k:Int))=(ks.map fun(k:Nat)=>Qe .i64 (k:Int))++[.int .i64 (k:Int)]:=by simp
  rw[e1,e2];exact ho
 ·have h2:=(h1.snoc hn).keep [] (h0.gU _) (A':=fun b=>b<w1.heap.size∧w0.heap.size≤b∧v.ownBlock≠some b) fun b hb hx=>⟨PO hb h0.size,hx⟩
  rw[BY]at h2;have h3:=h2.keep (w':=w2) [] (fun b c z hb he=>hg.block b hb.1 fun e=>hb.2.2 e.symm) (A':=fun b=>w0.heap.size≤b∧(Value.slice (some ⟨gg,0,none⟩) (ks.length+1:Nat) cap).ownBlock≠some b) fun b hb hx=>⟨hx.2.1,fun e=>by
   have:gg=b:=by simpa[Q8]using e
   subst this;rcases ha with ha|ha
   ·exact hx.2.2 ha
   ·omega⟩
  rw[BY]at h3;exact h3
theorem MZ:PH.underlying 58=some (.slice 3):=by kernel_rfl
theorem N1:(PH.info? 3).map (fun i=>(i.zero,i.size,i.bytes))=some (some (.int .i64 0),1,8):=by kernel_rfl
theorem gV{ops:Array Oper}{rest:List Oper}{o:Oper}{a:Act}{w:AS}{Q:Exit→Act→AS→Prop}(s x:Qu)(ho:o.op= .call {callee:=.builtin .append,args:=#[s,x],argTypes:=#[58,58]})(hg:o.guard=none)(d:Tmp)(hd:o.dst=some d)
 (base:Nat) (v:AT) (n:Nat) (xs:List AT) (hs:a.eval s=v) (hown:w.ownsRow base 3 1 v n xs) (b:Nat) (u:AT) (hx:a.eval x= .slice (some ⟨b,0,none⟩) 1 1) (hb:w.cell? ⟨b,0,none⟩=some u) (hu:u.oneCell'=true) (hn:n<1000000) (h0:base≤w.heap.size)
 (h:∀g cap w',w'.ownsRow base 3 1 (.slice (some ⟨g,0,none⟩) (n+1:Nat) cap) (n+1) (xs++[u])→w.grownBy w' v.ownBlock→(v.ownBlock=some g∨g=w.heap.size)→g<w'.heap.size→wpList PH ops Q rest (a.put (some d) (.slice (some ⟨g,0,none⟩) (n+1:Nat) cap)) w'):wpList PH ops Q (o::rest) a w:=by
 obtain⟨i0,hi0,hz0,h5,h6⟩:=info_parts N1;refine wpList_plain hg fun K hK=> ?_
 refine uO s x _ ho d hd base 3 i0 _ 1 8 MZ hi0 hz0 h5 h6 (by rfl) (by decide) v n xs hs hown ⟨b,0,none⟩ [u] hx (by rfl) ?_ ?_ (by simp only[maxLen];omega) (by omega) h0 _ rfl fun g cap w' h1 h2 h3 h4=>hK _ _ (h g cap w' h1 h2 h3 h4)
 ·intro j u' hj;match j,hj with
  |0,hj=>
   obtain rfl:u=u':=by simpa using hj
   exact hb
  |j+1,hj=>simp at hj
 ·intro u' h7;obtain rfl:=PP.1 h7;exact hu
theorem fJ{E:RE}{w:AS}{p:Nat}{n:List (List AT)}{g k a:Int}(l:List AT)(kind num le mo:Int)(v:AT)(hl:l=ez kind (aX az) v num le mo)(hv:v.oneCell'=true)(hn:n.length<1000000)(h:RD E w p g k a n):
 Calls PH 59 #[.pointer (some ⟨E.r,0,none⟩),.agg l.toArray] w fun e w'=>e= .returned (.int .i64 n.length)∧RK E w w'∧RD E w' p g k a (n++[ez kind (aX az) v num le mo]):=by
 subst hl;exact qN _ (j5 ..) (qc _ _ _ _ _ _ hv) hn h
theorem RD.grown{E:RE}{w w':AS}{p:Nat}{g k a:Int}{n:List (List AT)}{B m:Nat}{v:AT}{xs:List AT}(h:RD E w p g k a n)(ho:w.ownsRow B 3 1 v m xs)(hg:w.grownBy w' v.ownBlock):RD E w' p g k a n:=by
 have hne:∀b(c:Array AT)(t:PK)(z:Nat×Nat),w.heap[b]?=some (Obj.cells c t z)→t≠3→w'.heap[b]?=w.heap[b]?:=fun b c t z hc ht=>hg.block b (PJ.1 hc).1 (by
  intro e;rcases ho.2 with⟨rfl,_⟩|⟨q,cap,cur,rfl,_,h5,_⟩
  ·cases e
  ·obtain rfl:b=q:=by simpa[Q8]using e
   have:=hc.symm.trans h5;simp only[Option.some.injEq,Obj.cells.injEq]at this;exact ht this.2.1)
 obtain⟨sl,xs',root,h1,h2,h3⟩:=h.xb;refine⟨(hne _ _ _ _ h.rb (by decide)).trans h.rb,⟨sl,xs',root,(hne _ _ _ _ h1 (by decide)).trans h1,⟨h2.1,?_⟩,h3⟩,h.lo⟩;rcases h2.2 with h4|⟨q,cap,cur,h4,h5,h6,h7⟩
 ·exact .inl h4
 ·exact .inr ⟨q,cap,cur,h4,h5,(hne _ _ _ _ h6 (by decide)).trans h6,h7⟩
theorem RK.grown{E:RE}{w0 w w':AS}{row:Option Nat}(h:RK E w0 w)(hg:w.grownBy w' row)(hr:∀b,row=some b→w0.heap.size≤b):RK E w0 w':=
 ⟨hg.os.trans h.os,hg.output.trans h.out,PL h.size hg.size,fun b hb hc=>(hg.block b (PO hb h.size) fun e=>by have:=hr b e.symm;omega).trans (h.old b hb hc)⟩
def posR(E:RE)(w:AS):Nat:=match w.cell? ⟨E.r,1,none⟩with
 |some (.int _ i)=>i.toNat
 |_=>0
theorem RD.pos{E:RE}{w:AS}{p:Nat}{g k a:Int}{n:List (List AT)}(h:RD E w p g k a n):posR E w=p:=by
 have:w.cell? ⟨E.r,1,none⟩=some (.int .i64 p):=h.rb.cell 1;unfold posR;rw[this];simp
theorem j3{α β:Type}{x:Option (df α)}{f:α→jO→Option (df β)}{y:df β}(h:kO x f=some y):(∃k a,x=some (.err k a)∧y= .err k a)∨∃a s,x=some (.ok a s)∧f a s=some y:=by
 unfold kO at h;split at h
 ·cases h
 ·cases h;exact .inl ⟨_,_,rfl,rfl⟩
 ·exact .inr ⟨_,_,rfl,h⟩
theorem tb{E:RE}{ln fold:Bool}{q:Nat}{y:dF}(h:bG ln fold E.l q=some y):
 (y.t.kind=6↔jr E.s 0 q 124=true)∧(y.t.kind=5↔jr E.s 0 q 41=true)∧(y.t.kind=0↔¬ q<E.s.size)∧(y.t.kind=7↔jN E.s q):=by
 by_cases hq:q<E.s.size
 ·have hk:=Do (fE hq) h;have h1:∀c,jr E.s 0 q c=true↔E.s[q].toNat=c:=fun c=>by rw[lM hq,decide_eq_true_eq]
  refine⟨by rw[hk.k6,h1],by rw[hk.k5,h1],⟨fun h=>absurd h hk.k0,fun h=>absurd hq h⟩,?_⟩;unfold jN;rw[cN hq,hk.k7]
 ·rw[Fx (oU hq)]at h;cases h;have h1:∀c,c<256→(jr E.s 0 q c=true)=False:=fun c hc=>by rw[tc hc hq];simp
  have h2:fF E.s q=256:=by unfold fF;rw[dif_neg hq]
  refine⟨?_,?_,?_,?_⟩
  ·rw[h1 _ (by decide)];exact⟨fun h=>by(cases h),False.elim⟩
  ·rw[h1 _ (by decide)];exact⟨fun h=>by(cases h),False.elim⟩
  ·exact⟨fun _=>hq,fun _=>rfl⟩
  ·unfold jN;rw[h2];exact⟨fun h=>by(cases h),fun h=>by omega⟩
theorem cG.err{E:RE}{w w':AS}{ns ms:List (List AT)}{p c p' k:Nat}{g a g' k' a':Int}(hK:RK E w w')(hk:k'≠0)(hR:RD E w' p' g' k' a' (ns++ms))(h1:(p':Int)≤E.s.size+10-g)(h2:(ms.length:Int)≤4*((E.s.size:Int)-p)+4*(10-g)+c):cG E w ns p g a c (.err k' a') (.returned (.int .i64 k)) w':=
 ⟨hK,k,ms,rfl,hk,p',g',hR,h1,h2⟩
theorem cG.ok{E:RE}{w w':AS}{ns ms:List (List AT)}{p c k:Nat}{g a:Int}{nd:Nd}{s:jO}(hK:RK E w w')(hR:RD E w' s.p s.g 0 a (ns++ms))(h1:p≤s.p)(h2:s.p≤E.s.size)(h3:g≤s.g)(h4:s.g≤9)(h5:ms.length≤4*(s.p-p)+c)(h6:gQ E.B w' (ns++ms) (fun b=>w.heap.size≤b) k nd):cG E w ns p g a c (.ok nd s) (.returned (.int .i64 k)) w':=
 ⟨hK,k,ms,rfl,hR,h1,h2,h3,h4,h5,h6⟩
theorem fG.apart{E:RE}{w0 w w':AS}{ns ms:List (List AT)}{v:AT}{nds:List Nd}{k:Nat}{nd:Nd}(h:fG E w0 w ns v nds)(hs:w0.heap.size≤w.heap.size)(hn:gQ E.B w' ms (fun b=>w.heap.size≤b) k nd):gQ E.B w' ms (fun b=>w0.heap.size≤b∧v.ownBlock≠some b) k nd:=by
 have:=hn.keep (w':=w') [] (fun _ _ _ _ _=>rfl) (A':=fun b=>w0.heap.size≤b∧v.ownBlock≠some b) fun b _ hb=>⟨PL hs hb,fun e=>by have:=(h.lt e).2;omega⟩
 rwa [BY]at this
theorem fG.done{E:RE}{w0 w:AS}{ns:List (List AT)}{v:AT}{nds:List Nd}(h:fG E w0 w ns v nds)(hB:E.B≤w0.heap.size):∃ks,lX E.B w (fun b=>w0.heap.size≤b) v ks∧gO E.B w ns (fun b=>w0.heap.size≤b) ks nds:=by
 obtain⟨ks,h1,h2⟩:=h;refine⟨ks,⟨⟨h1.1.1,?_⟩,fun b hb=>(h1.1.lt b hb).1⟩,?_⟩
 ·rcases h1.1.2 with h3|⟨g,cap,cur,h3,h4,h5⟩
  ·exact .inl h3
  ·exact .inr ⟨g,cap,cur,h3,PL hB h4,h5⟩
 ·have:=h2.keep (w':=w) [] (fun _ _ _ _ _=>rfl) (A':=fun b=>w0.heap.size≤b) fun b _ hb=>hb.1
  rwa [BY]at this
theorem fG.nil{E:RE}{w0 w:AS}{ns:List (List AT)}{v:AT}{nds:List Nd}(h:fG E w0 w ns v nds)(B:Nat):w.ownsRow w0.heap.size 3 1 v nds.length (h.choose.map fun(k:Nat)=>Qe .i64 (k:Int)):=by
 have:=h.choose_spec;rw[← this.2.len];exact this.1.1
theorem ig(n:List (List AT))(l:List AT):(n++[l])[n.length]?=some l:=by simp
theorem eT.dN{E:RE}{w:AS}{p:Nat}{g k a:Int}{n:List (List AT)}(hd:RD E w p g k a n)(i:Nat)(v:AT)(A:Nat→Prop):eT w (w.setCell ⟨E.r,i,none⟩ v) A:=fun b c z _ hb=>Below.heap_setCell _ _ _ b (by
 dsimp only;rintro rfl;have:=hd.rb.symm.trans hb;simp at this)
theorem eT.drewN(w:AS)(m:Nat)(A:Nat→Prop):eT w (w.drewN m) A:=fun _ _ _ _ _=>rfl
end
section
open Go.RowKit
section
variable{E:RE}{ln fold:Bool}
theorem fG.form{w0 w:AS}{ns:List (List AT)}{v:AT}{nds:List Nd}(h:fG E w0 w ns v nds):∃ad cap,v= .slice ad nds.length cap:=by
 obtain⟨ks,h1,h2⟩:=h;rw[← h2.len];rcases h1.1.2 with⟨h3,h4⟩|⟨g,cap,cur,h3,_⟩
 ·exact⟨none,0,by rw[h3,h4]⟩
 ·exact⟨_,cap,h3⟩
def DV(E:RE)(w:AS):Int:=match w.cell? ⟨E.r,3,none⟩with
 |some (.int _ i)=>i
 |_=>0
theorem RD.kind{w:AS}{p:Nat}{g k a:Int}{n:List (List AT)}(h:RD E w p g k a n):DV E w=k:=by
 have:w.cell? ⟨E.r,3,none⟩=some (.int .i64 k):=h.rb.cell 3;unfold DV;rw[this]
def iK(E:RE)(w:AS):Nat:=if DV E w=0 then E.s.size+2-posR E w else 0
structure JU(E:RE)(ln fold:Bool)(w0:AS)(ns:List (List AT))(p:Nat)(g a d id:Int)(F:Nat)(x:df Nd)(v:AT)(wr:AS):Prop where
 st:∃(ms:List (List AT))(q:Nat)(g' k' a':Int),RD E wr q g' k' a' (ns++ms)∧
  (
   (k'=0∧a'=a∧p≤q∧q≤E.s.size∧g≤g'∧g'≤9∧ms.length≤4*(q-p)∧∃nds,fG E w0 wr (ns++ms) v nds∧nds.length≤q-p∧∃n' f',f'≤F∧nk ln fold E.l f' d id nds ⟨q,n',g'⟩=some x)∨
   (k'≠0∧x= .err k' a'∧(q:Int)≤E.s.size+10-g∧(ms.length:Int)≤4*((E.s.size:Int)-p)+4*(10-g)∧∃ad len cap,v= .slice ad len cap))
 rk:RK E w0 wr
def oK(s:ByteArray)(q:Nat):Bool:=decide (fF s q=256)||decide (fF s q=124)||decide (fF s q=41)
theorem Hz{q:Nat}(hq:q≤E.s.size)(h:oK E.s q=false):xn E.s q:=by
 unfold oK at h;simp only[Bool.or_eq_false_iff,decide_eq_false_iff_not]at h;refine⟨?_,h.1.2,h.2⟩;rcases Q9 q E.s.size with h1|h1
 ·exact h1
 ·exact absurd (by unfold fF;rw[dif_neg (by omega)]) h.1.1
set_option maxRecDepth 10000 in
set_option maxHeartbeats 4000000 in
theorem BO(hs:E.s.size≤1000)(F:Nat)(hP:∀f<F,AV E (o8 ln fold E.l f))(hBad:∀w ns p g a d b,RD E w p g 0 a ns→p<E.s.size→jN E.s p→Calls PH 97 #[.pointer (some ⟨E.r,0,none⟩),.int .i64 d,.bool b] w fun e w'=>e= .returned (.int .i64 0)∧RK E w w'∧RD E w' p g 8 p ns):AY E (sj ln fold E.l F):=by
 intro w ns p g a d n x hF hx;cases F with
 |zero=>cases hx
 |succ F=>
 have hx':nk ln fold E.l F d (n+1) [] ⟨p,n+1,g⟩=some x:=hx;clear hx;have hlo:=hF.rd.lo;have hA:JU E ln fold w ns p g a d (n+1) F x (.slice none 0 0) w:=⟨⟨[],p,g,0,a,by rw[BY];exact hF.rd,.inl ⟨rfl,rfl,OF _,hF.le,PR _,hF.g9,by simp,[],by rw[BY];exact fG.start E w ns,by simp,n+1,F,OF _,hx'⟩⟩,RK.refl E w⟩;have hroom:=hF.room;have hd0:=hF.d0;have hdg:=hF.dg;have hg0:=hF.g0;have hg9:=hF.g9;have hlt:=hF.rd.rb.lt;replace hA:=AI hA;replace hP:=AI hP;replace hBad:=AI hBad;clear hx' hF;go_enter (PH.func Tryz.func57 (by decide)),Tryz.ntmps57
 go_wp2_with fail
 go_loopw [5,6] (fun x5 _ wr=>JU E ln fold w ns p g a d (n+1) F x x5 wr) (fun _ _ wr=>iK E wr)
 case atStart=>exact hA.out
 case round=>
  clear hA;obtain⟨⟨ms,q,g',k',a',hR,hst⟩,hrk⟩:=hrel;have hpos:=hR.pos;have hkd:=hR.kind;have c3:wr.cell? ⟨E.r,3,none⟩=some (.int .i64 k'):=hR.rb.cell 3;rcases hst with⟨rfl,rfl,hpq,hq,hgg,hg,hms,nds,hK,hnq,n',f',hf',hx⟩|⟨hk0,hi,hqe,hme,ad,len,cap,rfl⟩
  ·obtain⟨ad,cap,rfl⟩:=hK.form;have c0:wr.cell? ⟨E.r,0,none⟩=some (.string E.s):=hR.rb.cell 0;have c1:wr.cell? ⟨E.r,1,none⟩=some (.int .i64 q):=hR.rb.cell 1;cases f' with
   |zero=>cases hx
   |succ f'=>
   have hqi:(q:Int)≤E.s.size:=by omega
   generalize hsb:oK E.s q=sb;replace hR:=AI hR;replace hK:=AI hK;replace hrk:=AI hrk;replace hx:=AI hx;go_upto_region 3 with fail
   go_cut [46] (fun s46 wx=>s46= .bool sb∧∃m,wx=wr.drewN m)
   case first=>
    by_cases hl:q<E.s.size
    ·have hl2:(q:Int)<E.s.size:=by omega
     have hl3:((q:Int)==(E.s.size:Int))=false:=by simp;omega
     have hbq:=cN hl;by_cases hj:E.s[q].toNat=124
     ·have ho:(E.s[q].toNat:Int)=124:=by omega
      go_wp2_with fail
      go_quiet (fail)
      go_wp2_with fail
      go_meet
      case rel=>exact⟨by rw[← hsb];unfold oK;rw[hbq];simp[hj],_,rfl⟩
     ·have ho:((E.s[q].toNat:Int)==124)=false:=by simp;omega
      by_cases h41:E.s[q].toNat=41
      ·have hw:(E.s[q].toNat:Int)=41:=by omega
       go_wp2_with fail
       go_quiet (fail)
       go_wp2_with fail
       go_meet
       case rel=>exact⟨by rw[← hsb];unfold oK;rw[hbq];simp[h41],_,rfl⟩
      ·have hw:((E.s[q].toNat:Int)==41)=false:=by simp;omega
       go_wp2_with fail
       go_quiet (fail)
       go_wp2_with fail
       go_meet
       case rel=>exact⟨by rw[← hsb];unfold oK;rw[hbq];simp[h41,hj];have:=E.s[q].toNat_lt;omega,_,rfl⟩
    ·have hl3:(q:Int)=(E.s.size:Int):=by omega
     have hbq:fF E.s q=256:=by unfold fF;rw[dif_neg hl]
     go_wp2_with fail
     go_quiet (fail)
     go_wp2_with fail
     go_meet
     case rel=>exact⟨by rw[← hsb];unfold oK;rw[hbq];simp,_,rfl⟩
   case rest=>
    obtain⟨rfl,m,rfl⟩:=hcut;have hR1:=hR.out.drewN m;have hK1:=hK.out.keep (eT.drewN wr m) [];rw[BY]at hK1;have hrk1:=hrk.out.drewN m;clear hR hK hrk c0 c1 c3;have hx1:=hx.out;unfold nk at hx1;have hown:=fun(b:Nat) hb=>(fG.lt hK1 (b:=b) hb).1
    have hposm:posR E (wr.drewN m)=q:=hR1.pos;have hleft:iK E wr=E.s.size+2-q:=by unfold iK;rw[hkd,if_pos rfl,hpos]
    cases hy:bG ln fold E.l q with
    |none=>rw[hy]at hx1;cases hx1
    |some y=>
    rw[hy]at hx1;dsimp only at hx1;obtain⟨hk6,he,hk00,hk7⟩:=tb hy;cases sb
    ·have hat:=Hz hq hsb;have h6:¬ jr E.s 0 q 124=true:=fun h=>hat.2.1 (by obtain⟨h1,h2⟩:=(jK (by decide)).1 h;rw[cN h1,h2])
     have h5:¬ jr E.s 0 q 41=true:=fun h=>hat.2.2 (by obtain⟨h1,h2⟩:=(jK (by decide)).1 h;rw[cN h1,h2])
     rw[if_neg (by rw[hk6,he,hk00];rintro(h|h|h);exact h hat.1;exact h6 h;exact h5 h)]at hx1;by_cases hrep:jN E.s q
     ·rw[if_pos (hk7.2 hrep)]at hx1;obtain⟨y2,hy2,_,_,_,hsok⟩:=eX ln fold E.l q (by simpa[RE.l]using hq);obtain rfl:y2=y:=Option.some.inj (hy2.symm.trans hy);rw[hsok.atp (by have:=hk7.2 hrep;omega)]at hx1;obtain rfl:df.err 8 q=x:=Option.some.inj hx1;go_upto_if 46 with fail
      go_wp2_with fail
      refine(hBad.out _ _ _ _ _ _ _ hR1 hat.1 hrep).mono ?_;rintro e w1 ⟨rfl,hK2,hR2⟩;obtain⟨ks,hrow,h7⟩:=hK1.keep (hK2.gU hR1) [];have hf:ks.length<1000000:=by have:=h7.len;omega
      have h0:=hrow.1.alloc (.cells #[.int .i64 0] 3);have ha:=hR2.old ((Old.refl w1).alloc (.cells #[.int .i64 0] 3));have h8:=(hrk1.trans hK2).alloc (.cells #[.int .i64 0] 3);replace h0:=AI h0;replace ha:=AI ha;replace h8:=AI h8;replace hown:=AI hown;clear hR1 hK1 hrk1 hK2 hR2 hrow h7 hx hP hBad;go_wp2_with (first |(refine gV (.tmp 53) (.tmp 55) rfl rfl 56 rfl w.heap.size _ ks.length _ rfl h0.out w1.heap.size (.int .i64 0) rfl (by go_simp) rfl hf (by have:=h8.out.size;simpa using this) ?_;intro gg cap2 w2 h1 h2 h3 h4)|fail)
      have hR3:=ha.out.grown h0.out h2;have hK3:=h8.out.grown h2 hown.out;refine⟨⟨⟨ms,q,g',8,q,hR3,.inr ⟨by decide,rfl,by omega,by omega,_,_,_,rfl⟩⟩,hK3⟩,?_⟩;rw[hleft];unfold iK;rw[hR3.kind,if_neg (by decide)];omega
     ·rw[if_neg (fun h=>hrep (hk7.1 h))]at hx1;rcases j3 hx1 with⟨k1,a1,hk,hi⟩|⟨nd,s1,hk,hx2⟩
      ·have hcall:=fun b=>hP.out f' (by omega) (wr.drewN m) (ns++ms) q g' a' d n' _ b ⟨hR1,hq,by omega,hg,hd0,by omega,by simp only[By];omega⟩ hat hrep hk
       replace hcall:=AI hcall;go_upto_if 46 with fail
       go_wp2_with fail
       refine(hcall.out _).mono ?_;rintro e w1 ⟨⟨hK2,k,ms2,rfl,hr,p1,g1,hR2,hp1,hz⟩,_⟩;obtain⟨ks,hrow,h7⟩:=hK1.keep (hK2.gU hR1) ms2;have hf:ks.length<1000000:=by have:=h7.len;omega
       have h0:=hrow.1.alloc (.cells #[.int .i64 (k:Int)] 3);have ha:=hR2.old ((Old.refl w1).alloc (.cells #[.int .i64 (k:Int)] 3));have h8:=(hrk1.trans hK2).alloc (.cells #[.int .i64 (k:Int)] 3);replace h0:=AI h0;replace ha:=AI ha;replace h8:=AI h8;replace hown:=AI hown;clear hR1 hK1 hrk1 hK2 hR2 hrow h7 hx hP hBad hcall;go_wp2_with (first |(refine gV (.tmp 53) (.tmp 55) rfl rfl 56 rfl w.heap.size _ ks.length _ rfl h0.out w1.heap.size (.int .i64 (k:Int)) rfl (by go_simp) rfl hf (by have:=h8.out.size;simpa using this) ?_;intro gg cap2 w2 h1 h2 h3 h4)|fail)
       have hR3:=ha.out.grown h0.out h2;have hK3:=h8.out.grown h2 hown.out;rw[PD]at hR3;refine⟨⟨⟨ms++ms2,p1,g1,k1,a1,hR3,.inr ⟨hr,hi,by omega,by simp only[By];omega,_,_,_,rfl⟩⟩,hK3⟩,?_⟩;rw[hleft];unfold iK;rw[hR3.kind,if_neg hr];omega
      ·have hcall:=fun b=>hP.out f' (by omega) (wr.drewN m) (ns++ms) q g' a' d n' _ b ⟨hR1,hq,by omega,hg,hd0,by omega,by simp only[By];omega⟩ hat hrep hk
       replace hcall:=AI hcall;go_upto_if 46 with fail
       go_wp2_with fail
       refine(hcall.out _).mono ?_;rintro e w1 ⟨⟨hK2,k,ms2,rfl,hR2,hq1,g2,hg1,g3,hz,hn1⟩,hlt1⟩;have hlt2:=hlt1 nd s1 rfl;have hm:=hK1.apart hrk1.size hn1;obtain⟨ks,hrow,h7⟩:=hK1.keep (hK2.gU hR1) ms2;have hf:ks.length<1000000:=by have:=h7.len;omega
       have h0:=hrow.1.alloc (.cells #[.int .i64 (k:Int)] 3);have ha:=hR2.old ((Old.refl w1).alloc (.cells #[.int .i64 (k:Int)] 3));have h8:=(hrk1.trans hK2).alloc (.cells #[.int .i64 (k:Int)] 3);replace h0:=AI h0;replace ha:=AI ha;replace h8:=AI h8;replace hown:=AI hown;replace h7:=AI h7;replace hm:=AI hm;clear hR1 hK1 hrk1 hK2 hR2 hrow hx hP hBad hcall hn1;go_wp2_with (first |(refine gV (.tmp 53) (.tmp 55) rfl rfl 56 rfl w.heap.size _ ks.length _ rfl h0.out w1.heap.size (.int .i64 (k:Int)) rfl (by go_simp) rfl hf (by have:=h8.out.size;simpa using this) ?_;intro gg cap2 w2 h1 h2 h3 h4)|fail)
       have hR3:=ha.out.grown h0.out h2;have hK3:=h8.out.grown h2 hown.out;have hkid:=fG.grow h7.out hm.out ((Old.refl w1).alloc _) h1 h2 h3;rw[PD]at hR3 hkid;refine⟨⟨⟨ms++ms2,s1.p,s1.g,0,a',hR3,.inl ⟨rfl,rfl,by omega,g2,by omega,g3,by simp only[By];omega,nds++[nd],hkid,by simp only[By,If,IS];omega,s1.n,f',by omega,hx2⟩⟩,hK3⟩,?_⟩;rw[hleft];unfold iK;rw[hR3.kind,if_pos rfl,hR3.pos];omega
    ·have hstop:y.t.kind=0∨y.t.kind=6∨y.t.kind=5:=by
      unfold oK at hsb;simp only[QL,decide_eq_true_eq]at hsb;by_cases hl:q<E.s.size
      ·rw[cN hl]at hsb;rcases hsb with(h|h)|h
       ·have:=E.s[q].toNat_lt;omega
       ·exact .inr (.inl (hk6.2 (by rw[lM hl];simpa using h)))
       ·exact .inr (.inr (he.2 (by rw[lM hl];simpa using h)))
      ·exact .inl (hk00.2 hl)
     rw[if_pos hstop]at hx1;obtain⟨y2,hy2,_,_,_,hsok⟩:=eX ln fold E.l q (by simpa[RE.l]using hq);obtain rfl:y2=y:=Option.some.inj (hy2.symm.trans hy);rw[hsok.atp (by omega)]at hx1;generalize ht:jr E.s 0 q 41=cb;rw[ht]at he;have hlen:(ns++ms).length<1000000:=by simp only[By];omega
     have c3:(wr.drewN m).cell? ⟨E.r,3,none⟩=some (.int .i64 0):=hR1.rb.cell 3;replace hR1:=AI hR1;replace hK1:=AI hK1;replace hrk1:=AI hrk1;replace hx1:=AI hx1;clear hx hown hP hBad hk6 hk00 hk7 hstop hsok hy2 hy;go_wp2_with fail
     refine(qe _ ht (by decide) hR1.out).mono ?_;rintro e w2 ⟨rfl,m2,rfl⟩;have hR2:=hR1.out.drewN m2;have h9:=hrk1.out.drewN m2;have hK2:=hK1.out.keep (eT.drewN _ m2) [];rw[BY]at hK2;rw[Qr]at hR2 h9 hK2 ⊢;generalize wr.drewN (m+m2)=w5 at hR2 h9 hK2 ⊢;have c1:w5.cell? ⟨E.r,1,none⟩=some (.int .i64 q):=hR2.rb.cell 1;replace hR2:=AI hR2;replace hK2:=AI hK2;replace h9:=AI h9;clear hR1 hK1 hrk1;by_cases hA:cb=true∧d=0
     ·obtain⟨rfl,rfl⟩:=hA;have hx2:=hx1.out;rw[if_pos ⟨he.2 rfl,rfl⟩]at hx2;obtain rfl:=Option.some.inj hx2;clear hx1 he;go_wp2_with fail
      refine(io 11 q hR2.out).mono ?_;rintro e w3 ⟨rfl,hK3,hR3⟩;have hK4:=h9.out.trans hK3;have hR4:RD E w3 q g' 11 q (ns++ms):=hR3;have c1:w3.cell? ⟨E.r,1,none⟩=some (.int .i64 q):=hR4.rb.cell 1;replace hR4:=AI hR4;replace hK4:=AI hK4;clear hR2 hK2 h9 hR3 hK3;by_cases hn0:nds.length=0
      ·have hh:(nds.length:Int)=0:=by omega
       go_wp2_with fail
       refine(io 9 q hR4.out).mono ?_;rintro e w4 ⟨rfl,hK5,hR5⟩;have hK6:=hK4.out.trans hK5;have hR6:RD E w4 q g' 11 q (ns++ms):=hR5;replace hR6:=AI hR6;replace hK6:=AI hK6;clear hR4 hK4 hR5 hK5;go_wp2_with fail
       refine(fJ _ 3 0 0 0 _ (by rfl) rfl hlen hR6.out).mono ?_;rintro e w9 ⟨rfl,hK9,hd⟩;go_wp2;go_ret;have hc:=hd;simp only[PD]at hc;exact cG.err (hK6.out.trans hK9) (by decide) hc (by omega) (by simp only[By,If,IS];omega)
      ·have hh:((nds.length:Int)==0)=false:=by simpa using hn0
       have hn0j:decide ((nds.length:Int)=0)=false:=by simpa using hn0
       go_wp2_with fail
       refine(fJ _ 3 0 0 0 _ (by rfl) rfl hlen hR4.out).mono ?_;rintro e w9 ⟨rfl,hK9,hd⟩;go_wp2;go_ret;have hc:=hd;simp only[PD]at hc;exact cG.err (hK4.out.trans hK9) (by decide) hc (by omega) (by simp only[By,If,IS];omega)
     ·have hx2:=hx1.out;rw[if_neg fun h=>hA ⟨he.1 h.1,h.2⟩]at hx2;have hcd:(cb&&decide (d=0))=false:=by
       cases cb
       ·rfl
       ·simpa using fun h=>hA ⟨rfl,h⟩
      go_upto_region 8 with fail
      go_cut [68] (fun s68 wx=>s68= .bool false∧wx=w5)
      case first=>
       cases cb
       ·go_wp2_with fail
        go_meet
        case rel=>exact⟨rfl,rfl⟩
       ·have hd1:(d==0)=false:=by simpa using hcd
        have hd2:decide (d=0)=false:=by simpa using hcd
        go_wp2_with fail
        go_meet
        case rel=>exact⟨by simp[hd2],rfl⟩
      case rest=>
       obtain⟨rfl,rfl⟩:=hcut;by_cases hn0:nds.length=0
       ·have hh:(nds.length:Int)=0:=by omega
        rw[if_pos hn0]at hx2;obtain rfl:=Option.some.inj hx2;go_wp2_with fail
        refine(io 9 q hR2.out).mono ?_;rintro e w4 ⟨rfl,hK5,hR5⟩;have hK6:=h9.out.trans hK5;have hR6:RD E w4 q g' 9 q (ns++ms):=hR5;replace hR6:=AI hR6;replace hK6:=AI hK6;clear hR2 h9 hR5 hK5 hK2;go_wp2_with fail
        refine(fJ _ 3 0 0 0 _ (by rfl) rfl hlen hR6.out).mono ?_;rintro e w9 ⟨rfl,hK9,hd⟩;go_wp2;go_ret;have hc:=hd;simp only[PD]at hc;exact cG.err (hK6.out.trans hK9) (by decide) hc (by omega) (by simp only[By,If,IS];omega)
       ·have hh:((nds.length:Int)==0)=false:=by simpa using hn0
        have hn0j:decide ((nds.length:Int)=0)=false:=by simpa using hn0
        rw[if_neg hn0]at hx2;obtain rfl:=Option.some.inj hx2;go_wp2_with fail
        refine(fJ _ 3 0 0 0 _ (by rfl) rfl hlen hR2.out).mono ?_;rintro e w9 ⟨rfl,hK9,hd⟩;go_wp2;go_ret;obtain⟨ks2,hp,hn⟩:=(hK2.out.keep (fun A=>hK9.gU hR2.out A) [ez 3 (aX az) (.slice ad nds.length cap) 0 0 0]).done (by omega);have hR5:=hd;have hv:=gQ.seq (id:=n+1) (ig (ns++ms) (ez 3 (aX az) (.slice ad nds.length cap) 0 0 0)) hp hn;have gb:((ns.length:Int)+ms.length)=(((ns++ms).length:Nat):Int):=by simp only[By];omega
        show cG E w ns p g a' 1 _ (.returned (.int .i64 ((ns.length:Int)+ms.length))) w9;rw[gb];simp only[PD]at hR5 hv ⊢;exact cG.ok (h9.out.trans hK9) hR5 (by dsimp only;omega) hq (by dsimp only;omega) hg (by simp only[By,If,IS];omega) hv
  ·have hk0i:(k'==0)=false:=by simpa using hk0
   have hk0j:decide (k'=0)=false:=by simpa using hk0
   have hlen:(ns++ms).length<1000000:=by simp only[By];omega
   replace hR:=AI hR;replace hrk:=AI hrk;go_wp2_with fail
   refine(fJ _ 3 0 0 0 _ (by rfl) rfl hlen hR.out).mono ?_;rintro e w9 ⟨rfl,hK9,hd⟩;go_wp2;go_ret;have hc:=hd;simp only[PD]at hc;rw[hi];exact cG.err (hrk.out.trans hK9) hk0 hc (by omega) (by simp only[By,If,IS];omega)
end
end
section
open Go.RowKit
section
variable{E:RE}{ln fold:Bool}
theorem xd(c:Nat):inB ⟨#[42,43,63,123]⟩ c=true↔c=42∨c=43∨c=63∨c=123:=by
 simp[inB];omega
theorem KS{s:ByteArray}{c:Nat}(h:¬ inB s c=true):inB s c=false:=by simpa using h
theorem wV(s:ByteArray)(c:Nat)(w:AS)(b:Bool)(hb:inB s c=b)(hs:s.size≤1000):Calls PH 122 #[.string s,.int .u8 c] w fun e w'=>e= .returned (.bool b)∧w'=w:=by
 rw[← hb];exact Gj s c w hs
theorem lX.one(B:Nat)(w:AS)(j:Nat)(hB:B≤w.heap.size):lX B (w.alloc (.cells #[.int .i64 (j:Int)] 3)) (fun b=>w.heap.size≤b) (.slice (some ⟨w.heap.size,0,none⟩) 1 1) [j]:=by
 refine⟨⟨rfl,.inr ⟨w.heap.size,1,_,rfl,hB,heap_alloc_new w _,OF _,by decide,rfl,rfl⟩⟩,fun b hb=> ?_⟩;have:w.heap.size=b:=by simpa[Q8]using hb
 omega
theorem Dl{c p:Nat}{r:List UInt8}{y:Int×Int}(h:(de c p r).wr=some y):y.1=7:=by
 unfold de at h;split at h
 ·cases h
 split at h
 ·cases h
 split at h
 ·cases h
 ·dsimp only at h;split at h
  ·cases h
  ·cases h;rfl
set_option maxRecDepth 10000 in
set_option maxHeartbeats 4000000 in
theorem Dq(hs:E.s.size≤1000)(w:AS)(ns:List (List AT))(p:Nat)(g a d:Int)(b:Bool)(h:RD E w p g 0 a ns)(hp:p<E.s.size)(hr:jN E.s p):
 Calls PH 97 #[.pointer (some ⟨E.r,0,none⟩),.int .i64 d,.bool b] w fun e w'=>e= .returned (.int .i64 0)∧RK E w w'∧RD E w' p g 8 p ns:=by
 have c0:w.cell? ⟨E.r,0,none⟩=some (.string E.s):=h.rb.cell 0;have c1:w.cell? ⟨E.r,1,none⟩=some (.int .i64 p):=h.rb.cell 1;have hp2:(p:Int)<E.s.size:=by omega
 have hin:inB ⟨#[42,43,63,123]⟩ E.s[p].toNat=true:=by
  rw[xd,← cN hp];exact hr
 replace h:=AI h;clear hr;go_enter (PH.func Tryz.func97 (by decide)),Tryz.ntmps97
 go_wp2_with fail
 go_quiet (exact PY (wV _ _ _ _ hin (by decide)))
 go_wp2_with fail
 refine(io 8 p (h.out.drewN _)).mono ?_;rintro e w2 ⟨rfl,hK,hR⟩;have hK2:=((RK.refl E w).drewN _).trans hK;go_wp2;go_ret;exact⟨rfl,hK2,hR⟩
structure JV(E:RE)(ln fold:Bool)(w0:AS)(ns:List (List AT))(p:Nat)(g a:Int)(F:Nat)(x:df Nd)(v:AT)(wr:AS):Prop where
 st:∃(ms:List (List AT))(k q:Nat)(g' k' a':Int),v= .int .i64 k∧RD E wr q g' k' a' (ns++ms)∧
  (
   (k'=0∧a'=a∧p<q∧q≤E.s.size∧g≤g'∧g'≤9∧ms.length≤4*(q-p)∧∃nd,gQ E.B wr (ns++ms) (fun b=>w0.heap.size≤b) k nd∧∃n' f',f'≤F∧jH ln fold E.l f' nd ⟨q,n',g'⟩=some x)∨
   (k'≠0∧x= .err k' a'∧(q:Int)≤E.s.size+10-g∧(ms.length:Int)≤4*((E.s.size:Int)-p)+4*(10-g)))
 rk:RK E w0 wr
set_option maxRecDepth 10000 in
set_option maxHeartbeats 4000000 in
theorem Dr(hs:E.s.size≤1000)(F:Nat)(hA:∀f<F,AZ E (gS ln fold E.l f)):AV E (o8 ln fold E.l F):=by
 intro w ns p g a d n x b hF hat hnr hx;cases F with
 |zero=>cases hx
 |succ F=>
 have hx':kO (gS ln fold E.l F d ⟨p,n,g⟩) (fun k s=>jH ln fold E.l F k s)=some x:=hx;clear hx;have hlo:=hF.rd.lo;have hroom:=hF.room;have hd0:=hF.d0;have hdg:=hF.dg;have hg0:=hF.g0;have hg9:=hF.g9;have hle:=hF.le;have hlt:=hF.rd.rb.lt;have hp2:(p:Int)<E.s.size:=by have:=hat.1;omega
 have c0:w.cell? ⟨E.r,0,none⟩=some (.string E.s):=hF.rd.rb.cell 0;have c1:w.cell? ⟨E.r,1,none⟩=some (.int .i64 p):=hF.rd.rb.cell 1;have hp:=hat.1;have hin:inB ⟨#[42,43,63,123]⟩ E.s[p].toNat=false:=KS (by
  rw[xd,← cN hp];exact hnr)
 have hcall:∀m y,gS ln fold E.l F d ⟨p,n,g⟩=some y→Calls PH 123 #[.pointer (some ⟨E.r,0,none⟩),.int .i64 d] (w.drewN m) fun e w'=>cG E (w.drewN m) ns p g a 0 y e w'∧∀nd s,y= .ok nd s→p<s.p:=fun m y hy=>
  hA F (Q2 F) (w.drewN m) ns p g a d n y ⟨hF.rd.drewN m,hF.le,hF.g0,hF.g9,hF.d0,hF.dg,hF.room⟩ hat hnr hy
 have hi:=hF.rd.drewN;replace hcall:=AI hcall;replace hi:=AI hi;replace hx':=AI hx';clear hF hA hat hnr;go_enter (PH.func Tryz.func97 (by decide)),Tryz.ntmps97
 go_wp2_with fail
 go_quiet (exact PY (wV _ _ _ _ hin (by decide)))
 clear c0 c1;go_wp2_with fail
 obtain⟨y,hy⟩:∃y,gS ln fold E.l F d ⟨p,n,g⟩=some y:=by
  rcases j3 hx'.out with⟨k1,a1,hy,_⟩|⟨nd,s1,hy,_⟩
  ·exact⟨_,hy⟩
  ·exact⟨_,hy⟩
 refine(hcall.out _ y hy).mono ?_;rintro e w1 ⟨⟨hK1,k,ms,rfl,hres⟩,hlt1⟩;have hst:JV E ln fold w ns p g a F x (.int .i64 k) w1:=by
  refine⟨?_,((RK.refl E w).drewN _).trans hK1⟩;rcases j3 hx'.out with⟨k1,a1,hy2,hd⟩|⟨nd,s1,hy2,hx2⟩
  ·obtain rfl:=Option.some.inj (hy.symm.trans hy2);obtain⟨hk0,p1,g1,hR1,hp1,hm1⟩:=hres;exact⟨ms,k,p1,g1,k1,a1,rfl,hR1,.inr ⟨hk0,hd,by omega,by omega⟩⟩
  ·obtain rfl:=Option.some.inj (hy.symm.trans hy2);obtain⟨hR1,h1,h2,h3,h4,h5,h6⟩:=hres;exact⟨ms,k,s1.p,s1.g,0,a,rfl,hR1,.inl ⟨rfl,rfl,hlt1 _ _ rfl,h2,h3,h4,h5,nd,h6,s1.n,F,OF _,hx2⟩⟩
 replace hst:=AI hst;clear hK1 hres hlt1 hcall hi hx' hy;go_wp2_with fail
 go_loopw [7,8,9,10] (fun _ x8 _ _ wr=>JV E ln fold w ns p g a F x x8 wr) (fun _ _ _ _ wr=>iK E wr)
 case atStart=>exact hst.out
 case round=>
  clear hst;obtain⟨⟨ms,k,q,g',k',a',rfl,hR,hst⟩,hrk⟩:=hrel;have hpos:=hR.pos;have hkd:=hR.kind;have c3:wr.cell? ⟨E.r,3,none⟩=some (.int .i64 k'):=hR.rb.cell 3;have c0:wr.cell? ⟨E.r,0,none⟩=some (.string E.s):=hR.rb.cell 0;have c1:wr.cell? ⟨E.r,1,none⟩=some (.int .i64 q):=hR.rb.cell 1;rcases hst with⟨rfl,rfl,hpq,hq,hgg,hj,hms,nd,hN,n',f',hf',hx⟩|⟨hk0,hd,hqe,hme⟩
  ·cases f' with
   |zero=>cases hx
   |succ f'=>
   have hqi:(q:Int)≤E.s.size:=by omega
   unfold jH at hx;cases hy:bG ln fold E.l q with
   |none=>rw[hy]at hx;cases hx
   |some y=>
   rw[hy]at hx;dsimp only at hx;have hk7:=(tb hy).2.2.2;have hfin:¬ jN E.s q→∀m,cG E w ns p g a' 0 x (.returned (.int .i64 k)) (wr.drewN m)∧∀nd s,x= .ok nd s→p<s.p:=fun hr m=>by
    rw[if_neg fun h=>hr (hk7.1 h)]at hx;obtain rfl:=Option.some.inj hx;have hN2:=hN.keep (w':=wr.drewN m) [] (eT.drewN wr m _) (A':=fun b=>w.heap.size≤b) fun _ _ h=>h
    rw[BY]at hN2;refine⟨cG.ok (hrk.drewN m) (hR.drewN m) (by dsimp only;omega) hq hgg hj (by dsimp only;omega) hN2,fun nd2 s2 h=> ?_⟩;cases h;exact hpq
   have hleft:iK E wr=E.s.size+2-q:=by unfold iK;rw[hkd,if_pos rfl,hpos]
   have hNm:∀m,gQ E.B (wr.drewN m) (ns++ms) (fun b=>w.heap.size≤b) k nd:=fun m=>by
    have hN2:=hN.keep (w':=wr.drewN m) [] (eT.drewN wr m _) (A':=fun b=>w.heap.size≤b) fun _ _ h=>h
    rwa [BY]at hN2
   replace hNm:=AI hNm;replace hfin:=AI hfin;replace hx:=AI hx;replace hR:=AI hR;replace hrk:=AI hrk;clear hN;by_cases hl:q<E.s.size
   ·have hl2:(q:Int)<E.s.size:=by omega
    generalize hbi:inB ⟨#[42,43,63,123]⟩ E.s[q].toNat=bi;have hbr:bi=true↔jN E.s q:=by
     rw[← hbi,xd,← cN hl];rfl
    go_wp2_with fail
    go_quiet (fail)
    generalize hw5:wr.drewN nq=w5;have c0:w5.cell? ⟨E.r,0,none⟩=some (.string E.s):=by rw[← hw5];exact(hR.out.drewN _).rb.cell 0
    have c1:w5.cell? ⟨E.r,1,none⟩=some (.int .i64 q):=by rw[← hw5];exact(hR.out.drewN _).rb.cell 1
    replace hw5:=AI hw5;go_upto_region 7 with fail
    go_cut [7] (fun s7 wx=>s7= .bool bi∧∃m,wx=wr.drewN m)
    case first=>
     go_wp2_with fail
     go_quiet (exact PY (wV _ _ _ _ hbi (by decide)))
     go_wp2_with fail
     go_meet
     case rel=>exact⟨rfl,_,by rw[← hw5.out,Qr]⟩
    case rest=>
     obtain⟨rfl,m,rfl⟩:=hcut;clear c0 c1 c3;cases bi
     ·go_wp2;go_ret;exact hfin.out (by rw[← hbr];simp) m
     ·have hrep:=hbr.1 rfl;have hx2:=hx.out;rw[if_pos (hk7.2 hrep)]at hx2;have hc:E.s[q].toNat=42∨E.s[q].toNat=43∨E.s[q].toNat=63∨E.s[q].toNat=123:=by
       rw[← cN hl];exact hrep
      have ho:=Ft (ln:=ln) (fold:=fold) (fE hl) hc;have hk:=Option.some.inj (hy.symm.trans ho);have hwr:∀z,y.wr=some z→z.1=7:=fun z hz=>by
       rw[hk]at hz;exact Dl hz
      obtain⟨y2,hy2,_,hn,hyp,hsok⟩:=eX ln fold E.l q (by simpa[RE.l]using hq);obtain rfl:y2=y:=Option.some.inj (hy2.symm.trans hy);have hcall:=HP hl hc hs (hR.out.drewN m);rw[← hk]at hcall;replace hcall:=AI hcall;have hv:y2.p≤E.s.size:=by simpa[RE.l]using hyp
      clear ho hk hc hx hfin hbr hbi;go_upto_region 9 with fail
      go_wp2_with fail
      refine hcall.out.mono ?_;rintro e w2 ⟨⟨m1,n1,rfl⟩,hK2,h7⟩;have hK3:=(hrk.out.drewN m).trans hK2;have hB2:E.B≤w2.heap.size:=by have:=hK3.size;omega
      have hsz2:w.heap.size≤w2.heap.size:=hK3.size;have hlen:(ns++ms).length<1000000:=by simp only[By];omega
      have hOa:Old w2 (w2.alloc (.cells #[.int .i64 (k:Int)] 3)):=(Old.refl w2).alloc _;have hN3:=((hNm.out m).keep [] (hK2.gU (hR.out.drewN m) _) (A':=fun b=>w.heap.size≤b) fun _ _ h=>h).keep [] (hOa.gU _) (A':=fun b=>w.heap.size≤b) fun _ _ h=>h
      rw[BY,BY]at hN3;have hrow:=lX.one E.B w2 k hB2;cases hf:y2.wr with
      |none=>
       rw[hf]at h7 hx2;dsimp only at h7 hx2;obtain⟨he,hR2⟩:=h7;have hm:y2.more=true:=by
        cases hm:y2.more
        ·rcases hsok.last hm with h|h
         ·have:=hk7.2 hrep;omega
         ·have:=hsok.bad;rw[h,hf]at this;cases this
        ·rfl
       have hlt2:=hn hm;obtain⟨rfl,rfl⟩:m1=y2.t.least∧n1=y2.t.most:=by simpa using he
       have hR3:=hR2.old hOa;have hK4:=hK3.qL hOa;replace hR3:=AI hR3;replace hK4:=AI hK4;replace hN3:=AI hN3;replace hrow:=AI hrow;clear hR2 hK3 hK2 hcall hNm hOa;go_wp2_with fail
       refine(fJ _ 6 0 y2.t.least y2.t.most _ (by rfl) rfl hlen hR3.out).mono ?_;rintro e w9 ⟨rfl,hK9,ha⟩;have hg:=hrow.out.keep (hK9.gU hR3.out _) (A':=fun b=>w.heap.size≤b) fun b _ h=>PL hsz2 h
       have ht:=hN3.out.keep [ez 6 (aX az) (.slice (some ⟨w2.heap.size,0,none⟩) 1 1) 0 y2.t.least y2.t.most] (hK9.gU hR3.out _) (A':=fun b=>w.heap.size≤b) fun _ _ h=>h
       have hh:=gQ.rep (id:=n'+1) (ig (ns++ms) (ez 6 (aX az) (.slice (some ⟨w2.heap.size,0,none⟩) 1 1) 0 y2.t.least y2.t.most)) hg ht;have h0:=ha;rw[PD]at h0 hh;have h8:=hK4.out.trans hK9;have h9:((ns.length:Int)+ms.length)=(((ns++ms).length:Nat):Int):=by simp only[By];omega
       replace h9:=AI h9;replace h0:=AI h0;replace h8:=AI h8;replace hh:=AI hh;clear ha ht hg hK9 hK4 hR3 hN3 hrow;go_wp2_with fail
       refine⟨⟨⟨ms++[_],(ns++ms).length,y2.p,g',0,a',by rw[← h9.out],h0.out,.inl ⟨rfl,rfl,by omega,hv,hgg,hj,by simp only[By,If,IS];omega,_,hh.out,n'+1,f',by omega,hx2⟩⟩,h8.out⟩,?_⟩;rw[hleft];unfold iK;rw[h0.out.kind,if_pos rfl,h0.out.pos];omega
      |some z=>
       rw[hf]at h7 hx2;dsimp only at h7 hx2;obtain⟨_,p2,hp2',hR2⟩:=h7;have hz7:=hwr z hf;have hR3:=hR2.old hOa;have hK4:=hK3.qL hOa;replace hR3:=AI hR3;replace hK4:=AI hK4;clear hR2 hK3 hK2 hcall hNm hOa hN3 hrow;go_wp2_with fail
       refine(fJ _ 6 0 m1 n1 _ (by rfl) rfl hlen hR3.out).mono ?_;rintro e w9 ⟨rfl,hK9,ha⟩;have h0:=ha;rw[PD]at h0;have h8:=hK4.out.trans hK9;have h9:((ns.length:Int)+ms.length)=(((ns++ms).length:Nat):Int):=by simp only[By];omega
       replace h9:=AI h9;replace h0:=AI h0;replace h8:=AI h8;clear ha hK9 hK4 hR3;go_wp2_with fail
       obtain rfl:=Option.some.inj hx2;refine⟨⟨⟨ms++[_],(ns++ms).length,p2,g',z.1,z.2,by rw[← h9.out],h0.out,.inr ⟨by omega,rfl,by omega,by simp only[By,If,IS];omega⟩⟩,h8.out⟩,?_⟩;rw[hleft];unfold iK;rw[h0.out.kind,if_neg (by omega)];omega
   ·have hl2:decide ((q:Int)<E.s.size)=false:=by simp;omega
    have hno:¬ jN E.s q:=by
     unfold jN fF;rw[dif_neg hl];omega
    go_wp2_with fail
    go_quiet (fail)
    go_wp2;go_ret;exact hfin.out hno _
  ·have hk0i:(k'==0)=false:=by simpa using hk0
   have hk0j:decide (k'=0)=false:=by simpa using hk0
   replace hR:=AI hR;replace hrk:=AI hrk;go_wp2_with fail
   go_quiet (fail)
   go_wp2;go_ret;refine⟨?_,fun nd s h=> ?_⟩
   ·rw[hd];exact cG.err (hrk.out.drewN _) hk0 (hR.out.drewN _) (by omega) (by omega)
   ·rw[hd]at h;cases h
end
end
section
open Go.RowKit
section
variable{E:RE}{ln fold:Bool}
theorem RD.yI{w:AS}{p:Nat}{g k a:Int}{n:List (List AT)}(h:RD E w p g k a n):w.cell? ⟨E.x,2,none⟩=some (.int .i64 g)∧∀i,w.frozen? ⟨E.x,i,none⟩=false:=by
 obtain⟨sl,xs,root,h1,h2⟩:=h.xb;exact⟨h1.cell 2,h1.frozen⟩
theorem RD.Ny{w:AS}{p:Nat}{g k a:Int}{n:List (List AT)}(h:RD E w p g k a n)(g':Int):RD E (w.setCell ⟨E.x,2,none⟩ (.int .i64 g')) p g' k a n:=by
 obtain⟨sl,xs,root,h1,h2,h3⟩:=h.xb;have hne:E.r≠E.x:=fun e=>by
  have h4:=h.rb;rw[e]at h4;have:=h4.symm.trans h1;simp at this
 refine⟨h.rb.far hne _,⟨sl,xs,root,by have:=h1.ci 2 (.int .i64 g');simpa using this,⟨h2.1,?_⟩,h3⟩,h.lo⟩;rcases h2.2 with h4|⟨q,cap,cur,h4,h5,h6,h7⟩
 ·exact .inl h4
 ·refine .inr ⟨q,cap,cur,h4,h5,?_,h7⟩;rw[Below.heap_setCell _ _ _ q (by
   dsimp only;rintro rfl;have:=h1.symm.trans h6;simp at this)]
  exact h6
set_option maxRecDepth 10000 in
set_option maxHeartbeats 4000000 in
theorem Ds(hs:E.s.size≤1000)(F:Nat)(hE:∀f<F,AX E (mM ln fold E.l f)):AW E (mr ln fold E.l F):=by
 intro w ns p q g a d n x hq hF hh hx;cases F with
 |zero=>cases hx
 |succ F=>
 have hp:p<E.s.size:=by
  rcases Q9 p E.s.size with h|h
  ·exact h
  ·unfold fF at hh;rw[dif_neg (by omega)]at hh;omega
 have hy:=vh (ln:=ln) (fold:=fold) (fE hp) (by rw[← cN hp];exact hh);unfold mr at hx;rw[hy]at hx;dsimp only[gl]at hx;rw[← hq]at hx;have hR:=hF.rd;have hlo:=hF.rd.lo;have hroom:=hF.room;have hd0:=hF.d0;have hdg:=hF.dg;have hg0:=hF.g0;have hg9:=hF.g9;have hle:=hF.le;have hlt:=hF.rd.rb.lt;have c2:w.cell? ⟨E.r,2,none⟩=some (.pointer (some ⟨E.x,0,none⟩)):=hR.rb.cell 2;obtain⟨g2,fx⟩:=hR.yI;have hp1:(p:Int)≤1000:=by omega
 by_cases h9:g=9
 ·rw[if_pos h9]at hx;obtain rfl:=Option.some.inj hx;subst h9;replace hR:=AI hR;clear hE hF hy;go_enter (PH.func Tryz.func148 (by decide)),Tryz.ntmps148
  go_wp2_with fail
  refine(io 12 p hR.out).mono ?_;rintro e w2 ⟨rfl,hK2,hR2⟩;replace hK2:=AI hK2;replace hR2:=AI hR2;clear hR;go_wp2;go_ret;exact cG.err (k:=0) (ms:=[]) hK2.out (by decide) (by rw[BY];exact hR2.out) (by omega) (by simp;omega)
 ·rw[if_neg h9]at hx;have h9i:(g==9)=false:=by simpa using h9
  have h9j:decide (g=9)=false:=by simpa using h9
  have hgi:0≤g+1∧g+1≤9:=by omega
  have hR1:=hR.Ny (g+1);have hK1:RK E w (w.setCell ⟨E.x,2,none⟩ (.int .i64 (g+1))):=(RK.refl E w).dN hlo (.inr (.inl rfl)) 2 _;replace hR1:=AI hR1;replace hK1:=AI hK1;have hN1:∀A,eT w (w.setCell ⟨E.x,2,none⟩ (.int .i64 (g+1))) A:=fun A b c z _ hb=>Below.heap_setCell _ _ _ b (by
   dsimp only;rintro rfl;obtain⟨sl,xs,root,h1,_⟩:=hR.xb;have:=h1.symm.trans hb;simp at this)
  clear hN1 hR hF hy;replace hq:=AI hq;obtain⟨y,hy2⟩:∃y,mM ln fold E.l F (d+1) ⟨q,n+1,g+1⟩=some y:=by
   rcases j3 hx with⟨k1,a1,hy,_⟩|⟨nd,s1,hy,_⟩
   ·exact⟨_,hy⟩
   ·exact⟨_,hy⟩
  have hcall:=hE F (Q2 F) (w.setCell ⟨E.x,2,none⟩ (.int .i64 (g+1))) ns q (g+1) a (d+1) (n+1) y ⟨hR1.out,hle,by omega,by omega,by omega,by omega,by omega⟩ hy2;replace hcall:=AI hcall;replace hx:=AI hx;replace hy2:=AI hy2;go_enter (PH.func Tryz.func148 (by decide)),Tryz.ntmps148
  go_upto_region 5 with fail
  generalize w.setCell ⟨E.x,2,none⟩ (.int .i64 (g+1))=w1 at hR1 hK1 hcall ⊢;clear c2 g2 fx;have c2:w1.cell? ⟨E.r,2,none⟩=some (.pointer (some ⟨E.x,0,none⟩)):=hR1.out.rb.cell 2;have g2:=hR1.out.yI.1;go_wp2_with fail
  refine hcall.out.mono ?_;clear c2 g2;rcases j3 hx.out with⟨k1,a1,h6,hn⟩|⟨nd,s1,h6,h2⟩
  ·obtain rfl:=Option.some.inj (hy2.out.symm.trans h6);rintro e w2 ⟨hK2,k,ms,rfl,hk0,p1,g1,hR2,hp1',hm1⟩;have hlen:(ns++ms).length<1000000:=by simp only[By];omega
   have hK3:=hK1.out.trans hK2;replace hR2:=AI hR2;replace hK3:=AI hK3;clear hcall hR1 hK1 hK2 hx hy2 h6 hE;go_wp2_with fail
   refine(A7 41 (by decide) hR2.out).mono ?_;rintro e w3 ⟨rfl,m,rfl⟩;rw[E3 hk0];go_wp2_with fail
   refine(io 10 p (hR2.out.drewN m)).mono ?_;rintro e w4 ⟨rfl,hK4,hR4⟩;rw[if_neg hk0,if_neg hk0]at hR4;have hK5:=(hK3.out.drewN m).trans hK4;obtain⟨p2,hp2⟩:∃p2:Nat,p2=p1+1:=⟨_,rfl⟩;have hl:(p1:Int)+1=(p2:Int):=by omega
   have hp1i:(p1:Int)≤2000:=by omega
   have c1:w4.cell? ⟨E.r,1,none⟩=some (.int .i64 p1):=hR4.rb.cell 1;have f:=hR4.rb.frozen;have hR5:RD E (w4.setCell ⟨E.r,1,none⟩ (.int .i64 (p2:Int))) p2 g1 k1 a1 (ns++ms):=hR4.dN 1 _ rfl;have hK6:=hK5.dN hlo (.inl rfl) 1 (.int .i64 (p2:Int));have hOa:Old (w4.setCell ⟨E.r,1,none⟩ (.int .i64 (p2:Int))) ((w4.setCell ⟨E.r,1,none⟩ (.int .i64 (p2:Int))).alloc (.cells #[.int .i64 (k:Int)] 3)):=(Old.refl _).alloc _;have hR6:=hR5.old hOa;have hK7:=hK6.qL hOa;replace hR6:=AI hR6;replace hK7:=AI hK7;replace hp2:=AI hp2;clear hR5 hK6 hK5 hR4 hR2 hK3 hK4 hOa;go_wp2_with fail
   refine(fJ _ 5 (g+1) 0 0 _ (by rfl) rfl hlen hR6.out).mono ?_;rintro e w9 ⟨rfl,hK9,h4⟩;go_wp2;go_ret;have h7:=h4;simp only[PD]at h7;rw[hn];have hi:=hp2.out;exact cG.err (hK7.out.trans hK9) hk0 h7 (by omega) (by simp only[By,If,IS];omega)
  ·obtain rfl:=Option.some.inj (hy2.out.symm.trans h6);rintro e w2 ⟨hK2,k,ms,rfl,hR2,hq1,hs1,hg1,ho,hm2,hn1⟩;have hlen:(ns++ms).length<1000000:=by simp only[By];omega
   have hK3:=hK1.out.trans hK2;have hsz1:=hK1.out.size;have h8:=hn1.keep [] (fun _ _ _ _ _=>rfl) (w':=w2) (A':=fun b=>w.heap.size≤b) fun b _ h=>PL hsz1 h
   rw[BY]at h8;replace hR2:=AI hR2;replace hK3:=AI hK3;replace h8:=AI h8;clear hcall hR1 hK1 hK2 hx hy2 h6 hE hn1;generalize hd:jr E.s 0 s1.p 41=cb;cases hz:bG ln fold E.l s1.p with
   |none=>rw[hz]at h2;cases h2
   |some z=>
   rw[hz]at h2;dsimp only at h2;have he:=(tb hz).2.1;rw[hd]at he;go_wp2_with fail
   refine(qe _ hd (by decide) hR2.out).mono ?_;rintro e w3 ⟨rfl,m,rfl⟩;have hR3:=hR2.out.drewN m;have hK4:=hK3.out.drewN m;have hn3:=h8.out.keep [] (eT.drewN w2 m _) (A':=fun b=>w.heap.size≤b) fun _ _ h=>h
   rw[BY]at hn3;generalize w2.drewN m=w5 at hR3 hK4 hn3 ⊢;clear hR2 hK3 h8;obtain⟨p2,hp2⟩:∃p2:Nat,p2=s1.p+1:=⟨_,rfl⟩;have hl:(s1.p:Int)+1=(p2:Int):=by omega
   have hp1i:(s1.p:Int)≤2000:=by omega
   cases cb
   ·rw[if_neg (by rw[he];simp)]at h2;obtain rfl:=Option.some.inj h2;replace hR3:=AI hR3;replace hK4:=AI hK4;go_wp2_with fail
    refine(io 10 p hR3.out).mono ?_;rintro e w6 ⟨rfl,hK5,hR4⟩;have hK6:=hK4.out.trans hK5;have hR5:RD E w6 s1.p s1.g 10 p (ns++ms):=hR4;have c1:w6.cell? ⟨E.r,1,none⟩=some (.int .i64 s1.p):=hR5.rb.cell 1;have f:=hR5.rb.frozen;have hR6:RD E (w6.setCell ⟨E.r,1,none⟩ (.int .i64 (p2:Int))) p2 s1.g 10 p (ns++ms):=hR5.dN 1 _ rfl;have hK7:=hK6.dN hlo (.inl rfl) 1 (.int .i64 (p2:Int));have hOa:Old (w6.setCell ⟨E.r,1,none⟩ (.int .i64 (p2:Int))) ((w6.setCell ⟨E.r,1,none⟩ (.int .i64 (p2:Int))).alloc (.cells #[.int .i64 (k:Int)] 3)):=(Old.refl _).alloc _;have h0:=hR6.old hOa;have h3:=hK7.qL hOa;replace h0:=AI h0;replace h3:=AI h3;replace hp2:=AI hp2;clear hR6 hK7 hK6 hR4 hR5 hR3 hK4 hK5 hOa;go_wp2_with fail
    refine(fJ _ 5 (g+1) 0 0 _ (by rfl) rfl hlen h0.out).mono ?_;rintro e w9 ⟨rfl,hK9,h4⟩;go_wp2;go_ret;have h7:=h4;simp only[PD]at h7;have hi:=hp2.out;exact cG.err (h3.out.trans hK9) (by decide) h7 (by omega) (by simp only[By,If,IS];omega)
   ·rw[if_pos (he.2 rfl)]at h2;obtain⟨hlt1,hj⟩:=(jK (by decide)).1 hd;rw[BI (fE hlt1) hj]at hz;obtain rfl:=Option.some.inj hz;obtain rfl:=Option.some.inj h2;have c1:w5.cell? ⟨E.r,1,none⟩=some (.int .i64 s1.p):=hR3.rb.cell 1;have f:=hR3.rb.frozen;have hR6:RD E (w5.setCell ⟨E.r,1,none⟩ (.int .i64 (p2:Int))) p2 s1.g 0 a (ns++ms):=hR3.dN 1 _ rfl;have hK7:=hK4.dN hlo (.inl rfl) 1 (.int .i64 (p2:Int));have hOa:Old (w5.setCell ⟨E.r,1,none⟩ (.int .i64 (p2:Int))) ((w5.setCell ⟨E.r,1,none⟩ (.int .i64 (p2:Int))).alloc (.cells #[.int .i64 (k:Int)] 3)):=(Old.refl _).alloc _;have h0:=hR6.old hOa;have h3:=hK7.qL hOa;have hm:w.heap.size≤w5.heap.size:=hK4.size;have ha:=(hn3.keep [] (eT.dN hR3 1 (.int .i64 (p2:Int)) _) (A':=fun b=>w.heap.size≤b) fun _ _ h=>h).keep [] (hOa.gU _) (A':=fun b=>w.heap.size≤b) fun _ _ h=>h
    rw[BY,BY]at ha;have hrow:=lX.one E.B (w5.setCell ⟨E.r,1,none⟩ (.int .i64 (p2:Int))) k (by rw[Q7];omega);rw[Q7]at hrow;replace h0:=AI h0;replace h3:=AI h3;replace hp2:=AI hp2;replace ha:=AI ha;replace hrow:=AI hrow;clear hR6 hK7 hR3 hK4 hOa hn3 hd hj he;go_wp2_with fail
    refine(fJ _ 5 (g+1) 0 0 _ (by rfl) rfl hlen h0.out).mono ?_;rintro e w9 ⟨rfl,hK9,h4⟩;have hf:=hrow.out.keep (hK9.gU h0.out _) (A':=fun b=>w.heap.size≤b) fun b _ h=>PL hm h
    have hk:=ha.out.keep [ez 5 (aX az) (.slice (some ⟨w5.heap.size,0,none⟩) 1 1) (g+1) 0 0] (hK9.gU h0.out _) (A':=fun b=>w.heap.size≤b) fun _ _ h=>h
    have hg:=gQ.grp (id:=n+1) (ig (ns++ms) (ez 5 (aX az) (.slice (some ⟨w5.heap.size,0,none⟩) 1 1) (g+1) 0 0)) hf hk;have h5:=h4;rw[PD]at h5 hg;have hc:=h3.out.trans hK9;replace h5:=AI h5;replace hc:=AI hc;replace hg:=AI hg;clear h4 hk hf hK9 h3 h0 ha hrow;go_wp2;go_ret;have hi:=hp2.out;have hr:((ns.length:Int)+ms.length)=(((ns++ms).length:Nat):Int):=by simp only[By];omega
    show cG E w ns q g a 4 _ (.returned (.int .i64 ((ns.length:Int)+ms.length))) w9;rw[hr];exact cG.ok hc.out (by dsimp only;rw[← hi];exact h5.out) (by dsimp only;omega) (by dsimp only;omega) (by dsimp only;omega) ho (by dsimp only;simp only[By,If,IS];omega) hg.out
end
end
section
open Go.RowKit
structure dQ(E:RE)(w:AS)(q:Nat)(S:an)(k a:Int)(wr:AS):Prop where
 kr:KR E w wr
 rb:ac wr E.r 123 (rj E q k a)
 nb:BB wr w.heap.size 149 [.int .i64 0] S [.slice none 0 0,.int .i64 0,.int .i64 0,.int .i64 0]
theorem dQ.drewN{E:RE}{w wr:AS}{q:Nat}{S:an}{k a:Int}(h:dQ E w q S k a wr)(m:Nat):dQ E w q S k a (wr.drewN m):=⟨h.kr.drewN m,h.rb,h.nb⟩
theorem dQ.old{E:RE}{w wr wy:AS}{q:Nat}{S:an}{k a:Int}(h:dQ E w q S k a wr)(o:Old wr wy):dQ E w q S k a wy:=⟨h.kr.qL o,h.rb.old o,ac.old h.nb o⟩
theorem dQ.LY{E:RE}{w wr wy:AS}{q q':Nat}{S:an}{k a k' a':Int}(h:dQ E w q S k a wr)(o:KR E wr wy)(hb:ac wy E.r 123 (rj E q' k' a'))(hr:E.r<w.heap.size:=by assumption):dQ E w q' S k' a' wy:=⟨h.kr.trans o,hb,ac.kr h.nb o (by omega)⟩
theorem dQ.move{E:RE}{w wr:AS}{q:Nat}{S:an}{k a:Int}(h:dQ E w q S k a wr)(q':Nat)(hr:E.r<w.heap.size:=by assumption):dQ E w q' S k a (wr.setCell ⟨E.r,1,none⟩ (.int .i64 (q':Int))):=
 ⟨h.kr.setCell (.inr rfl) _,h.rb.ci 1 _,ac.far h.nb (by dsimp only;omega) _⟩
theorem dQ.fill{E:RE}{w wr:AS}{q:Nat}{S:an}{k a:Int}(h:dQ E w q S k a wr)(T:an)(hr:E.r<w.heap.size:=by assumption):dQ E w q T k a (wr.setCells w.heap.size 1 (aX T)):=
 ⟨h.kr.setCells (OF _) _ _,ac.cells h.rb (by omega) _ _,BB.JK h.nb T⟩
theorem dQ.put{E:RE}{w wr:AS}{q:Nat}{S:an}{k a:Int}(h:dQ E w q S k a wr)(i:Nat)(hi:i<256)(b:Bool)(hr:E.r<w.heap.size:=by assumption):dQ E w q (fun x=>if x=i then b else S x) k a (wr.setCell ⟨w.heap.size,1+i,none⟩ (.bool b)):=
 ⟨h.kr.setCell (.inl (OF _)) _,ac.far h.rb (by dsimp only;omega) _,h.nb.put hi b⟩
theorem dQ.alloc{E:RE}{w wr:AS}{q:Nat}{S:an}{k a:Int}(h:dQ E w q S k a wr)(o:Obj):dQ E w q S k a (wr.alloc o):=h.old ((Old.refl wr).alloc o)
theorem dQ.cells{E:RE}{w wr:AS}{q nb:Nat}{S:an}{k a:Int}(h:dQ E w q S k a wr)(hn:w.heap.size<nb)(o:Nat)(vs:List AT)(hr:E.r<w.heap.size:=by assumption):dQ E w q S k a (wr.setCells nb o vs):=
 ⟨h.kr.setCells (by omega) o vs,ac.cells h.rb (by omega) o vs,ac.cells h.nb (by omega) o vs⟩
theorem dQ.c0{E:RE}{w wr:AS}{q:Nat}{S:an}{k a:Int}(h:dQ E w q S k a wr):wr.cell? ⟨E.r,0,none⟩=some (.string E.s):=h.rb.cell 0
theorem dQ.c1{E:RE}{w wr:AS}{q:Nat}{S:an}{k a:Int}(h:dQ E w q S k a wr):wr.cell? ⟨E.r,1,none⟩=some (.int .i64 q):=h.rb.cell 1
theorem dQ.c2{E:RE}{w wr:AS}{q:Nat}{S:an}{k a:Int}(h:dQ E w q S k a wr):wr.cell? ⟨E.r,2,none⟩=some (.pointer (some ⟨E.x,0,none⟩)):=h.rb.cell 2
theorem dQ.c3{E:RE}{w wr:AS}{q:Nat}{S:an}{k a:Int}(h:dQ E w q S k a wr):wr.cell? ⟨E.r,3,none⟩=some (.int .i64 k):=h.rb.cell 3
theorem ya{S T:an}(h:∀x,x<256→S x=T x):aX S=aX T:=by
 unfold aX;apply List.map_congr_left;intro i hi;rw[h i (by simpa using hi)]
def ia(i:Nat)(S:an):an:=fun x=>if x<i then !S x else S x
theorem zI(S:an)(i:Nat):(fun x=>if x=i then !(ia i S i)else ia i S x)=ia (i+1) S:=by
 funext x
 unfold ia;by_cases h:x=i
 ·subst h;simp
 ·rw[if_neg h];have:(x<i+1)=(x<i):=propext (by omega);simp only[this]
theorem BB.congr{w:AS}{b:Nat}{t:PK}{A Z:List AT}{S T:an}(h:BB w b t A S Z)(e:aX S=aX T):BB w b t A T Z:=by
 unfold BB at *;rwa [← e]
structure JS(E:RE)(ln fold nt:Bool)(at_:Nat)(w:AS)(a:Int)(X:dF)(x7:AT)(wr:AS):Prop where
 st:∃(q:Nat)(S:an)(first:Bool)(k a1:Int),x7= .bool first∧dQ E w q S k a1 wr∧q≤E.s.size∧
  ((k=0∧a1=a∧∃f,fI ln fold E.l nt at_ f first S q=some X)∨(k≠0∧X.wr=some (k,a1)))
def O0(E:RE)(w:AS)(ns:List (List AT))(g a:Int)(at_:Nat)(X:dF)(e:Ending)(w':AS):Prop:=
 RK E w w'∧match X.wr with
  |none=>e= .returned (.int .i64 ns.length)∧∃S,X.t=dl at_ S∧RD E w' X.p g 0 a (ns++[ez 0 (aX S) (.slice none 0 0) 0 0 0])
  |some y=>e= .returned (.int .i64 0)∧y.1≠0∧∃p',p'≤E.s.size∧RD E w' p' g y.1 y.2 ns
theorem Kw{E:RE}{p:Nat}:Lib.hasPrefix (E.l.drop p) [94]=jr E.s 0 p 94:=by
 unfold Lib.hasPrefix;by_cases h:p<E.s.size
 ·rw[fE h,lM h];rw[PM];simp only[List.isPrefixOf,Bool.and_true,beq_iff_eq,decide_eq_true_eq];constructor
  ·intro e;rw[← e];rfl
  ·intro e;exact((f9 (n:=94) (by decide)).2 e).symm
 ·rw[oU h,tc (by decide) h];rfl
set_option maxRecDepth 10000 in
set_option maxHeartbeats 4000000 in
theorem HO{E:RE}{w:AS}{p:Nat}{n:List (List AT)}{g a:Int}(at_:Nat)(hp:p≤E.s.size)(hat:at_≤1000)(hs:E.s.size≤1000)(hf:E.fl<256)(hn:n.length<1000000)(h:RD E w p g 0 a n){X:dF}(hX:uh (dS E.fl) (decide (E.fl%2=1)) E.l at_ p=some X):
 Calls PH 149 #[.pointer (some ⟨E.r,0,none⟩),.int .i64 at_] w (O0 E w n g a at_ X):=by
 have hlt:=h.rb.lt;have hlo:=h.lo;obtain⟨r1,hb,hO⟩:=ut w 0;have h7:dQ E w p az 0 a ((w.alloc (.cells Tryz.zeroCells149 149)).setCells w.heap.size 0 (ez 0 (aX az) (.slice none 0 0) 0 0 0)):=⟨.of hO,h.rb.old hO,hb⟩;generalize (w.alloc (.cells Tryz.zeroCells149 149)).setCells w.heap.size 0 (ez 0 (aX az) (.slice none 0 0) 0 0 0)=W1 at r1 h7;clear hb hO;unfold uh at hX;dsimp only at hX;rw[Kw]at hX;generalize hnt:jr E.s 0 p 94=nt at hX;have hh:=AI h;replace hX:=AI hX;replace h7:=AI h7;clear h;go_enter (PH.func Tryz.func149 (by decide)),Tryz.ntmps149
 go_upto_region 2 with fail
 clear r1;go_wp2_with fail
 refine(qe _ hnt (by decide) (hh.out.kr h7.out.kr h7.out.rb)).mono ?_;rintro e w2 ⟨rfl,m,rfl⟩;have hI1:=h7.out.drewN m;generalize W1.drewN m=w2 at hI1 ⊢;clear h7;obtain⟨p1,h8⟩:∃p1:Nat,p1=if nt=true then p+1 else p:=⟨_,rfl⟩
 rw[← h8]at hX;have hv:p1≤E.s.size:=by
  rw[h8];cases nt
  ·exact hp
  ·obtain⟨h1,_⟩:=(jK (by decide)).1 hnt;rw[if_pos rfl];omega
 have c1:=hI1.c1;have f:=hI1.rb.frozen;replace hI1:=AI hI1;go_upto_if 14 with fail
 go_cut [6] (fun s6 wx=>s6= .bool nt∧dQ E w p1 az 0 a wx)
 case first=>
  cases nt
  ·go_wp2_with fail
   go_meet
   case rel=>exact⟨rfl,by rw[show p1=p from h8];exact hI1.out⟩
  ·have hpe:(p:Int)+1=(p1:Int):=by have:p1=p+1:=h8;omega
   have hpi:(p:Int)≤1000:=by omega
   have hI2:=AI (hI1.out.move p1);replace h8:=AI h8;go_wp2_with fail
   go_meet
   case rel=>exact⟨rfl,hI2.out⟩
 case rest=>
  obtain⟨rfl,hI2⟩:=hcut;clear c1 f hI1 h8 hnt;have hst:JS E (dS E.fl) (decide (E.fl%2=1)) nt at_ w a X (.bool true) wc:=⟨p1,az,true,0,a,rfl,hI2,hv,.inl ⟨rfl,rfl,_,hX.out⟩⟩;replace hst:=AI hst;clear hI2 hX;go_wp2_with fail
  go_loopw [7,8] (fun x7 _ wr=>JS E (dS E.fl) (decide (E.fl%2=1)) nt at_ w a X x7 wr) (fun _ _ wr=>iK E wr)
  case atStart=>exact hst.out
  case round=>
   clear hst;obtain⟨q,S,first,k,a1,rfl,hI,hq,hj⟩:=hrel;have hqi:(q:Int)≤E.s.size:=by omega
   have c0:=hI.c0;have c1:=hI.c1;have c3:=hI.c3;have h5:=hh.out.kr hI.kr hI.rb;have hpos:=h5.pos;have hkd:=h5.kind;replace h5:=AI h5;replace hI:=AI hI;rcases hj with⟨rfl,rfl,f',hx⟩|⟨hk0,hm⟩
   ·cases f' with
    |zero=>cases hx
    |succ f'=>
    by_cases hl:q<E.s.size
    ·have hl2:(q:Int)<E.s.size:=by omega
     have hl3:¬ (E.s.size:Int)≤(q:Int):=by omega
     have hla:=fE hl;go_wp2_with fail
     go_quiet (fail)
     go_upto_region 10 with fail
     generalize hw5:wr.drewN nq=w5;have hI5:dQ E w q S 0 a1 w5:=by rw[← hw5];exact hI.out.drewN _
     replace hI5:=AI hI5;have hk:iK E wr=E.s.size+2-q:=by unfold iK;rw[hkd,if_pos rfl,hpos]
     clear hI h5 c0 c1 c3 hw5 hpos hkd;have c0:=hI5.out.c0;have c1:=hI5.out.c1;generalize hcl:(decide (E.s[q].toNat=93)&& !first)=cl;go_cut [53] (fun s53 wx=>s53= .bool cl∧dQ E w q S 0 a1 wx)
     case first=>
      by_cases h93:E.s[q].toNat=93
      ·have hw:(E.s[q].toNat:Int)=93:=by omega
       go_wp2_with fail
       go_quiet (fail)
       go_wp2_with fail
       go_meet
       case rel=>exact⟨by rw[← hcl];simp[h93],hI5.out.drewN _⟩
      ·have hw:((E.s[q].toNat:Int)==93)=false:=by simp;omega
       go_wp2_with fail
       go_quiet (fail)
       go_wp2_with fail
       go_meet
       case rel=>exact⟨by rw[← hcl];simp[h93],hI5.out.drewN _⟩
     case rest=>
      obtain⟨rfl,h0⟩:=hcut;clear c0 c1 hI5;cases cl
      ·have hno:¬ (E.s[q]=93∧first=false):=by
        rintro⟨h1,h2⟩;rw[h1,h2]at hcl;simp at hcl
       rw[Dk hla hno]at hx;replace h0:=AI h0;have hR6:=hh.out.kr h0.out.kr h0.out.rb;have hcall:=FF S hl hs hR6;rw[show E.l.drop (q+1)=E.l.drop (q+1)from rfl]at hcall;generalize hit:kg S E.s[q] (E.l.drop (q+1))=it at hx hcall;replace hcall:=AI hcall;clear hR6 hcl hno;go_wp2_with fail
       refine eC (.tmp 55) rfl 56 rfl _ 1 rfl S (BB.zK h0.out.nb) ?_;simp only[IN,zq0];go_wp2_with fail
       refine hcall.out.mono ?_;clear hcall;intro e w7 hQ;have hz:∃T q2 k2 a2,e= .returned (.agg (aX T).toArray)∧KR E wc w7∧ac w7 E.r 123 (rj E q2 k2 a2)∧q2≤E.s.size∧((k2=0∧a2=a1∧q<q2∧fI (dS E.fl) (decide (E.fl%2=1)) E.l nt at_ f' false T q2=some X)∨(k2≠0∧X.wr=some (k2,a2))):=by
        unfold yO at hQ;cases it with
        |inl kk=>
         dsimp only at hQ hx;obtain⟨T,p',he,hp',hK,hB⟩:=hQ;obtain rfl:=Option.some.inj hx;have hkk:=BU hit;exact⟨T,p',kk,q,he,hK,hB,hp',.inr ⟨by omega,rfl⟩⟩
        |inr y=>
         dsimp only at hQ hx;obtain⟨he,hK,hB⟩:=hQ;have hyl:=Ge hit;have hdl:(E.l.drop (q+1)).length=E.s.size- (q+1):=by simp[RE.l]
         exact⟨y.1,q+y.2,0,a1,he,hK,hB,by omega,.inl ⟨rfl,rfl,by omega,hx⟩⟩
       clear hQ hx hit;obtain⟨T,q2,k2,a2,rfl,hK7,ho,hq2,hc⟩:=hz;have hI7:=h0.out.LY hK7 ho;have hy:w.heap.size<w7.heap.size:=ac.lt hI7.nb;have hBn:BB (w7.alloc (.cells Tryz.zeroCells147 147)) w7.heap.size 147 [] az []:=by
        unfold BB;rw[PG,BY,qj];exact ac.new w7 _ _
       have h9:=hI7.alloc (.cells Tryz.zeroCells147 147);have r2:=dz (b:=w7.heap.size) (off:=0) (S:=T) (BB.gW hBn);have hB9:=BB.jM hBn T;have h4:=h9.cells hy 0 (aX T);generalize (w7.alloc (.cells Tryz.zeroCells147 147)).setCells w7.heap.size 0 (aX T)=w9 at r2 hB9 h4;replace hB9:=AI hB9;replace h4:=AI h4;clear h9 hBn hI7 hK7 ho h0;go_wp2_with fail
       clear r2;refine eC (.tmp 8) rfl 58 rfl _ 0 rfl T (BB.dK hB9.out) ?_;simp only[IN,zq0];have r3:=dz (b:=w.heap.size) (off:=1) (S:=T) (BB.za h4.out.nb);have h6:=h4.out.fill T;generalize w9.setCells w.heap.size 1 (aX T)=w10 at r3 h6;replace h6:=AI h6;clear hB9;go_wp2_with fail
       have hg:=hh.out.kr h6.out.kr h6.out.rb;refine⟨⟨q2,T,false,k2,a2,rfl,h6.out,hq2,?_⟩,?_⟩
       ·rcases hc with⟨h1,h2,_,h3⟩|⟨h1,h2⟩
        ·exact .inl ⟨h1,h2,f',h3⟩
        ·exact .inr ⟨h1,h2⟩
       ·rw[hk];unfold iK;rw[hg.kind,hg.pos];rcases hc with⟨h1,h2,h3,_⟩|⟨h1,h2⟩
        ·rw[if_pos h1];omega
        ·rw[if_neg h1];omega
      ·obtain⟨h93,rfl⟩:E.s[q].toNat=93∧first=false:=by simpa using hcl
       rw[BH hla ((f9 (n:=93) (by decide)).2 h93)]at hx;obtain rfl:=Option.some.inj hx;obtain⟨q2,hq2⟩:∃q2:Nat,q2=q+1:=⟨_,rfl⟩;have hq2e:(q:Int)+1=(q2:Int):=by omega
       have hq1i:(q:Int)≤1000:=by omega
       have c1:=h0.c1;have f:=h0.rb.frozen;have hI7:=h0.move q2;generalize hT:lv (decide (E.fl%2=1)) S=T;have hfin:pE (dS E.fl) (decide (E.fl%2=1)) nt S=if nt then(if dS E.fl then del (comp T) 10 else comp T)else T:=by
        unfold pE;rw[← hT];rfl
       replace hfin:=AI hfin;clear hcl hla h93;replace h0:=AI h0;replace hI7:=AI hI7;replace hq2:=AI hq2;go_upto_region 15 with fail
       generalize wc.setCell ⟨E.r,1,none⟩ (.int .i64 (q2:Int))=w7 at hI7 ⊢;clear c1 f h0;go_wp2_with fail
       refine eC (.tmp 68) rfl 69 rfl _ 1 rfl S (BB.zK hI7.out.nb) ?_;simp only[IN,zq0];go_wp2_with fail
       refine(xI S hf (hh.out.kr hI7.out.kr hI7.out.rb)).mono ?_;rintro e w8 ⟨rfl,hr⟩;rw[hT];have h9:=hI7.out.old hr;have r3:=dz (b:=w.heap.size) (off:=1) (S:=T) (BB.za h9.nb);have h4:=h9.fill T;generalize w8.setCells w.heap.size 1 (aX T)=w9 at r3 h4;replace h4:=AI h4;clear h9 hI7 hr;replace hT:=AI hT;go_upto_if 72 with fail
       clear r3;go_cut [9,10] (fun _ _ wx=>dQ E w q2 (if nt then(if dS E.fl then del (comp T) 10 else comp T)else T) 0 a1 wx)
       case first=>
        cases nt
        ·go_wp2_with fail
         go_meet
         case rel=>exact h4.out
        ·go_wp2_with fail
         go_loopw [9] (fun x wr=>∃i:Nat,i≤256∧x= .int .i64 i∧dQ E w q2 (ia i T) 0 a1 wr) (fun x _=>256- (intOf x).toNat)
         case atStart=>exact⟨0,by omega,rfl,by rw[show ia 0 T=T from by funext x;unfold ia;rw[if_neg (by omega)]];exact h4.out⟩
         case round=>
          obtain⟨i,hi,rfl,hIi⟩:=hrel;clear h4;by_cases hlt2:i<256
          ·have hii:(i:Int)<256:=by omega
           have g1:wr.cell? ⟨w.heap.size,1+i,none⟩=some (.bool (ia i T i)):=hIi.nb.get hlt2;have f:=ac.frozen hIi.nb;have hI2:=hIi.put i hlt2 (!(ia i T i));rw[zI]at hI2;replace hI2:=AI hI2;clear hIi;generalize ia i T i=bv at g1 hI2;go_wp2_with fail
           refine⟨⟨i+1,by omega,by simp,hI2.out⟩,by simp only[intOf];omega⟩
          ·obtain rfl:i=256:=by omega
           have hI3:dQ E w q2 (comp T) 0 a1 wr:=⟨hIi.kr,hIi.rb,BB.congr hIi.nb (ya fun x hx=>by unfold ia comp;rw[if_pos hx])⟩;clear hIi;have c2:=hI3.c2;have hRl:=hh.out.kr hI3.kr hI3.rb;have f:=ac.frozen hI3.nb;have g1:wr.cell? ⟨w.heap.size,11,none⟩=some (.bool (comp T 10)):=hI3.nb.get (i:=10) (by decide);have hI4:=hI3.put 10 (by decide) false;have e10:(fun x=>if x=10 then false else comp T x)=del (comp T) 10:=by
            funext x
            unfold del;by_cases h:x=10
            ·simp[h]
            ·simp[h]
           rw[e10]at hI4;replace hI4:dQ E w q2 (del (comp T) 10) 0 a1 (wr.setCell ⟨w.heap.size,11,none⟩ (.bool false)):=hI4;replace hI3:=AI hI3;replace hI4:=AI hI4;replace hRl:=AI hRl;clear e10;go_wp2_with fail
           refine(lines_any hf hRl.out).mono ?_;rintro e w11 ⟨rfl,rfl⟩;generalize ht:dS E.fl=lb;cases lb
           ·go_wp2_with fail
            go_meet
            case rel=>
             simp only[ht,if_true,Bool.false_eq_true,if_false];exact hI3.out
           ·go_wp2_with fail
            go_meet
            case rel=>
             simp only[ht,if_true];exact hI4.out
       case rest=>
        have hd:=hfin.out;generalize (if nt then(if dS E.fl then del (comp T) 10 else comp T)else T)=U at hcut hd;replace hd:=AI hd;clear hfin;replace hcut:=AI hcut;clear h4;go_wp2_with fail
        refine ue (.tmp 5) rfl 94 rfl _ rfl (ez 0 (aX U) (.slice none 0 0) 0 0 0) (j5 ..) (BB.whole hcut.out.nb) ?_;simp only[IN,zq0];go_wp2_with fail
        refine(qN _ (j5 ..) (qc _ _ _ _ _ _ rfl) hn (hh.out.kr hcut.out.kr hcut.out.rb)).mono ?_;rintro e w12 ⟨rfl,hK,hR⟩;have hK2:=(hcut.out.kr.rk hlo.1).trans hK;go_wp2;go_ret;exact⟨hK2,rfl,U,congrArg (dl at_) hd.out,by rw[← hq2.out];exact hR⟩
    ·have hl3:(E.s.size:Int)≤(q:Int):=by omega
     rw[Fq (oU hl)]at hx;obtain rfl:=Option.some.inj hx;go_wp2_with fail
     go_quiet (fail)
     go_wp2_with fail
     refine(sN 4 at_ (h5.out.drewN _)).mono ?_;rintro e w5 ⟨rfl,hK5,ha⟩;have hI5:=(hI.out.drewN _).LY (k':=4) (a':=at_) (q':=q) hK5 ha;have c3:=hI5.c3;replace hI5:=AI hI5;clear hI h5 hK5 ha;go_wp2;go_ret;exact⟨hI5.out.kr.rk hlo.1,rfl,by simp,q,hq,hh.out.kr hI5.out.kr hI5.out.rb⟩
   ·have hk0i:(k==0)=false:=by simpa using hk0
    have hk0j:decide (k=0)=false:=by simpa using hk0
    by_cases hl:(E.s.size:Int)≤(q:Int)
    ·go_wp2_with fail
     go_quiet (fail)
     go_wp2_with fail
     refine(sN 4 at_ (h5.out.drewN _)).mono ?_;rintro e w5 ⟨rfl,hK5,ha⟩;rw[if_neg hk0,if_neg hk0]at ha;have hI5:=(hI.out.drewN _).LY (k':=k) (a':=a1) (q':=q) hK5 ha;have c3:=hI5.c3;replace hI5:=AI hI5;clear hI h5 hK5 ha;go_wp2;go_ret;refine⟨hI5.out.kr.rk hlo.1,?_⟩;rw[hm];exact⟨rfl,hk0,q,hq,hh.out.kr hI5.out.kr hI5.out.rb⟩
    ·go_wp2_with fail
     go_quiet (fail)
     go_wp2;go_ret;refine⟨(hI.out.drewN _).kr.rk hlo.1,?_⟩;rw[hm];exact⟨rfl,hk0,q,hq,hh.out.kr (hI.out.drewN _).kr (hI.out.drewN _).rb⟩
end
section
open Go.RowKit
section
variable{E:RE}
def jd(i:Nat):an:=fun x=>decide (x<i)
theorem EG(i:Nat):(fun x=>if x=i then true else jd i x)=jd (i+1):=by
 funext x
 unfold jd;by_cases h:x=i
 ·subst h;simp
 ·rw[if_neg h];rw[PM];simp only[decide_eq_true_eq];omega
theorem nK{ln fold:Bool}{F:Nat}{d n g:Int}{p:Nat}{y:dF}{x:df Nd}(hy:bG ln fold E.l p=some y)(hw:y.wr=none)(h4:y.t.kind≠4)(hx:gS ln fold E.l (F+1) d ⟨p,n,g⟩=some x):
 x= .ok (if y.t.kind=2 then .edge (n+1) false else if y.t.kind=3 then .edge (n+1) true else .set (n+1) y.t.b0 y.t.b1 y.t.b2 y.t.b3) ⟨y.p,n+1,g⟩:=by
 unfold gS at hx;rw[hy]at hx;dsimp only at hx;rw[hw]at hx;dsimp only at hx;rw[if_neg h4]at hx;split at hx
 ·next h=>rw[if_pos h];exact(Option.some.inj hx).symm
 ·next h=>
  rw[if_neg h];split at hx
  ·next h3=>rw[if_pos h3];exact(Option.some.inj hx).symm
  ·next h3=>rw[if_neg h3];exact(Option.some.inj hx).symm
theorem oC{ln fold:Bool}{F:Nat}{d n g:Int}{p:Nat}{y:dF}{x:df Nd}{z:Int×Int}(hy:bG ln fold E.l p=some y)(hw:y.wr=some z)(hx:gS ln fold E.l (F+1) d ⟨p,n,g⟩=some x):x= .err z.1 z.2:=by
 unfold gS at hx;rw[hy]at hx;dsimp only at hx;rw[hw]at hx;exact(Option.some.inj hx).symm
theorem Jn{ln fold:Bool}{F:Nat}{d n g:Int}{p:Nat}{y:dF}{x:df Nd}(hy:bG ln fold E.l p=some y)(hw:y.wr=none)(h4:y.t.kind=4)(hx:gS ln fold E.l (F+1) d ⟨p,n,g⟩=some x):mr ln fold E.l F d ⟨p,n,g⟩=some x:=by
 unfold gS at hx;rw[hy]at hx;dsimp only at hx;rw[hw]at hx;dsimp only at hx;rwa [if_pos h4]at hx
theorem cG.set{w w':AS}{ns:List (List AT)}{p q:Nat}{g a n at_:Int}{S:an}(hK:RK E w w')(hR:RD E w' q g 0 a (ns++[ez 0 (aX S) (.slice none 0 0) 0 0 0]))(h1:p<q)(h2:q≤E.s.size)(h3:g≤9):
 cG E w ns p g a 0 (.ok (.set n (dl at_ S).b0 (dl at_ S).b1 (dl at_ S).b2 (dl at_ S).b3) ⟨q,n,g⟩) (.returned (.int .i64 ns.length)) w':=
 cG.ok hK hR (Nat.le_of_lt h1) h2 (PR _) h3 (by dsimp only;simp only[If,IS];omega) (.set S (ig ns _) rfl rfl rfl rfl)
theorem cG.up{w w1 w':AS}{ns:List (List AT)}{p q:Nat}{g a:Int}{x:df Nd}{e:Ending}(hq:q=p+1)(hp:p<E.s.size)(hK:RK E w w1)(h:cG E w1 ns q g a 4 x e w'):cG E w ns p g a 0 x e w'∧∀nd s,x= .ok nd s→p<s.p:=by
 obtain⟨hK2,k,ms,rfl,hres⟩:=h;cases x with
 |ok nd s=>
  obtain⟨h1,h2,h3,h4,h5,h6,h7⟩:=hres;have h8:=h7.keep (w':=w') [] (fun _ _ _ _ _=>rfl) (A':=fun b=>w.heap.size≤b) fun b _ hb=>PL hK.size hb
  rw[BY]at h8;refine⟨cG.ok (hK.trans hK2) h1 (by omega) h3 h4 h5 (by omega) h8,fun nd2 s2 h=> ?_⟩;cases h;omega
 |err k1 a1=>
  obtain⟨h1,p',g',h2,h3,h4⟩:=hres;exact⟨cG.err (hK.trans hK2) h1 h2 h3 (by omega),fun nd2 s2 h=>by(cases h)⟩
theorem E1{c:Nat}(h1:c≠40)(h2:c≠41)(h3:c≠124)(h4:c≠94)(h5:c≠36)(h6:¬ (c=42∨c=43∨c=63∨c=123)):kindOf c=1:=by
 unfold kindOf dH;rw[if_neg h1,if_neg h2,if_neg h3,if_neg h4,if_neg h5,if_neg (by omega),if_neg h6]
theorem GM(ln:Bool):aX (fun x=>if x=10 then !ln else jd 256 x)=aX (lu ln (bV az 0 255)):=ya fun x hx=>by
 unfold lu;have h1:bV az 0 255 x=true:=by unfold bV az;simp;omega
 have h2:jd 256 x=true:=by unfold jd;simpa using hx
 cases ln
 ·show(if x=10 then true else jd 256 x)=bV az 0 255 x;rw[h1];split
  ·rfl
  ·exact h2
 ·show(if x=10 then false else jd 256 x)=del (bV az 0 255) 10 x;unfold del;by_cases h:x=10
  ·rw[if_pos h];simp[h]
  ·rw[if_neg h,h1,h2];simp[h]
set_option maxRecDepth 10000 in
set_option maxHeartbeats 8000000 in
theorem FM(hs:E.s.size≤1000)(hf:E.fl<256)(F:Nat)(hG:∀f<F,AW E (mr (dS E.fl) (decide (E.fl%2=1)) E.l f)):AZ E (gS (dS E.fl) (decide (E.fl%2=1)) E.l F):=by
 intro w ns p g a d n x hF hat hnr hx;cases F with
 |zero=>cases hx
 |succ F=>
 have hp:=hat.1;have hlo:=hF.rd.lo;have hroom:=hF.room;have hd0:=hF.d0;have hdg:=hF.dg;have hg0:=hF.g0;have hg9:=hF.g9;have hlt:=hF.rd.rb.lt;have hla:=fE hp;have hp2:(p:Int)<E.s.size:=by omega
 have hp1000:p≤1000:=by omega
 obtain⟨q,hq⟩:∃q:Nat,q=p+1:=⟨_,rfl⟩;have hqe:(p:Int)+1=(q:Int):=by omega
 have hqs:q≤E.s.size:=by omega
 have hqi:(q:Int)≤E.s.size:=by omega
 have c0:w.cell? ⟨E.r,0,none⟩=some (.string E.s):=hF.rd.rb.cell 0;have c1:w.cell? ⟨E.r,1,none⟩=some (.int .i64 p):=hF.rd.rb.cell 1;have f:=hF.rd.rb.frozen;have hR1:RD E (w.setCell ⟨E.r,1,none⟩ (.int .i64 (q:Int))) q g 0 a ns:=hF.rd.dN 1 _ rfl;have hK1:RK E w (w.setCell ⟨E.r,1,none⟩ (.int .i64 (q:Int))):=(RK.refl E w).dN hlo (.inl rfl) 1 _;have hlen:ns.length<1000000:=by omega
 obtain⟨y,hy⟩:∃y,bG (dS E.fl) (decide (E.fl%2=1)) E.l p=some y:=by
  obtain⟨y,hy,_⟩:=eX (dS E.fl) (decide (E.fl%2=1)) E.l p (by simp[RE.l];omega);exact⟨y,hy⟩
 replace hR1:=AI hR1;replace hK1:=AI hK1;replace hx:=AI hx;replace hG:=AI hG;replace hq:=AI hq;clear hF;go_enter (PH.func Tryz.func123 (by decide)),Tryz.ntmps123
 go_upto_region 4 with fail
 generalize w.setCell ⟨E.r,1,none⟩ (.int .i64 (q:Int))=w1 at hR1 hK1 ⊢;clear c0 c1 f;obtain⟨y2,hy2,_,h5,hyp,hsok⟩:=eX (dS E.fl) (decide (E.fl%2=1)) E.l p (by simp[RE.l];omega);obtain rfl:y2=y:=Option.some.inj (hy2.symm.trans hy);have h9:y2.p≤E.s.size:=by simpa[RE.l]using hyp
 clear hy2 hyp;by_cases he:E.s[p].toNat=40
 ·have hn:(E.s[p].toNat:Int)=40:=by omega
  have hop:=vh (ln:=dS E.fl) (fold:=decide (E.fl%2=1)) hla he;obtain rfl:=Option.some.inj (hop.symm.trans hy);have hx2:=Jn hy rfl rfl hx.out;have hcall:=hG.out F (Q2 F) w1 ns p q g a d n x hq.out ⟨hR1.out,hqs,hg0,hg9,hd0,hdg,by omega⟩ (by rw[cN hp];exact he) hx2;replace hcall:=AI hcall;clear hx2 hy hop hsok h5 h9 hR1 hx hG hla hat hnr he;go_wp2_with fail
  refine hcall.out.mono ?_;rintro e w2 ⟨hK2,k,ms,rfl,hres⟩;have hfin:=cG.up hq.out hp hK1.out ⟨hK2,k,ms,rfl,hres⟩;replace hfin:=AI hfin;clear hK2 hres hcall;go_wp2;go_ret;exact hfin.out
 by_cases h91:E.s[p].toNat=91
 ·have h91i:(E.s[p].toNat:Int)=91:=by omega
  have hset:=Fs (ln:=dS E.fl) (fold:=decide (E.fl%2=1)) hla h91;rw[hy,← hq.out]at hset;have hcall:=HO p hqs hp1000 hs hf hlen hR1.out hset.symm;replace hcall:=AI hcall;clear hset hR1 hG hla hnr;go_wp2_with fail
  refine hcall.out.mono ?_;clear hcall;rintro e w2 ⟨hK2,hres⟩;have hK3:=hK1.out.trans hK2;cases ha:y2.wr with
  |none=>
   rw[ha]at hres;obtain⟨rfl,S,hS,hR2⟩:=hres;have ho:y2.t.kind=1:=by rw[hS];rfl
   have hm:y2.more=true:=by
    cases hm:y2.more
    ·rcases hsok.last hm with h|h
     ·omega
     ·have:=hsok.bad;rw[h,ha]at this;cases this
    ·rfl
   have hlt2:=h5 hm;have h0:=nK hy ha (by omega) hx.out;rw[if_neg (by omega),if_neg (by omega),hS]at h0;replace hK3:=AI hK3;replace hR2:=AI hR2;replace h0:=AI h0;clear hK2 hy hx hsok h5 hS ho;go_wp2;go_ret;rw[h0.out];refine⟨?_,fun nd s h=>by cases h;exact hlt2⟩;exact cG.ok hK3.out hR2.out (Nat.le_of_lt hlt2) h9 (PR _) hg9 (by dsimp only;simp only[If,IS];omega) (.set S (ig ns _) rfl rfl rfl rfl)
  |some z=>
   rw[ha]at hres;obtain⟨rfl,hz,p',hp',hR2⟩:=hres;have h0:=oC hy ha hx.out;replace hK3:=AI hK3;replace hR2:=AI hR2;replace h0:=AI h0;clear hK2 hy hx hsok h5;go_wp2;go_ret;rw[h0.out];exact⟨cG.err (k:=0) (ms:=[]) hK3.out hz (by rw[BY];exact hR2.out) (by omega) (by simp;omega),fun nd s h=>by(cases h)⟩
 by_cases h46:E.s[p].toNat=46
 ·have h46i:(E.s[p].toNat:Int)=46:=by omega
  have hop:=Fy (ln:=dS E.fl) (fold:=decide (E.fl%2=1)) hla h46;obtain rfl:=Option.some.inj (hop.symm.trans hy);have h0:x= .ok (.set (n+1) (dl p (lu (dS E.fl) (bV az 0 255))).b0 (dl p (lu (dS E.fl) (bV az 0 255))).b1 (dl p (lu (dS E.fl) (bV az 0 255))).b2 (dl p (lu (dS E.fl) (bV az 0 255))).b3) ⟨p+1,n+1,g⟩:=nK hy rfl (by simp[dl]) hx.out;replace h0:=AI h0;have hltr:E.r<w1.heap.size:=hR1.out.rb.lt;obtain⟨r1,hb,hO⟩:=ut w1 0;have hc:dQ E w1 q az 0 a ((w1.alloc (.cells Tryz.zeroCells149 149)).setCells w1.heap.size 0 (ez 0 (aX az) (.slice none 0 0) 0 0 0)):=⟨.of hO,hR1.out.rb.old hO,hb⟩;generalize (w1.alloc (.cells Tryz.zeroCells149 149)).setCells w1.heap.size 0 (ez 0 (aX az) (.slice none 0 0) 0 0 0)=W1 at r1 hc;replace hc:=AI hc;clear hop hy hx hsok h5 hG hla hat hnr h46 hb hO;go_wp2_with fail
  clear r1;go_loopw [8] (fun x wr=>∃i:Nat,i≤256∧x= .int .i64 i∧dQ E w1 q (jd i) 0 a wr) (fun x _=>256- (intOf x).toNat)
  case atStart=>exact⟨0,by omega,rfl,by rw[show jd 0=az from by funext x;unfold jd az;simp];exact hc.out⟩
  case round=>
   obtain⟨i,hi,rfl,hIi⟩:=hrel;clear hc;by_cases hlt2:i<256
   ·have hii:(i:Int)<256:=by omega
    have g1:wr.cell? ⟨w1.heap.size,1+i,none⟩=some (.bool (jd i i)):=hIi.nb.get hlt2;have f:=ac.frozen hIi.nb;have hI2:=hIi.put i hlt2 true;rw[EG]at hI2;replace hI2:=AI hI2;clear hIi;go_wp2_with fail
    refine⟨⟨i+1,by omega,by simp,hI2.out⟩,by simp only[intOf];omega⟩
   ·obtain rfl:i=256:=by omega
    have c2:=hIi.c2;have hRl:=hR1.out.kr hIi.kr hIi.rb;have f:=ac.frozen hIi.nb;have g1:wr.cell? ⟨w1.heap.size,11,none⟩=some (.bool (jd 256 10)):=hIi.nb.get (i:=10) (by decide);have hI4:dQ E w1 q (fun x=>if x=10 then !(dS E.fl)else jd 256 x) 0 a (wr.setCell ⟨w1.heap.size,11,none⟩ (.bool (!(dS E.fl)))):=hIi.put 10 (by decide) (!(dS E.fl));have hI5:dQ E w1 q (lu (dS E.fl) (bV az 0 255)) 0 a (wr.setCell ⟨w1.heap.size,11,none⟩ (.bool (!(dS E.fl)))):=⟨hI4.kr,hI4.rb,BB.congr hI4.nb (GM _)⟩;generalize lu (dS E.fl) (bV az 0 255)=U at hI5 h0;replace hI5:=AI hI5;replace hRl:=AI hRl;clear hIi hI4;go_wp2_with fail
    refine(lines_any hf hRl.out).mono ?_;rintro e w11 ⟨rfl,rfl⟩;generalize dS E.fl=lb at hI5 ⊢;go_wp2_with fail
    refine ue (.tmp 7) rfl 60 rfl _ rfl (ez 0 (aX U) (.slice none 0 0) 0 0 0) (j5 ..) (BB.whole hI5.out.nb) ?_;simp only[IN,zq0];go_wp2_with fail
    refine(qN _ (j5 ..) (qc _ _ _ _ _ _ rfl) hlen (hR1.out.kr hI5.out.kr hI5.out.rb)).mono ?_;rintro e w12 ⟨rfl,hK,h4⟩;have h3:=(hK1.out.trans (hI5.out.kr.rk hlo.1)).trans hK;replace h3:=AI h3;replace h4:=AI h4;clear hK hRl hI5;go_wp2;go_ret;rw[h0.out];refine⟨?_,fun nd s h=>by cases h;exact Q2 p⟩;exact cG.ok h3.out (by dsimp only;rw[← hq.out];exact h4.out) (by dsimp only;omega) (by dsimp only;omega) (PR _) hg9 (by dsimp only;simp only[If,IS];omega) (.set U (ig ns _) rfl rfl rfl rfl)
 by_cases h94:E.s[p].toNat=94
 ·have h94i:(E.s[p].toNat:Int)=94:=by omega
  have hop:=Fv (ln:=dS E.fl) (fold:=decide (E.fl%2=1)) hla h94;obtain rfl:=Option.some.inj (hop.symm.trans hy);have h0:x= .ok (.edge (n+1) false) ⟨p+1,n+1,g⟩:=nK hy rfl (by simp[gl]) hx.out;replace h0:=AI h0;clear hop hy hx hsok h5 h9 hG hla hat hnr h94;go_wp2_with fail
  refine(fJ _ 1 0 0 0 (.slice none 0 0) (by rfl) rfl hlen hR1.out).mono ?_;rintro e w9 ⟨rfl,hK9,h4⟩;have h3:=hK1.out.trans hK9;replace h3:=AI h3;replace h4:=AI h4;clear hK9 hR1;go_wp2;go_ret;rw[h0.out];refine⟨?_,fun nd s h=>by cases h;exact Q2 p⟩;exact cG.ok h3.out (by dsimp only;rw[← hq.out];exact h4.out) (by dsimp only;omega) (by dsimp only;omega) (PR _) hg9 (by dsimp only;simp only[If,IS];omega) (.edge (ig ns _))
 by_cases h36:E.s[p].toNat=36
 ·have h36i:(E.s[p].toNat:Int)=36:=by omega
  have hop:=zy (ln:=dS E.fl) (fold:=decide (E.fl%2=1)) hla h36;obtain rfl:=Option.some.inj (hop.symm.trans hy);have h0:x= .ok (.edge (n+1) true) ⟨p+1,n+1,g⟩:=nK hy rfl (by simp[gl]) hx.out;replace h0:=AI h0;clear hop hy hx hsok h5 h9 hG hla hat hnr h36;go_wp2_with fail
  refine(fJ _ 2 0 0 0 (.slice none 0 0) (by rfl) rfl hlen hR1.out).mono ?_;rintro e w9 ⟨rfl,hK9,h4⟩;have h3:=hK1.out.trans hK9;replace h3:=AI h3;replace h4:=AI h4;clear hK9 hR1;go_wp2;go_ret;rw[h0.out];refine⟨?_,fun nd s h=>by cases h;exact Q2 p⟩;exact cG.ok h3.out (by dsimp only;rw[← hq.out];exact h4.out) (by dsimp only;omega) (by dsimp only;omega) (PR _) hg9 (by dsimp only;simp only[If,IS];omega) (.edge (ig ns _))
 by_cases h92:E.s[p].toNat=92
 ·have h92i:(E.s[p].toNat:Int)=92:=by omega
  by_cases hl:q<E.s.size
  ·have hl2:((q:Int)==(E.s.size:Int))=false:=by simp;omega
   have hl3:(q:Int)<E.s.size:=by omega
   have hla2:E.l.drop p=E.s[p]::E.s[q]::E.l.drop (q+1):=by
    rw[hla,← hq.out,fE hl]
   have hop:=Fw (ln:=dS E.fl) (fold:=decide (E.fl%2=1)) hla2 h92;rw[hy]at hop;obtain⟨q2,hq2⟩:∃q2:Nat,q2=q+1:=⟨_,rfl⟩;have hq2e:(q:Int)+1=(q2:Int):=by omega
   have c0:w1.cell? ⟨E.r,0,none⟩=some (.string E.s):=hR1.out.rb.cell 0;have c1:w1.cell? ⟨E.r,1,none⟩=some (.int .i64 q):=hR1.out.rb.cell 1;replace hop:=AI hop;replace hq2:=AI hq2;clear hla2 hla hG hat hnr h92;go_wp2_with fail
   go_quiet (fail)
   go_upto_region 26 with fail
   go_cut [6] (fun s6 wx=>s6= .int .u8 (E.s[q].toNat)∧∃m,wx=w1.drewN m)
   case first=>
    generalize hw5:w1.drewN nq=w5;have c0:w5.cell? ⟨E.r,0,none⟩=some (.string E.s):=by rw[← hw5];exact(hR1.out.drewN _).rb.cell 0
    have c1:w5.cell? ⟨E.r,1,none⟩=some (.int .i64 q):=by rw[← hw5];exact(hR1.out.drewN _).rb.cell 1
    replace hw5:=AI hw5;go_wp2_with fail
    go_quiet (fail)
    go_wp2_with fail
    go_meet
    case rel=>exact⟨rfl,_,by rw[← hw5.out,Qr]⟩
   case rest=>
    obtain⟨rfl,m,rfl⟩:=hcut;clear c0 c1;have hR2:=hR1.out.drewN m;have hK2:=hK1.out.drewN m;generalize w1.drewN m=w2 at hR2 hK2 ⊢;have c1:w2.cell? ⟨E.r,1,none⟩=some (.int .i64 q):=hR2.rb.cell 1;have f:=hR2.rb.frozen;have hR3:RD E (w2.setCell ⟨E.r,1,none⟩ (.int .i64 (q2:Int))) q2 g 0 a ns:=hR2.dN 1 _ rfl;have hK3:=hK2.dN hlo (.inl rfl) 1 (.int .i64 (q2:Int));replace hR3:=AI hR3;replace hK3:=AI hK3;clear hR1 hK1 hR2 hK2;go_upto_region 28 with fail
    generalize w2.setCell ⟨E.r,1,none⟩ (.int .i64 (q2:Int))=w3 at hR3 hK3 ⊢;clear c1 f;generalize hj:inB ⟨#[40,41,91,46,94,36,92,124,42,43,63,123,93,125]⟩ E.s[q].toNat=ib;have h8:inB ⟨#[40,41,91,46,94,36,92,124,42,43,63,123,93,125]⟩ E.s[q].toNat=decide (0≤No sE E.s[q]):=Gk sE _;rw[hj]at h8;replace h8:=AI h8;go_wp2_with fail
    refine(Ab _ _ _ _ hj (by decide)).mono ?_;rintro e w4 ⟨rfl,rfl⟩;generalize h7:(decide (49≤E.s[q].toNat)&&decide (E.s[q].toNat≤57))=dg;go_upto_region 29 with fail
    go_cut [110] (fun s110 wx=>s110= .bool dg∧wx=w4)
    case first=>
     by_cases h1:49≤E.s[q].toNat
     ·have h1i:decide ((49:Int)≤E.s[q].toNat)=true:=by simp;omega
      have h1j:(49:Int)≤E.s[q].toNat:=by omega
      by_cases h2:E.s[q].toNat≤57
      ·have h2j:(E.s[q].toNat:Int)≤57:=by omega
       go_wp2_with fail
       go_meet
       case rel=>exact⟨by rw[← h7];simp[h1,h2],rfl⟩
      ·have h2i:decide ((E.s[q].toNat:Int)≤57)=false:=by simp;omega
       go_wp2_with fail
       go_meet
       case rel=>exact⟨by rw[← h7];simp[h1,h2],rfl⟩
     ·have h1i:decide ((49:Int)≤E.s[q].toNat)=false:=by simp;omega
      go_wp2_with fail
      go_meet
      case rel=>exact⟨by rw[← h7];simp[h1],rfl⟩
    case rest=>
     obtain⟨rfl,rfl⟩:=hcut;go_upto_if 110 with fail
     go_cut [10] (fun s10 wx=>s10= .bool ib∧RK E w wx∧RD E wx q2 g (if dg=true then 3 else 0) (if dg=true then(p:Int)else a) ns)
     case first=>
      cases dg
      ·go_wp2_with fail
       go_meet
       case rel=>exact⟨rfl,hK3.out,hR3.out⟩
      ·go_wp2_with fail
       refine(io 3 p hR3.out).mono ?_;rintro e w5 ⟨rfl,hK5,hR5⟩;have hK6:=hK3.out.trans hK5;replace hK6:=AI hK6;replace hR5:=AI hR5;clear hK5 hR3 hK3;go_wp2_with fail
       go_meet
       case rel=>exact⟨rfl,hK6.out,hR5.out⟩
     case rest=>
      obtain⟨rfl,hK6,hR6⟩:=hcut;clear hR3 hK3;replace hK6:=AI hK6;replace hR6:=AI hR6;cases ib
      ·go_wp2_with fail
       refine(io 2 p hR6.out).mono ?_;rintro e w7 ⟨rfl,hK7,hg⟩;have hh:=hK6.out.trans hK7;replace hh:=AI hh;replace hg:=AI hg;clear hK7 hK6 hR6;go_wp2_with fail
       refine(one_any _ (u8_in hl) hf hlen hg.out).mono ?_;rintro e w9 ⟨rfl,hK9,h4⟩;have h3:=hh.out.trans hK9;replace h3:=AI h3;replace h4:=AI h4;clear hK9 hh hg;go_wp2;go_ret;have hr:=hq2.out;have ht:=hq.out;have hd:No sE E.s[q]<0:=by
        have:=h8.out.symm;simp only[decide_eq_false_iff_not]at this;omega
       cases dg
       ·have h6:=hop.out;rw[if_neg (by intro h;have:=h7;simp[h.1,h.2]at this),if_pos hd]at h6;obtain rfl:=Option.some.inj h6;have h0:=oC hy rfl hx.out;rw[h0];exact⟨cG.err h3.out (by simp) h4.out (by omega) (by simp;omega),fun nd s h=>by(cases h)⟩
       ·have h6:=hop.out;rw[if_pos (by simpa using h7)]at h6;obtain rfl:=Option.some.inj h6;have h0:=oC hy rfl hx.out;rw[h0];exact⟨cG.err h3.out (by simp) h4.out (by omega) (by simp;omega),fun nd s h=>by(cases h)⟩
      ·go_wp2_with fail
       refine(one_any _ (u8_in hl) hf hlen hR6.out).mono ?_;rintro e w9 ⟨rfl,hK9,h4⟩;have h3:=hK6.out.trans hK9;replace h3:=AI h3;replace h4:=AI h4;clear hK9 hK6 hR6;go_wp2;go_ret;have hr:=hq2.out;have ht:=hq.out;have hd:¬ No sE E.s[q]<0:=by
        have:=h8.out.symm;simp only[decide_eq_true_eq]at this;omega
       cases dg
       ·have h6:=hop.out;rw[if_neg (by intro h;have:=h7;simp[h.1,h.2]at this),if_neg hd]at h6;obtain rfl:=Option.some.inj h6;generalize hS:lv (decide (E.fl%2=1)) (bV az E.s[q].toNat E.s[q].toNat)=S at hy;have h0:x= .ok (.set (n+1) (dl p S).b0 (dl p S).b1 (dl p S).b2 (dl p S).b3) ⟨p+2,n+1,g⟩:=nK hy rfl (by simp[dl]) hx.out;rw[h0];refine⟨?_,fun nd s h=>by cases h;dsimp only;omega⟩;exact cG.ok h3.out (by dsimp only;rw[show p+2=q2 from by omega];exact h4.out) (by dsimp only;omega) (by dsimp only;omega) (PR _) hg9 (by dsimp only;simp only[If,IS];omega) (.set S (by rw[hS];exact ig ns _) rfl rfl rfl rfl)
       ·have h6:=hop.out;rw[if_pos (by simpa using h7)]at h6;obtain rfl:=Option.some.inj h6;have h0:=oC hy rfl hx.out;rw[h0];exact⟨cG.err h3.out (by simp) h4.out (by omega) (by simp;omega),fun nd s h=>by(cases h)⟩
  ·have hqe2:(q:Int)=(E.s.size:Int):=by omega
   have hla2:E.l.drop p=[E.s[p]]:=by rw[hla,← hq.out,oU hl]
   have hop:=Dn (ln:=dS E.fl) (fold:=decide (E.fl%2=1)) hla2 h92;obtain rfl:=Option.some.inj (hop.symm.trans hy);have h0:=oC hy rfl hx.out;have c0:w1.cell? ⟨E.r,0,none⟩=some (.string E.s):=hR1.out.rb.cell 0;have c1:w1.cell? ⟨E.r,1,none⟩=some (.int .i64 q):=hR1.out.rb.cell 1;replace h0:=AI h0;clear hop hy hx hsok h5 hG hla hla2 hat hnr h92;go_wp2_with fail
   go_quiet (fail)
   go_wp2_with fail
   refine(io 2 p (hR1.out.drewN _)).mono ?_;rintro e w5 ⟨rfl,hK5,hR5⟩;have hK6:=(hK1.out.drewN _).trans hK5;replace hK6:=AI hK6;replace hR5:=AI hR5;clear hK5;go_wp2;go_ret;rw[h0.out];exact⟨cG.err (k:=0) (ms:=[]) hK6.out (by simp) (by rw[BY];exact hR5.out) (by omega) (by simp;omega),fun nd s h=>by(cases h)⟩
 ·have hk:kindOf E.s[p].toNat=1:=by
   refine E1 he ?_ ?_ h94 h36 ?_
   ·rw[← cN hp];exact hat.2.2
   ·rw[← cN hp];exact hat.2.1
   ·unfold jN at hnr;rw[cN hp]at hnr;exact hnr
  have hop:=Fu (ln:=dS E.fl) (fold:=decide (E.fl%2=1)) hla hk h91 h46 h92;obtain rfl:=Option.some.inj (hop.symm.trans hy);generalize hS:lv (decide (E.fl%2=1)) (bV az E.s[p].toNat E.s[p].toNat)=S at hy;have h0:x= .ok (.set (n+1) (dl p S).b0 (dl p S).b1 (dl p S).b2 (dl p S).b3) ⟨p+1,n+1,g⟩:=nK hy rfl (by simp[dl]) hx.out;replace hS:=AI hS;replace h0:=AI h0;have hn:((E.s[p].toNat:Int)==40)=false:=by simp;omega
  have h91i:((E.s[p].toNat:Int)==91)=false:=by simp;omega
  have h46i:((E.s[p].toNat:Int)==46)=false:=by simp;omega
  have h94i:((E.s[p].toNat:Int)==94)=false:=by simp;omega
  have h36i:((E.s[p].toNat:Int)==36)=false:=by simp;omega
  have h92i:((E.s[p].toNat:Int)==92)=false:=by simp;omega
  clear hop hy hx hsok h5 hG hla hat hnr hk;go_wp2_with fail
  refine(one_any _ (u8_in hp) hf hlen hR1.out).mono ?_;rintro e w9 ⟨rfl,hK9,h4⟩;have h3:=hK1.out.trans hK9;replace h3:=AI h3;replace h4:=AI h4;clear hK9 hR1;go_wp2;go_ret;rw[h0.out];refine⟨?_,fun nd s h=>by cases h;exact Q2 p⟩;exact cG.ok h3.out (by dsimp only;rw[← hq.out];exact h4.out) (by dsimp only;omega) (by dsimp only;omega) (PR _) hg9 (by dsimp only;simp only[If,IS];omega) (.set S (by rw[hS.out];exact ig ns _) rfl rfl rfl rfl)
end
end
section
open Go.RowKit
section
variable{E:RE}{ln fold:Bool}
structure JW(E:RE)(ln fold:Bool)(w0:AS)(ns:List (List AT))(p:Nat)(g a d id:Int)(F:Nat)(x:df Nd)(v:AT)(wr:AS):Prop where
 st:∃(ms:List (List AT))(q:Nat)(g' n':Int)(nds:List Nd)(f':Nat),f'≤F∧nl ln fold E.l f' d id nds ⟨q,n',g'⟩=some x∧RD E wr q g' 0 a (ns++ms)∧fG E w0 wr (ns++ms) v nds∧p≤q∧q≤E.s.size∧g≤g'∧g'≤9∧ms.length≤4*(q-p)∧nds.length≤q-p
 rk:RK E w0 wr
set_option maxRecDepth 10000 in
set_option maxHeartbeats 4000000 in
theorem FG(hs:E.s.size≤1000)(F:Nat)(hB:∀f<F,AY E (sj ln fold E.l f)):AX E (mM ln fold E.l F):=by
 intro w ns p g a d n x hF hx;cases F with
 |zero=>cases hx
 |succ F=>
 have hx':nl ln fold E.l F d (n+1) [] ⟨p,n+1,g⟩=some x:=hx;clear hx;have hlo:=hF.rd.lo;have hA:JW E ln fold w ns p g a d (n+1) F x (.slice none 0 0) w:=⟨⟨[],p,g,n+1,[],F,OF _,hx',by rw[BY];exact hF.rd,by rw[BY];exact fG.start E w ns,OF _,hF.le,PR _,hF.g9,by simp,by simp⟩,RK.refl E w⟩;have hroom:=hF.room;have hd0:=hF.d0;have hdg:=hF.dg;have hg0:=hF.g0;have hg9:=hF.g9;have hlt:=hF.rd.rb.lt;replace hA:=AI hA;replace hB:=AI hB;clear hx' hF;go_enter (PH.func Tryz.func43 (by decide)),Tryz.ntmps43
 go_wp2_with fail
 go_loopw [5,6,7] (fun x5 _ _ wr=>JW E ln fold w ns p g a d (n+1) F x x5 wr) (fun _ _ _ wr=>E.s.size+1-posR E wr)
 case atStart=>exact hA.out
 case round=>
  clear hA;obtain⟨⟨ms,q,g',n',nds,f',hf',hx,hR,hK,hpq,hq,hgg,h9,hms,ha⟩,hrk⟩:=hrel;have hpos:=hR.pos;cases f' with
  |zero=>cases hx
  |succ f'=>
  rcases j3 hx with⟨k1,a1,hy,hh⟩|⟨nd,s1,hy,hx2⟩
  ·have hcall:=hB.out f' (by omega) wr (ns++ms) q g' a d n' _ ⟨hR,hq,by omega,h9,hd0,by omega,by simp only[By];omega⟩ hy;go_wp2_with fail
   refine hcall.mono ?_;rintro e w1 ⟨hK1,k,ms2,rfl,hk0,p1,g1,hR1,hp1,hi⟩;obtain⟨ks,hrow,h5⟩:=hK.keep (hK1.gU hR) ms2;have hc:ks.length<1000000:=by have:=h5.len;omega
   have h0:=hrow.1.alloc (.cells #[.int .i64 (k:Int)] 3);have h7:=hR1.old ((Old.refl w1).alloc (.cells #[.int .i64 (k:Int)] 3));have h6:=(hrk.trans hK1).alloc (.cells #[.int .i64 (k:Int)] 3);have hown:=fun(b:Nat) hb=>(fG.lt hK (b:=b) hb).1
   replace h0:=AI h0;replace h7:=AI h7;replace h6:=AI h6;replace hown:=AI hown;replace h5:=AI h5;clear hcall hR hK hrk hK1 hrow hR1;go_wp2_with (first |(refine gV (.tmp 11) (.tmp 13) rfl rfl 14 rfl w.heap.size _ ks.length _ rfl h0.out w1.heap.size (.int .i64 (k:Int)) rfl (by go_simp) rfl hc (by have:=h6.out.size;simpa using this) ?_;intro gg cap w2 h1 h2 h3 h4)|fail)
   have hR2:=h7.out.grown h0.out h2;have hK2:=h6.out.grown h2 hown.out;have hlen:(ns++ms++ms2).length<1000000:=by simp only[By];omega
   replace hR2:=AI hR2;replace hK2:=AI hK2;clear h1 h2 h3 h4 h7 h6 h0 hown h5;refine(A7 124 (by decide) hR2.out).mono ?_;rintro e w3 ⟨rfl,m,rfl⟩;rw[E3 hk0];go_wp2_with fail
   refine(fJ _ 4 0 0 0 _ (by rfl) rfl hlen (hR2.out.drewN m)).mono ?_;rintro e w4 ⟨rfl,hK4,hR4⟩;go_wp2;go_ret;have hR5:=hR4;simp only[PD]at hR5;rw[hh];exact cG.err ((hK2.out.drewN m).trans hK4) hk0 hR5 (by omega) (by simp only[By,If,IS];omega)
  ·have hcall:=hB.out f' (by omega) wr (ns++ms) q g' a d n' _ ⟨hR,hq,by omega,h9,hd0,by omega,by simp only[By];omega⟩ hy;go_wp2_with fail
   refine hcall.mono ?_;rintro e w1 ⟨hK1,k,ms2,rfl,hR1,hq1,hj,hg1,hg,hi,hn1⟩;have hd:=hK.apart hrk.size hn1;obtain⟨ks,hrow,h5⟩:=hK.keep (hK1.gU hR) ms2;have hc:ks.length<1000000:=by have:=h5.len;omega
   have h0:=hrow.1.alloc (.cells #[.int .i64 (k:Int)] 3);have h7:=hR1.old ((Old.refl w1).alloc (.cells #[.int .i64 (k:Int)] 3));have h6:=(hrk.trans hK1).alloc (.cells #[.int .i64 (k:Int)] 3);have hown:=fun(b:Nat) hb=>(fG.lt hK (b:=b) hb).1
   have hsz1:(w1.alloc (.cells #[.int .i64 (k:Int)] 3)).heap.size=w1.heap.size+1:=by simp
   replace h0:=AI h0;replace h7:=AI h7;replace h6:=AI h6;replace hown:=AI hown;replace h5:=AI h5;replace hd:=AI hd;clear hcall hR hK hrk hK1 hrow hR1 hn1;go_wp2_with (first |(refine gV (.tmp 11) (.tmp 13) rfl rfl 14 rfl w.heap.size _ ks.length _ rfl h0.out w1.heap.size (.int .i64 (k:Int)) rfl (by go_simp) rfl hc (by have:=h6.out.size;simpa using this) ?_;intro gg cap w2 h1 h2 h3 h4)|fail)
   have hR2:=h7.out.grown h0.out h2;have hK2:=h6.out.grown h2 hown.out;have hkid:=fG.grow h5.out hd.out ((Old.refl w1).alloc _) h1 h2 h3;have hlen:(ns++ms++ms2).length<1000000:=by simp only[By];omega
   replace hR2:=AI hR2;replace hK2:=AI hK2;replace hkid:=AI hkid;clear h1 h2 h3 h4 h7 h6 h0 hown h5 hsz1;generalize hbb:jr E.s 0 s1.p 124=bb;refine(qe _ hbb (by decide) hR2.out).mono ?_;rintro e w3 ⟨rfl,m,rfl⟩;cases hy2:bG ln fold E.l s1.p with
   |none=>rw[hy2]at hx2;cases hx2
   |some y=>
    rw[hy2]at hx2;dsimp only at hx2;have hk6:=(tb hy2).1;rw[hbb]at hk6;cases bb
    ·rw[if_neg (by rw[hk6];simp)]at hx2;obtain rfl:df.ok (.alt (n+1) (nds++[nd])) s1=x:=by simpa using hx2
     go_wp2_with fail
     refine(fJ _ 4 0 0 0 _ (by rfl) rfl hlen (hR2.out.drewN m)).mono ?_;rintro e w4 ⟨rfl,hK4,hR4⟩;go_wp2;go_ret;obtain⟨ks2,hf,he⟩:=(hkid.out.keep (fun A=>hK4.gU (hR2.out.drewN m) A) [ez 4 (aX az) (.slice (some ⟨gg,0,none⟩) (ks.length+1:Nat) cap) 0 0 0]).done (by omega);have hR5:=hR4;have ha:=gQ.alt (id:=n+1) (ig (ns++ms++ms2) (ez 4 (aX az) (.slice (some ⟨gg,0,none⟩) (ks.length+1:Nat) cap) 0 0 0)) hf he;have hk:((ns.length:Int)+(ms.length+ms2.length))=(((ns++ms++ms2).length:Nat):Int):=by simp only[By];omega
     show cG E w ns p g a 2 _ (.returned (.int .i64 ((ns.length:Int)+(ms.length+ms2.length)))) w4;rw[hk];simp only[PD]at hR5 ha ⊢;exact cG.ok ((hK2.out.drewN m).trans hK4) hR5 (by omega) hj (by omega) hg (by simp only[By,If,IS];omega) ha
    ·rw[if_pos (hk6.2 rfl)]at hx2;obtain⟨hlt1,hc124⟩:=(jK (by decide)).1 hbb;rw[Fz (fE hlt1) hc124]at hy2;obtain rfl:=Option.some.inj hy2;obtain⟨q2,hq2⟩:∃q2:Nat,q2=s1.p+1:=⟨_,rfl⟩;have hq2e:(s1.p:Int)+1=(q2:Int):=by omega
     have hs1i:(s1.p:Int)≤1000:=by omega
     have c1:(w2.drewN m).cell? ⟨E.r,1,none⟩=some (.int .i64 s1.p):=(hR2.out.drewN m).rb.cell 1;have f:=(hR2.out.drewN m).rb.frozen;have hR3:RD E ((w2.drewN m).setCell ⟨E.r,1,none⟩ (.int .i64 (q2:Int))) q2 s1.g 0 a (ns++ms++ms2):=(hR2.out.drewN m).dN 1 _ rfl;have hK3:=(hK2.out.drewN m).dN hlo (.inl rfl) 1 (.int .i64 (q2:Int));have hkid3:=(hkid.out.keep (eT.drewN w2 m) []).keep (eT.dN (hR2.out.drewN m) 1 (.int .i64 (q2:Int))) [];rw[BY,BY]at hkid3;dsimp only at hx2;rw[← hq2]at hx2;have hpos3:=hR3.pos;replace hR3:=AI hR3;replace hK3:=AI hK3;replace hkid3:=AI hkid3;replace hx2:=AI hx2;replace hq2:=AI hq2;clear hR2 hK2 hkid hk6 hbb hc124;go_wp2_with fail
     have hR5:=hR3.out;have h8:=hkid3.out;rw[PD]at hR5 h8;have hq3:=hq2.out;refine⟨⟨⟨ms++ms2,q2,s1.g,s1.n,nds++[nd],f',by omega,hx2.out,hR5,h8,by omega,by omega,by omega,hg,by simp only[By];omega,by simp only[By,If,IS];omega⟩,hK3.out⟩,?_⟩;rw[hpos3,hpos];omega
end
end
section
open Go.RowKit
theorem Dv{E:RE}(hs:E.s.size≤1000)(hf:E.fl<256):∀F:Nat,
 AX E (mM (dS E.fl) (decide (E.fl%2=1)) E.l F)∧AY E (sj (dS E.fl) (decide (E.fl%2=1)) E.l F)∧AV E (o8 (dS E.fl) (decide (E.fl%2=1)) E.l F)∧
 AZ E (gS (dS E.fl) (decide (E.fl%2=1)) E.l F)∧AW E (mr (dS E.fl) (decide (E.fl%2=1)) E.l F):=by
 intro F;induction F using Nat.strongRecOn with
 |ind F ih=>
  refine⟨FG hs F fun f hf=>(ih f hf).2.1,BO hs F (fun f hf=>(ih f hf).2.2.1) fun w ns p g a d b h1 h2 h3=>Dq hs w ns p g a d b h1 h2 h3,Dr hs F fun f hf=>(ih f hf).2.2.2.1,FM hs hf F fun f hf=>(ih f hf).2.2.2.2,Ds hs F fun f hf=>(ih f hf).1⟩
def Lo(n0:Nat)(w':AS)(fl:Nat)(r:Option (df Nd))(v:AT):Prop:=match r with
 |some (.ok nd σ)=>∃x,v= .tuple #[.pointer (some ⟨x,0,none⟩),.int .i64 0,.int .i64 0]∧n0≤x∧∃ns sl root,ac w' x 83 #[sl,.int .i64 (root:Nat),.int .i64 σ.g,.int .i64 fl]∧w'.ownsRow n0 149 261 sl ns.length ns.flatten∧gQ n0 w' ns (fun b=>n0≤b) root nd
 |some (.err k a)=>v= .tuple #[.pointer none,.int .i64 k,.int .i64 a]∧k≠0
 |none=>False
theorem RD.Cl{E:RE}{w:AS}{p:Nat}{g k a:Int}{n:List (List AT)}(h:RD E w p g k a n)(v:AT):RD E (w.setCell ⟨E.x,1,none⟩ v) p g k a n∧∃sl,ac (w.setCell ⟨E.x,1,none⟩ v) E.x 83 #[sl,v,.int .i64 g,.int .i64 E.fl]∧(w.setCell ⟨E.x,1,none⟩ v).ownsRow E.B 149 261 sl n.length n.flatten:=by
 obtain⟨sl,xs,root,h1,h2,h3⟩:=h.xb;have hne:E.r≠E.x:=fun e=>by
  have h4:=h.rb;rw[e]at h4;have:=h4.symm.trans h1;simp at this
 have hb:ac (w.setCell ⟨E.x,1,none⟩ v) E.x 83 #[sl,v,.int .i64 g,.int .i64 E.fl]:=by have:=h1.ci 1 v;simpa using this
 have ho:(w.setCell ⟨E.x,1,none⟩ v).ownsRow E.B 149 261 sl n.length xs:=by
  refine⟨h2.1,?_⟩;rcases h2.2 with h4|⟨q,cap,cur,h4,h5,h6,h7⟩
  ·exact .inl h4
  ·refine .inr ⟨q,cap,cur,h4,h5,?_,h7⟩;rw[Below.heap_setCell _ _ _ q (by
    dsimp only;rintro rfl;have:=h1.symm.trans h6;simp at this)]
   exact h6
 exact⟨⟨h.rb.far hne _,⟨sl,xs,v,hb,ho,h3⟩,h.lo⟩,sl,hb,by rw[← h3];exact ho⟩
theorem eT.Nx{E:RE}{w:AS}{p:Nat}{g k a:Int}{n:List (List AT)}(hd:RD E w p g k a n)(i:Nat)(v:AT)(A:Nat→Prop):eT w (w.setCell ⟨E.x,i,none⟩ v) A:=fun b c z _ hb=>Below.heap_setCell _ _ _ b (by
 dsimp only;rintro rfl;obtain⟨sl,xs,root,h1,_⟩:=hd.xb;have:=h1.symm.trans hb;simp at this)
theorem Old.Hp{E:RE}{a b c:AS}(h:Old a b)(k:RK E b c)(hB:a.heap.size≤E.B):Old a c:=⟨fun i hi=>(k.old i (PO hi h.size) (.inl (PO hi hB))).trans (h.old i hi),PL h.size k.size,k.os.trans h.os,k.out.trans h.out⟩
set_option maxRecDepth 10000 in
set_option maxHeartbeats 4000000 in
theorem sg(s:ByteArray)(fl:Nat)(hf:fl<256)(w:AS):
 Calls PH 30 #[.string s,.int .i64 fl] w fun e w'=>∃v,e= .returned v∧Old w w'∧Lo w.heap.size w' fl (gR s fl) v:=by
 by_cases h120:120<s.size
 ·have h2:(120:Int)<s.size:=by omega
  go_enter (PH.func Tryz.func30 (by decide)),Tryz.ntmps30
  go_wp2;go_ret3
  refine⟨_,rfl,Old.refl w,?_⟩;unfold gR;rw[if_pos h120];exact⟨rfl,by decide⟩
 ·have h2:¬ (120:Int)<s.size:=by omega
  have hfull:gR s fl=mM (dS fl) (decide (fl%2=1)) s.data.toList (deep+8) 0 ⟨0,0,0⟩:=by
   unfold gR;rw[if_neg h120];rfl
  obtain⟨ts,wr,_,_,r,r',_,h3,_⟩:=xw (dS fl) (decide (fl%2=1)) s.data.toList (by simpa using(show s.size≤120 by omega)) pu;have hx:mM (dS fl) (decide (fl%2=1)) s.data.toList (deep+8) 0 ⟨0,0,0⟩=some r':=h3;rw[hx]at hfull;clear h3;have h4:RD ⟨w.heap.size+1,w.heap.size,s,fl,w.heap.size⟩ ((w.alloc (.cells #[.slice none 0 0,.int .i64 0,.int .i64 0,.int .i64 (fl:Int)] 83)).alloc (.cells #[.string s,.int .i64 0,.pointer (some ⟨w.heap.size,0,none⟩),.int .i64 0,.int .i64 0] 123)) 0 0 0 0 []:=by
   refine⟨ac.new2 w _ _ _,⟨.slice none 0 0,[],_,(ac.new w _ _).alloc _,World.ownsRow_nil _ _ _ _,rfl⟩,PV _,OF _⟩
  have hO0:Old w ((w.alloc (.cells #[.slice none 0 0,.int .i64 0,.int .i64 0,.int .i64 (fl:Int)] 83)).alloc (.cells #[.string s,.int .i64 0,.pointer (some ⟨w.heap.size,0,none⟩),.int .i64 0,.int .i64 0] 123)):=((Old.refl w).alloc _).alloc _;obtain⟨E,hE⟩:∃E:RE,E=⟨w.heap.size+1,w.heap.size,s,fl,w.heap.size⟩:=⟨_,rfl⟩;have hs120:E.s.size≤120:=by rw[hE];dsimp only;omega
  have hEf:E.fl<256:=by rw[hE];exact hf
  have hcall:=(Dv (E:=E) (by omega) hEf (deep+8)).1 _ [] 0 0 0 0 0 r' ⟨by rw[hE];exact h4,Nat.zero_le _,PR _,by decide,PR _,PR _,by simp;omega⟩ (by rw[hE];exact hx);have h0:E.r=w.heap.size+1:=by rw[hE]
  have hEx:E.x=w.heap.size:=by rw[hE]
  have hEB:E.B=w.heap.size:=by rw[hE]
  have hEl:E.fl=fl:=by rw[hE]
  rw[h0]at hcall;replace hcall:=AI hcall;replace hO0:=AI hO0;replace hfull:=AI hfull;clear hx h4 hE;go_enter (PH.func Tryz.func30 (by decide)),Tryz.ntmps30
  go_upto_region 5 with fail
  generalize (w.alloc (.cells #[.slice none 0 0,.int .i64 0,.int .i64 0,.int .i64 (fl:Int)] 83)).alloc (.cells #[.string s,.int .i64 0,.pointer (some ⟨w.heap.size,0,none⟩),.int .i64 0,.int .i64 0] 123)=w1 at hcall hO0 ⊢;go_wp2_with fail
  refine hcall.out.mono ?_;rintro e w2 ⟨hK,k,ms,rfl,hres⟩;have hO2:Old w w2:=hO0.out.Hp hK (by rw[hEB];exact OF _);have hsz1:w.heap.size≤w1.heap.size:=hO0.out.size;replace hO2:=AI hO2;clear hcall hO0 hK;cases r' with
  |ok nd σ=>
   obtain⟨hR,_,_,_,_,_,hN⟩:=hres;rw[PG]at hR hN;obtain⟨hR2,sl,hX,hown⟩:=hR.Cl (.int .i64 (k:Int));have hN2:=hN.keep [] (eT.Nx hR 1 (.int .i64 (k:Int)) _) (A':=fun b=>w.heap.size≤b) fun b _ hb=>PL hsz1 hb
   rw[BY]at hN2;have gx:=hR.yI.2;have cx:∃u,w2.cell? ⟨E.x,1,none⟩=some u:=by
    obtain⟨sl,xs,root,h1,_⟩:=hR.xb;exact⟨root,h1.cell 1⟩
   obtain⟨u1,cx⟩:=cx;have hO3:Old w (w2.setCell ⟨E.x,1,none⟩ (.int .i64 (k:Int))):=hO2.out.setCell (p:=⟨E.x,1,none⟩) (by dsimp only;omega) _;have c3:(w2.setCell ⟨E.x,1,none⟩ (.int .i64 (k:Int))).cell? ⟨E.r,3,none⟩=some (.int .i64 0):=hR2.rb.cell 3;rw[hEx]at hX hN2 hO3 c3 hown cx gx;rw[h0]at c3;replace hX:=AI hX;replace hN2:=AI hN2;replace hO3:=AI hO3;replace hown:=AI hown;clear hR2 hR hN hO2;go_upto_region 7 with fail
   generalize w2.setCell ⟨w.heap.size,1,none⟩ (.int .i64 (k:Int))=w3 at hX hN2 hO3 c3 hown ⊢;clear cx gx;go_wp2;go_ret3
   refine⟨_,rfl,hO3.out,?_⟩;rw[hfull.out];refine⟨w.heap.size,rfl,OF _,ms,sl,k,?_,?_,?_⟩
   ·rw[← hEl];exact hX.out
   ·rw[← hEB];exact hown.out
   ·rw[← hEB];rw[← hEB]at hN2;exact hN2.out
  |err k1 a1=>
   obtain⟨hk0,p',g',hR,_,_⟩:=hres;have hk0i:(k1==0)=false:=by simpa using hk0
   have hk0j:decide (k1=0)=false:=by simpa using hk0
   have hk0k:(k1 !=0)=true:=by simpa using hk0
   obtain⟨hR2,_⟩:=hR.Cl (.int .i64 (k:Int));have gx:=hR.yI.2;have cx:∃u,w2.cell? ⟨E.x,1,none⟩=some u:=by
    obtain⟨sl,xs,root,h1,_⟩:=hR.xb;exact⟨root,h1.cell 1⟩
   obtain⟨u1,cx⟩:=cx;have hO3:Old w (w2.setCell ⟨E.x,1,none⟩ (.int .i64 (k:Int))):=hO2.out.setCell (p:=⟨E.x,1,none⟩) (by dsimp only;omega) _;have c3:(w2.setCell ⟨E.x,1,none⟩ (.int .i64 (k:Int))).cell? ⟨E.r,3,none⟩=some (.int .i64 k1):=hR2.rb.cell 3;have c4:(w2.setCell ⟨E.x,1,none⟩ (.int .i64 (k:Int))).cell? ⟨E.r,4,none⟩=some (.int .i64 a1):=hR2.rb.cell 4;rw[hEx]at hO3 c3 c4 cx gx;rw[h0]at c3 c4;replace hO3:=AI hO3;clear hR2 hR hO2;go_upto_region 7 with fail
   generalize w2.setCell ⟨w.heap.size,1,none⟩ (.int .i64 (k:Int))=w3 at hO3 c3 c4 ⊢;clear cx gx;go_wp2;go_quiet (fail)
   go_wp2;go_ret3
   refine⟨_,rfl,⟨hO3.out.old,hO3.out.size,hO3.out.os,hO3.out.out⟩,?_⟩;rw[hfull.out];exact⟨rfl,hk0⟩
end
end Go.Proofs.YtkgohmcmmcpigaaGreatDoor
