/- api.Told: it takes an error apart: none; a Kind; a pointer to a SyntaxError. Conditions: errors.errorType holds what its own text lays; behind the pointer lie the two fields. -/
import Derived.Test.YtkgohmcmmcpigaaDoorAsHitS
import Derived.Test.YtkgohmcmmcpigaaDoorAsHitK
import Derived.Test.YtkgohmcmmcpigaaDoorAsMiss
import Derived.Deep.QuietTactic
import Derived.BigQuiet
import Derived.WalkSpells
import Derived.Lib.Hide
namespace Go.Proofs.YtkgohmcmmcpigaaDoor
open Go.RowKit
/-- errors.errorType holds what its initialiser lays. -/
def ErrT (w : World) : Prop := w.cell? ⟨0, 0, none⟩ = some (.iface 49 (.agg #[.pointer (some ⟨1, 28, none⟩)]))
theorem ErrT.lt {w : World} (h : ErrT w) : 0 < w.heap.size := by
  rcases Nat.lt_or_ge 0 w.heap.size with h' | h'
  · exact h'
  · simp [ErrT, World.cell?, Array.getElem?_eq_none h'] at h
theorem ErrT.below {w w' : World} (h : ErrT w) {B : Nat} (hb : Below B w w') (hB : 0 < B) : ErrT w' := (hb.cell (p := ⟨0, 0, none⟩) hB).trans h
theorem ErrT.alloc {w : World} (h : ErrT w) (o : Obj) : ErrT (w.alloc o) := (World.cell?_alloc_lt _ _ ⟨0, 0, none⟩ h.lt).trans h
theorem told_nil (w : World) :
    Calls Tryd.prog 6 #[.nilIface] w fun e w' => e = .returned (.tuple #[.int .i64 0, .int .i64 0]) ∧ Below w.heap.size w w' := by
  go_enter Tryd.func6, Tryd.ntmps6
  go_wp2_with (first | (go_at_call 7; refine (as_nil _ _).mono ?_; rintro e w' ⟨rfl, rfl⟩))
  go_ret2
  exact ⟨rfl, ((Below.refl _ _).alloc (Nat.le_refl _) _).alloc (by simp) _⟩
set_option maxHeartbeats 1000000 in
theorem told_kind (k : Int) (w : World) (hE : ErrT w) :
    Calls Tryd.prog 6 #[.iface 23 (.int .i64 k)] w fun e w' => e = .returned (.tuple #[.int .i64 k, .int .i64 0]) ∧ Below w.heap.size w w' := by
  have hEA := (hE.alloc (.cells #[.pointer none] 29))
  have hlt := hE.lt
  clear hE
  go_enter Tryd.func6, Tryd.ntmps6
  go_wp2_with fail
  refine (as_miss k _ _ hEA).mono ?_
  rintro e w1 ⟨rfl, hb⟩
  have hs := hb.size
  simp only [World.size_alloc] at hs hb
  have hE1 : ErrT w1 := hEA.below hb (by omega)
  have hE2 := hE1.alloc (.cells #[.int .i64 0] 23)
  clear hEA hE1
  go_wp2_with fail
  refine (as_hitK k _ (.int .i64 0) _ hE2 (by simp) (by simp)).mono ?_
  rintro e w2 ⟨rfl, rfl⟩
  clear hE2
  go_wp2
  go_ret2
  refine ⟨rfl, ?_⟩
  have h0 : Below w.heap.size w w1 := ((Below.refl _ _).alloc (Nat.le_refl _) _).trans (hb.mono (by omega))
  exact ((((h0.alloc (by omega) _).alloc (by simp; omega) _).alloc (by simp; omega) _).alloc (by simp; omega) _).alloc (by simp; omega) _
set_option maxHeartbeats 1000000 in
theorem told_syn (p : Addr) (a k : Int) (w : World) (hE : ErrT w) (ha : w.cell? p = some (.int .i64 a)) (hk : w.cell? ⟨p.block, p.off + 1, none⟩ = some (.int .i64 k)) (hp : p.block < w.heap.size) :
    Calls Tryd.prog 6 #[.iface 29 (.pointer (some p))] w fun e w' => e = .returned (.tuple #[.int .i64 k, .int .i64 a]) ∧ Below w.heap.size w w' := by
  have hEA := (hE.alloc (.cells #[.pointer none] 29))
  have hlt := hE.lt
  clear hE
  go_enter Tryd.func6, Tryd.ntmps6
  go_wp2_with fail
  refine (as_hitS p _ (.pointer none) _ hEA (by simp) (by simp)).mono ?_
  rintro e w2 ⟨rfl, rfl⟩
  clear hEA
  have hn : Below w.heap.size w (((((w.alloc (.cells #[.pointer (some p)] 29)).alloc (.cells #[.pointer (some ⟨w.heap.size, 0, none⟩)] 34)).alloc (.cells #[.pointer (some ⟨1, 34, none⟩), .pointer (some ⟨w.heap.size + 1, 0, none⟩), .int .u64 150] 39)).alloc (.cells #[.pointer (some ⟨1, 34, none⟩), .pointer (some ⟨w.heap.size + 1, 0, none⟩), .int .u64 150] 39)).alloc (.cells #[.pointer (some p)] 29)) :=
    (((((Below.refl _ _).alloc (Nat.le_refl _) _).alloc (by simp) _).alloc (by simp; omega) _).alloc (by simp; omega) _).alloc (by simp; omega) _
  have c0 := (hn.cell (p := p) hp).trans ha
  have c1 := (hn.cell (p := ⟨p.block, p.off + 1, none⟩) hp).trans hk
  have c2 : (((((w.alloc (.cells #[.pointer (some p)] 29)).alloc (.cells #[.pointer (some ⟨w.heap.size, 0, none⟩)] 34)).alloc (.cells #[.pointer (some ⟨1, 34, none⟩), .pointer (some ⟨w.heap.size + 1, 0, none⟩), .int .u64 150] 39)).alloc (.cells #[.pointer (some ⟨1, 34, none⟩), .pointer (some ⟨w.heap.size + 1, 0, none⟩), .int .u64 150] 39)).alloc (.cells #[.pointer (some p)] 29)).cell? ⟨w.heap.size, 0, none⟩ = some (.pointer (some p)) := by
    rw [World.cell?_alloc_lt _ _ ⟨w.heap.size, 0, none⟩ (by simp; omega), World.cell?_alloc_lt _ _ ⟨w.heap.size, 0, none⟩ (by simp; omega), World.cell?_alloc_lt _ _ ⟨w.heap.size, 0, none⟩ (by simp; omega), World.cell?_alloc_lt _ _ ⟨w.heap.size, 0, none⟩ (by simp), World.cell?_alloc_at _ _ _ _ rfl]; rfl
  have HN := Lib.hid hn
  clear hn ha hk
  go_wp2_with fail
  generalize (((((w.alloc (.cells #[.pointer (some p)] 29)).alloc (.cells #[.pointer (some ⟨w.heap.size, 0, none⟩)] 34)).alloc (.cells #[.pointer (some ⟨1, 34, none⟩), .pointer (some ⟨w.heap.size + 1, 0, none⟩), .int .u64 150] 39)).alloc (.cells #[.pointer (some ⟨1, 34, none⟩), .pointer (some ⟨w.heap.size + 1, 0, none⟩), .int .u64 150] 39)).alloc (.cells #[.pointer (some p)] 29)) = W at *
  go_region
  all_goals go_wp2
  all_goals go_ret2
  all_goals exact ⟨rfl, HN.out.drew⟩
end Go.Proofs.YtkgohmcmmcpigaaDoor
