/- The law Names: each constant has its number, and the errors are taken apart as they were made: it answers true. Conditions: errors.errorType holds what its own text lays. -/
import Derived.Test.YtkgohmcmmcpigaaDoorTold
namespace Go.Proofs.YtkgohmcmmcpigaaDoor
open Go.RowKit
theorem ptold0 (w : World) :
    Calls Tryd.prog 5 #[.int .i64 0] w fun e w' => e = .returned (.tuple #[.int .i64 0, .int .i64 0]) ∧ Below w.heap.size w w' := by
  go_enter Tryd.func5, Tryd.ntmps5
  go_wp2_with (first | (go_at_call 6; refine (told_nil _).mono ?_; rintro e w' ⟨rfl, hb⟩))
  go_ret2
  exact ⟨rfl, hb⟩
theorem ptold1 (w : World) (hE : ErrT w) :
    Calls Tryd.prog 5 #[.int .i64 1] w fun e w' => e = .returned (.tuple #[.int .i64 20, .int .i64 0]) ∧ Below w.heap.size w w' := by
  go_enter Tryd.func5, Tryd.ntmps5
  go_wp2_with (first | (go_at_call 6; refine (told_kind _ _ hE).mono ?_; rintro e w' ⟨rfl, hb⟩))
  go_ret2
  exact ⟨rfl, hb⟩
theorem ptold2 (w : World) (hE : ErrT w) :
    Calls Tryd.prog 5 #[.int .i64 2] w fun e w' => e = .returned (.tuple #[.int .i64 6, .int .i64 3]) ∧ Below w.heap.size w w' := by
  have hE1 := hE.alloc (.cells #[.int .i64 3, .int .i64 6] 31)
  go_enter Tryd.func5, Tryd.ntmps5
  go_wp2_with fail
  refine (told_syn ⟨w.heap.size, 0, none⟩ 3 6 _ hE1 (by simp) (by simp) (by simp)).mono ?_
  rintro e w' ⟨rfl, hb⟩
  have hn := ((Below.refl w.heap.size w).alloc (Nat.le_refl _) (.cells #[.int .i64 3, .int .i64 6] 31)).trans (hb.mono (by simp))
  clear hb hE hE1
  go_wp2
  go_ret2
  exact ⟨rfl, hn⟩
theorem tld (n k a : Int) (w : World) (h : Calls Tryd.prog 5 #[.int .i64 n] w fun e w' => e = .returned (.tuple #[.int .i64 k, .int .i64 a]) ∧ Below w.heap.size w w') :
    Calls Tryd.prog 4 #[.int .i64 n, .int .i64 k, .int .i64 a] w fun e w' => e = .returned (.bool true) ∧ Below w.heap.size w w' := by
  have H := Lib.hid h
  clear h
  go_enter Tryd.func4, Tryd.ntmps4
  go_wp2_with fail
  refine H.out.mono ?_
  rintro e w' ⟨rfl, hb⟩
  go_wp2
  go_ret
  exact ⟨rfl, hb⟩
set_option maxHeartbeats 1000000 in
theorem names_any (w : World) (hE : ErrT w) :
    Calls Tryd.prog 3 #[] w fun e w' => e = .returned (.bool true) ∧ Below w.heap.size w w' := by
  have hlt := hE.lt
  have HE := Lib.hid hE
  clear hE
  go_enter Tryd.func3, Tryd.ntmps3
  go_wp2_with fail
  refine (tld 0 0 0 _ (ptold0 _)).mono ?_
  rintro e w1 ⟨rfl, hb1⟩
  have hs1 := hb1.size
  go_wp2_with fail
  refine (tld 1 20 0 _ (ptold1 _ (HE.out.below hb1 hlt))).mono ?_
  rintro e w2 ⟨rfl, hb2⟩
  have hn2 := hb1.trans (hb2.mono hs1)
  have hs2 := hn2.size
  clear hb1 hb2
  go_wp2_with fail
  refine (tld 2 6 3 _ (ptold2 _ (HE.out.below hn2 hlt))).mono ?_
  rintro e w3 ⟨rfl, hb3⟩
  have hn3 := hn2.trans (hb3.mono hs2)
  clear hn2 hb3
  go_wp2
  go_ret
  exact ⟨rfl, hn3⟩
end Go.Proofs.YtkgohmcmmcpigaaDoor
