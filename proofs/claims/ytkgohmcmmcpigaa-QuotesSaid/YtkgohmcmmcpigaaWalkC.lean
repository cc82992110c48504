/- The walk of posix.Quote, and of the law Quotes itself: it answers true. Conditions: for posix.Quote: at most 65536 bytes; for the law: none. -/
import Derived.Test.YtkgohmcmmcpigaaWalkB
import Derived.Test.YtkgohmcmmcpigaaShelf
namespace Go.Proofs.Ytkgohmcmmcpigaa
open Go.RowKit
open Go.Lib (byteCells)
theorem index_all : ∀ n : Fin 256, (if Qt.isSp (UInt8.ofNat n.val) = true then decide (0 ≤ Lib.indexByte [40, 41, 91, 46, 94, 36, 92, 124, 42, 43, 63, 123] (UInt8.ofNat n.val)) else decide (Lib.indexByte [40, 41, 91, 46, 94, 36, 92, 124, 42, 43, 63, 123] (UInt8.ofNat n.val) = -1)) = true := by decide +kernel
theorem index_yes (c : UInt8) (h : Qt.isSp c = true) : 0 ≤ Lib.indexByte [40, 41, 91, 46, 94, 36, 92, 124, 42, 43, 63, 123] c := by
  have := index_all ⟨c.toNat, c.toNat_lt⟩
  simp only [UInt8.ofNat_toNat, h, if_true, decide_eq_true_eq] at this
  exact this
theorem index_no (c : UInt8) (h : Qt.isSp c = false) : Lib.indexByte [40, 41, 91, 46, 94, 36, 92, 124, 42, 43, 63, 123] c = -1 := by
  have := index_all ⟨c.toNat, c.toNat_lt⟩
  simp only [UInt8.ofNat_toNat, h] at this
  simpa using this
theorem ix_yes (c : UInt8) (h : Qt.isSp c = true) (w : World) :
    Calls Try.prog 6 #[.string { data := #[40, 41, 91, 46, 94, 36, 92, 124, 42, 43, 63, 123] }, .int .u8 (c.toNat : Int)] w fun e w' => ∃ n : Nat, e = .returned (.int .i64 (n : Int)) ∧ w = w' :=
  (Try.strings_IndexByte _ _ w).mono fun e w' ⟨he, hw⟩ => by
    have h0 := index_yes c h
    refine ⟨(Lib.indexByte [40, 41, 91, 46, 94, 36, 92, 124, 42, 43, 63, 123] c).toNat, ?_, hw.symm⟩
    rw [he, Int.toNat_of_nonneg h0, Int.toNat_natCast, show c.toNat.toUInt8 = c from UInt8.ofNat_toNat]
theorem ix_no (c : UInt8) (h : Qt.isSp c = false) (w : World) :
    Calls Try.prog 6 #[.string { data := #[40, 41, 91, 46, 94, 36, 92, 124, 42, 43, 63, 123] }, .int .u8 (c.toNat : Int)] w fun e w' => e = .returned (.int .i64 (-1)) ∧ w = w' :=
  (Try.strings_IndexByte _ _ w).mono fun e w' ⟨he, hw⟩ => by
    have h0 := index_no c h
    refine ⟨?_, hw.symm⟩
    rw [he, Int.toNat_natCast, show c.toNat.toUInt8 = c from UInt8.ofNat_toNat, h0]
theorem fresh {w : World} : Lib.IsBuilder 27 5 w.heap.size w.heap.size (byteCells []) (w.alloc (.cells #[.pointer none, .slice none 0 0] 27)) :=
  .inl ⟨Nat.le_refl _, .slice none 0 0, heap_alloc_new _ _, World.ownsRow_nil _ _ _ _, by simp [Value.ownBlock]⟩
set_option maxHeartbeats 400000 in
theorem px_quote (s : ByteArray) (w : World) (hs : s.size ≤ 65536) :
    Calls Try.prog 4 #[.string s] w fun e w' => e = .returned (.string ⟨(Qt.qt s.data.toList).toArray⟩) ∧ Below w.heap.size w w' := by
  go_enter Try.func4, Try.ntmps4
  go_wp2_with fail
  go_loopw [7] (fun i wr => ∃ k : Nat, k ≤ s.size ∧ i = .int .i64 k ∧ Lib.IsBuilder 27 5 w.heap.size w.heap.size (byteCells (Qt.qt (s.data.toList.take k))) wr ∧ Below w.heap.size w wr ∧ w.heap.size ≤ wr.heap.size)
    (fun i _ => s.size - (intOf i).toNat)
  case atStart => exact ⟨0, Nat.zero_le _, rfl, fresh, (Below.refl _ _).alloc (Nat.le_refl _) _, by simp⟩
  case round =>
    obtain ⟨k, hk, rfl, hown, hnx, hB⟩ := hrel
    have hlen := Qt.qt_len (s.data.toList.take k)
    have htl : (s.data.toList.take k).length ≤ k := List.length_take_le _ _
    by_cases hlt : k < s.size
    · have hts := Lib.hid (Qt.take_snoc s k hlt)
      have hqs := Lib.hid (Qt.qt_snoc (s.data.toList.take k) s[k])
      cases hsp : Qt.isSp s[k] with
      | true =>
        have HS := Lib.hid (show Qt.qt (s.data.toList.take (k + 1)) = Qt.qt (s.data.toList.take k) ++ [92] ++ [s[k]] by rw [hts.out, hqs.out, Qt.one_yes hsp]; simp)
        have hI := Lib.hid (ix_yes s[k] hsp)
        clear hsp hts hqs
        go_wp2_with (first | (go_at_call 6; refine (hI.out _).mono ?_; rintro e w' ⟨n, rfl, rfl⟩) | fail)
        refine (Try.Builder_WriteByte w.heap.size w.heap.size _ _ _ hown (by simp [byteCells]; omega) hB).mono ?_
        rintro e w1 ⟨rfl, hown1, hb1⟩
        have hs1 := hb1.size
        have hnx1 := hnx.trans hb1
        have hown1' : Lib.IsBuilder 27 5 w.heap.size w.heap.size (byteCells (Qt.qt (s.data.toList.take k) ++ [92])) w1 := by rw [← bc_snoc]; exact .inr hown1
        clear hown1 hown hb1 hnx
        go_wp2_with fail
        refine (Try.Builder_WriteByte w.heap.size w.heap.size _ _ _ hown1' (by simp [byteCells]; omega) (by omega)).mono ?_
        rintro e w2 ⟨rfl, hown2, hb2⟩
        have hs2 := hb2.size
        have hnx2 := hnx1.trans hb2
        have hown2' : Lib.IsBuilder 27 5 w.heap.size w.heap.size (byteCells (Qt.qt (s.data.toList.take (k + 1)))) w2 := by rw [HS.out, ← bc_snoc]; exact .inr hown2
        clear hown2 hown1' hb2 hnx1
        go_wp2
        go_roundw
        case rel => exact ⟨k + 1, by omega, by go_num, hown2', hnx2, by omega⟩
        case measure => simp [intOf]; omega
      | false =>
        have HS := Lib.hid (show Qt.qt (s.data.toList.take (k + 1)) = Qt.qt (s.data.toList.take k) ++ [s[k]] by rw [hts.out, hqs.out, Qt.one_no hsp])
        have hI := Lib.hid (ix_no s[k] hsp)
        clear hsp hts hqs
        go_wp2_with (first | (go_at_call 6; refine (hI.out _).mono ?_; rintro e w' ⟨rfl, rfl⟩) | fail)
        refine (Try.Builder_WriteByte w.heap.size w.heap.size _ _ _ hown (by simp [byteCells]; omega) hB).mono ?_
        rintro e w1 ⟨rfl, hown1, hb1⟩
        have hs1 := hb1.size
        have hnx1 := hnx.trans hb1
        have hown1' : Lib.IsBuilder 27 5 w.heap.size w.heap.size (byteCells (Qt.qt (s.data.toList.take (k + 1)))) w1 := by rw [HS.out, ← bc_snoc]; exact .inr hown1
        clear hown1 hown hb1 hnx
        go_wp2
        go_roundw
        case rel => exact ⟨k + 1, by omega, by go_num, hown1', hnx1, by omega⟩
        case measure => simp [intOf]; omega
    · have hta := Qt.take_all s k (by omega)
      rw [hta] at hown
      clear hta hlen htl
      go_wp2_with fail
      refine (Try.Builder_String_any w.heap.size w.heap.size _ _ hown hB).mono ?_
      rintro e w1 ⟨rfl, hb1⟩
      have hnx1 := hnx.trans hb1
      clear hown hnx hb1
      go_wp2
      go_ret
      exact ⟨rfl, hnx1⟩
/-- The law: it answers true, and what was there stays as it was. -/
theorem quotes_any (s : ByteArray) (w : World) (hs : s.size ≤ maxLen) :
    Calls Try.prog 3 #[.string s] w fun e w' => e = .returned (.bool true) ∧ Below w.heap.size w w' := by
  unfold maxLen at hs
  by_cases h : 65536 < s.size
  · go_enter Try.func3, Try.ntmps3
    go_wp2
    go_ret
    exact ⟨rfl, Below.refl _ _⟩
  · go_enter Try.func3, Try.ntmps3
    go_wp2_with fail
    refine (px_quote s w (by omega)).mono ?_
    rintro e w1 ⟨rfl, hb1⟩
    have hs1 := hb1.size
    go_wp2_with fail
    refine (ref_quote s w1 (by omega)).mono ?_
    rintro e w2 ⟨rfl, hb2⟩
    have hnx := hb1.trans (hb2.mono hs1)
    clear hb1 hb2
    generalize (Qt.qt s.data.toList).toArray = q
    go_wp2
    go_ret
    exact ⟨by simp, hnx⟩
end Go.Proofs.Ytkgohmcmmcpigaa
