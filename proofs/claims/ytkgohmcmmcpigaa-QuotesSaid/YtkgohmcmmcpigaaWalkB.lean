/- The walk of posixref.Quote: it answers the text with a backslash ahead of each special byte. Conditions: the text has at most 65536 bytes. -/
import Derived.Test.YtkgohmcmmcpigaaWalkA
import Derived.Lib.BufferRead
namespace Go.Proofs.Ytkgohmcmmcpigaa
open Go.RowKit Go.Lib
theorem Try.info5 : (Try.prog.info? 5).map (fun i => (i.zero, i.size, i.bytes)) = some (some (.int .u8 0), 1, 1) := by kernel_rfl
theorem conv_own {w : World} {B n : Nat} {v : Value} {l : List UInt8} (h : w.ownsRow B 5 1 v n (byteCells l)) (hn : n = l.length) :
    (convert 25 9 v).run Try.prog w = .ok (.string ⟨l.toArray⟩) w := by
  subst hn
  obtain ⟨hl, ⟨rfl, h0⟩ | ⟨g, cap, cur, rfl, _, hg, _, _, _, ht⟩⟩ := h
  · obtain rfl : l = [] := List.length_eq_zero_iff.1 h0
    exact run_convert_nil_bytes w 25 9 5 0 Try.underlying25 Try.underlying5 Try.underlying9
  · exact run_convert_bytes_back w 25 9 5 _ cap l Try.underlying25 Try.underlying5 Try.underlying9 (bytes_of_row hg (by rw [Nat.mul_one] at ht; exact ht))
theorem bc_snoc (l : List UInt8) (c : UInt8) : byteCells l ++ [.int .u8 (c.toNat : Int)] = byteCells (l ++ [c]) := by simp [byteCells]
theorem new_one {w : World} {v : Value} {e : TypeId} : ∀ (j : Nat) (u : Value), [v][j]? = some u → (w.alloc (.cells #[v] e)).cell? ((⟨w.heap.size, 0, none⟩ : Addr).add j) = some u := by
  intro j u hj
  match j, hj with
  | 0, hj =>
    simp at hj
    subst hj
    simp [Addr.add, World.cell?_alloc_at]
theorem one_cell (k : IntKind) (n : Int) : ∀ u ∈ [Value.int k n], u.oneCell' = true := by intro u hu; simp at hu; subst hu; rfl
theorem grow_below {B n : Nat} {w wr w1 : World} {o : Obj} {v : Value} {xs : List Value} (hnx : Below B w wr) (hB : B ≤ wr.heap.size) (hown : wr.ownsRow B 5 1 v n xs) (hg : (wr.alloc o).grownBy w1 v.ownBlock) : Below B w w1 ∧ B ≤ w1.heap.size :=
  have h := (hnx.alloc hB o).grown hg (by simp; omega) (fun j hj => by have := (hown.lt j hj).1; omega)
  ⟨h, by have := hg.size; simp at this; omega⟩
theorem in_is (c : UInt8) (b : Bool) (h : Qt.isSp c = b) (w : World) :
    Calls Try.prog 9 #[.string { data := #[40, 41, 91, 46, 94, 36, 92, 124, 42, 43, 63, 123] }, .int .u8 (c.toNat : Int)] w fun e w' => e = .returned (.bool b) ∧ w = w' :=
  (in_any _ c w (by decide)).mono fun e w' ⟨he, hw⟩ => ⟨by rw [he, ← h]; rfl, hw.symm⟩
set_option maxHeartbeats 400000 in
theorem ref_quote (s : ByteArray) (w : World) (hs : s.size ≤ 65536) :
    Calls Try.prog 5 #[.string s] w fun e w' => e = .returned (.string ⟨(Qt.qt s.data.toList).toArray⟩) ∧ Below w.heap.size w w' := by
  obtain ⟨i0, hi, hz0, hz1, hz2⟩ := info_parts Try.info5
  go_enter Try.func5, Try.ntmps5
  go_wp2_with fail
  go_loopw [3, 4] (fun v i wr => ∃ k : Nat, k ≤ s.size ∧ i = .int .i64 k ∧ wr.ownsRow w.heap.size 5 1 v (Qt.qt (s.data.toList.take k)).length (byteCells (Qt.qt (s.data.toList.take k))) ∧ Below w.heap.size w wr ∧ w.heap.size ≤ wr.heap.size)
    (fun _ i _ => s.size - (intOf i).toNat)
  case atStart => exact ⟨0, Nat.zero_le _, rfl, World.ownsRow_nil _ _ _ _, Below.refl _ _, Nat.le_refl _⟩
  case round =>
    obtain ⟨k, hk, rfl, hown, hnx, hB⟩ := hrel
    have hlen := Qt.qt_len (s.data.toList.take k)
    have htl : (s.data.toList.take k).length ≤ k := List.length_take_le _ _
    by_cases hlt : k < s.size
    · have hts := Lib.hid (Qt.take_snoc s k hlt)
      have hqs := Lib.hid (Qt.qt_snoc (s.data.toList.take k) s[k])
      cases hsp : Qt.isSp s[k] with
      | true =>
        have HS := Lib.hid (show Qt.qt (s.data.toList.take (k + 1)) = Qt.qt (s.data.toList.take k) ++ [92] ++ [s[k]] by rw [hts.out, hqs.out, Qt.one_yes hsp]; simp)
        have hI := Lib.hid (in_is s[k] true hsp)
        clear hsp hts hqs
        go_wp2_with (first
          | (go_at_call 9; refine (hI.out _).mono ?_; rintro e w' ⟨rfl, rfl⟩)
          | (at_builtin; refine wpList_append_own _ rfl (.tmp 17) (.tmp 18) 25 rfl w.heap.size 5 i0 (.int .u8 0) 1 1 Try.underlying25 hi hz0 hz1 hz2 rfl (by decide) _ _ _ rfl (hown.alloc _) ⟨wr.heap.size, 0, none⟩ 1 1 [.int .u8 92] rfl rfl ?c1 ?c2 ?c3 ?c4 ?c5 ?_)
          | fail)
        case c1 => exact new_one
        case c2 => exact one_cell _ _
        case c3 => unfold maxLen; omega
        case c4 => omega
        case c5 => simp; omega
        intro v' w1 hown' hgrow _
        obtain ⟨hb1, hB1⟩ := grow_below hnx hB hown hgrow
        have hown1 : w1.ownsRow w.heap.size 5 1 v' (Qt.qt (s.data.toList.take k) ++ [92]).length (byteCells (Qt.qt (s.data.toList.take k) ++ [92])) := by
          rw [← bc_snoc, List.length_append]; exact hown'
        clear hown' hgrow hown hnx hB
        go_wp2_with (first
          | (at_builtin; refine wpList_append_own _ rfl (.tmp 20) (.tmp 24) 25 rfl w.heap.size 5 i0 (.int .u8 0) 1 1 Try.underlying25 hi hz0 hz1 hz2 rfl (by decide) _ _ _ rfl (hown1.alloc _) ⟨w1.heap.size, 0, none⟩ 1 1 [.int .u8 (s[k].toNat : Int)] rfl rfl ?d1 ?d2 ?d3 ?d4 ?d5 ?_)
          | fail)
        case d1 => exact new_one
        case d2 => exact one_cell _ _
        case d3 => unfold maxLen; simp; omega
        case d4 => simp; omega
        case d5 => simp; omega
        intro v2 w2 hown' hgrow _
        obtain ⟨hb2, hB2⟩ := grow_below hb1 hB1 hown1 hgrow
        have hown2 : w2.ownsRow w.heap.size 5 1 v2 (Qt.qt (s.data.toList.take (k + 1))).length (byteCells (Qt.qt (s.data.toList.take (k + 1)))) := by
          rw [HS.out, ← bc_snoc, List.length_append, List.length_append]; exact hown'
        clear hown' hgrow hown1 hb1 hB1
        go_wp2
        go_roundw
        case rel => exact ⟨k + 1, by omega, by go_num, hown2, hb2, hB2⟩
        case measure => simp [intOf]; omega
      | false =>
        have HS := Lib.hid (show Qt.qt (s.data.toList.take (k + 1)) = Qt.qt (s.data.toList.take k) ++ [s[k]] by rw [hts.out, hqs.out, Qt.one_no hsp])
        have hI := Lib.hid (in_is s[k] false hsp)
        clear hsp hts hqs
        go_wp2_with (first
          | (go_at_call 9; refine (hI.out _).mono ?_; rintro e w' ⟨rfl, rfl⟩)
          | (at_builtin; refine wpList_append_own _ rfl (.tmp 20) (.tmp 24) 25 rfl w.heap.size 5 i0 (.int .u8 0) 1 1 Try.underlying25 hi hz0 hz1 hz2 rfl (by decide) _ _ _ rfl (hown.alloc _) ⟨wr.heap.size, 0, none⟩ 1 1 [.int .u8 (s[k].toNat : Int)] rfl rfl ?e1 ?e2 ?e3 ?e4 ?e5 ?_)
          | fail)
        case e1 => exact new_one
        case e2 => exact one_cell _ _
        case e3 => unfold maxLen; omega
        case e4 => omega
        case e5 => simp; omega
        intro v' w1 hown' hgrow _
        obtain ⟨hb1, hB1⟩ := grow_below hnx hB hown hgrow
        have hown1 : w1.ownsRow w.heap.size 5 1 v' (Qt.qt (s.data.toList.take (k + 1))).length (byteCells (Qt.qt (s.data.toList.take (k + 1)))) := by
          rw [HS.out, ← bc_snoc, List.length_append]; exact hown'
        clear hown' hgrow hown hnx hB
        go_wp2
        go_roundw
        case rel => exact ⟨k + 1, by omega, by go_num, hown1, hb1, hB1⟩
        case measure => simp [intOf]; omega
    · have hta := Qt.take_all s k (by omega)
      rw [hta] at hown
      clear hta hlen htl
      have hcv := conv_own hown rfl
      clear hown
      go_wp2
      go_ret
      exact ⟨rfl, hnx⟩
end Go.Proofs.Ytkgohmcmmcpigaa
