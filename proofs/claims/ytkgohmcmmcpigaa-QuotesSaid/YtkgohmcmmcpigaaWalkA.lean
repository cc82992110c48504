/- The walk of posixref.in: is a byte one of a text's bytes? Conditions: the text's length is one that Go lets be. -/
import Derived.Test.YtkgohmcmmcpigaaRows
import Derived.Test.YtkgohmcmmcpigaaPlain
import Derived.WalkKit
import Derived.WalkSpells
import Derived.Lib.Hide
namespace Go.Proofs.Ytkgohmcmmcpigaa
open Go.RowKit
set_option maxHeartbeats 400000 in
theorem in_any (s : ByteArray) (c : UInt8) (w : World) (hs : s.size ≤ maxLen) :
    Calls Try.prog 9 #[.string s, .int .u8 (c.toNat : Int)] w fun e w' => e = .returned (.bool (Qt.had s.data.toList c)) ∧ w' = w := by
  unfold maxLen at hs
  go_enter Try.func9, Try.ntmps9
  go_wp2
  go_loop [5] (fun i => ∃ k : Nat, k ≤ s.size ∧ i = .int .i64 k ∧ Hid (Qt.had (s.data.toList.take k) c = false)) (fun i => s.size - (intOf i).toNat)
  case atStart => exact ⟨0, Nat.zero_le _, rfl, Lib.hid rfl⟩
  case round =>
    obtain ⟨k, hk, rfl, hh⟩ := hrel
    by_cases hlt : k < s.size
    · have hsn := Lib.hid (Qt.had_snoc (s.data.toList.take k) s[k] c hh.out)
      have hts := Lib.hid (Qt.take_snoc s k hlt)
      by_cases hc : c = s[k]
      · have hin := Lib.hid (Qt.had_mem s c k hlt hc)
        have e1 : ((s[k].toNat : Int) == (c.toNat : Int)) = true := by rw [hc]; simp
        have e2 := Lib.hid hc
        clear hc
        go_wp2
        go_ret
        exact ⟨by rw [hin.out]; rfl, rfl⟩
      · have e1 : ((s[k].toNat : Int) == (c.toNat : Int)) = false := by
          rw [beq_eq_false_iff_ne]; intro h; exact hc (UInt8.toNat_inj.1 (by omega))
        have e3 := Lib.hid (show Qt.had (s.data.toList.take (k + 1)) c = false by rw [hts.out, hsn.out]; simpa using hc)
        clear hc
        go_wp2
        go_round
        case rel => exact ⟨k + 1, by omega, by go_num, e3⟩
        case measure => simp [intOf]; omega
    · have hin := Lib.hid (show Qt.had s.data.toList c = false by rw [← Qt.take_all s k (by omega)]; exact hh.out)
      go_wp2
      go_ret
      exact ⟨by rw [hin.out]; rfl, rfl⟩
end Go.Proofs.Ytkgohmcmmcpigaa
