/- What Quote computes, on lists of bytes: plain laws, no program in sight. Conditions: none. -/
namespace Go.Proofs.Ytkgohmcmmcpigaa
namespace Qt
def sp : List UInt8 := [40, 41, 91, 46, 94, 36, 92, 124, 42, 43, 63, 123]
def isSp (c : UInt8) : Bool := sp.contains c
def one (c : UInt8) : List UInt8 := if isSp c = true then [92, c] else [c]
def qt (l : List UInt8) : List UInt8 := l.flatMap one
theorem one_yes {c : UInt8} (h : isSp c = true) : one c = [92, c] := if_pos h
theorem one_no {c : UInt8} (h : isSp c = false) : one c = [c] := by unfold one; rw [h]; rfl
theorem one_len (c : UInt8) : (one c).length ≤ 2 := by unfold one; split <;> simp
theorem qt_snoc (l : List UInt8) (c : UInt8) : qt (l ++ [c]) = qt l ++ one c := by simp [qt]
theorem qt_len (l : List UInt8) : (qt l).length ≤ 2 * l.length := by
  induction l with
  | nil => simp [qt]
  | cons a l ih =>
    have := one_len a
    simp only [qt, List.flatMap_cons, List.length_append, List.length_cons] at *
    omega
theorem take_snoc (s : ByteArray) (k : Nat) (h : k < s.size) : s.data.toList.take (k + 1) = s.data.toList.take k ++ [s[k]] := by
  rw [List.take_succ_eq_append_getElem (by simpa using h)]; rfl
theorem take_all (s : ByteArray) (k : Nat) (h : s.size ≤ k) : s.data.toList.take k = s.data.toList := List.take_of_length_le (by simpa using h)
/-- is c one of the first k? -/
def had (l : List UInt8) (c : UInt8) : Bool := l.contains c
theorem had_snoc (l : List UInt8) (a c : UInt8) (h : had l c = false) : had (l ++ [a]) c = (c == a) := by
  unfold had at *; simp at h ⊢; simp [h]; rw [Bool.eq_iff_iff]; simp
theorem had_mem (s : ByteArray) (c : UInt8) (k : Nat) (h : k < s.size) (hc : c = s[k]) : had s.data.toList c = true := by
  unfold had
  rw [List.contains_iff_mem, hc]
  have : s[k] = s.data.toList[k]'(by simpa using h) := rfl
  rw [this]
  exact List.getElem_mem _
end Qt
end Go.Proofs.Ytkgohmcmmcpigaa
