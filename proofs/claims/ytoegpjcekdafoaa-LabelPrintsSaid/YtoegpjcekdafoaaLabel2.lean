/- Labels printed and compared, plainly. Nothing of a program. -/
import Derived.Test.YtoegpjcekdafoaaLabel
import Derived.Test.YtoegpjcekdafoaaName
namespace Go.Proofs.Ytoegpjcekdafoaa
open Go.RowKit
set_option linter.unusedVariables false
set_option linter.unusedSimpArgs false
def baseOf (x nx : List UInt8) : List UInt8 × Int := if (checkOf nx).1 = 0 then (base32Of x ++ [45] ++ nx, 0) else ([], (checkOf nx).1)
def storeOf : List UInt8 := [47, 103, 114, 97, 102, 116, 47, 115, 116, 111, 114, 101, 47]
def printOf (x nx : List UInt8) : List UInt8 × Int := if (baseOf x nx).2 = 0 then (storeOf ++ (baseOf x nx).1, 0) else ([], (baseOf x nx).2)
theorem check_ok_len {nx : List UInt8} (h : (checkOf nx).1 = 0) : nx.length ≤ 211 := by
  rcases Nat.lt_or_ge 211 nx.length with h1 | h1
  · rw [check_long h1] at h; cases h
  · exact h1
theorem baseOf_len {x nx : List UInt8} (hx : x.length = 20) (h : (baseOf x nx).2 = 0) : (baseOf x nx).1.length ≤ 244 := by
  unfold baseOf at h ⊢
  split
  · rename_i h1
    have := check_ok_len h1
    simp only [List.length_append, base32Of_length, hx, List.length_cons, List.length_nil]; omega
  · simp
theorem cmp_same_lab {x nx y ny : List UInt8} (h : x = y ∧ nx = ny) : cmpLab x nx y ny = 0 := by
  obtain ⟨rfl, rfl⟩ := h
  rw [cmpLab_same]; exact (cmp_zero nx nx).2 rfl
theorem cmp_or {x nx y ny : List UInt8} (hx : x.length = 20) (hy : y.length = 20) : (if Lib.compareBytes (base32Of x) (base32Of y) ≠ 0 then Lib.compareBytes (base32Of x) (base32Of y) else Lib.compareBytes nx ny) = cmpLab x nx y ny := by rw [cmp_hash hx hy]; rfl
def orAt (a b : Int) : Nat → Int
  | 0 => a
  | _ => b
theorem or_get (a b : Int) (k : Nat) (h : k < 2) : [Value.int .i64 a, .int .i64 b][k]? = some (.int .i64 (orAt a b k)) := by
  match k, h with
  | 0, _ => rfl
  | 1, _ => rfl
theorem or_hit (a b : Int) (k : Nat) (h : k < 2) (hall : ∀ j, j < k → orAt a b j = 0) (hne : ¬ orAt a b k = 0) : (if a ≠ 0 then a else b) = orAt a b k := by
  match k, h with
  | 0, _ => exact if_pos hne
  | 1, _ => exact if_neg (fun h => h (hall 0 (by decide)))
theorem or_none (a b : Int) (hall : ∀ j, j < 2 → orAt a b j = 0) : (if a ≠ 0 then a else b) = 0 := by
  have h0 : a = 0 := hall 0 (by decide)
  have h1 : b = 0 := hall 1 (by decide)
  simp [h0, h1]
theorem show19 {x y : List UInt8} {i : Nat} (h : x.drop (20 - i) = y.drop (20 - i)) (hi : i < 20) : x.drop (19 - i + 1) = y.drop (19 - i + 1) := by
  rw [show 19 - i + 1 = 20 - i by omega]; exact h
theorem less_cmp {a b : List UInt8} (h : Op.bytesLess a b = true) : Lib.compareBytes a b = -1 := by
  rw [cmp_less] at h; simpa using h
theorem more_cmp {a b : List UInt8} (h : (Op.bytesLess a b || a == b) = false) : Lib.compareBytes a b = 1 := by
  rw [cmp_less] at h
  have h1 : ¬ Lib.compareBytes a b = -1 ∧ ¬ a = b := by simpa using h
  rcases cmp_three a b with e | e | e
  · exact absurd e h1.1
  · exact absurd ((cmp_zero a b).1 e) h1.2
  · exact e
theorem same_cmp {a b : List UInt8} (h1 : Op.bytesLess a b = false) (h2 : (Op.bytesLess a b || a == b) = true) : Lib.compareBytes a b = 0 := by
  rw [h1] at h2
  have : a = b := by simpa using h2
  exact (cmp_zero a b).2 this
end Go.Proofs.Ytoegpjcekdafoaa
