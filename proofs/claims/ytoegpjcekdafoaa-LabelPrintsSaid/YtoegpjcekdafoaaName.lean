/- Names, plainly. Nothing of a program. -/
import Derived.Test.YtoegpjcekdafoaaRange
import Derived.Lib.IndexLaws
namespace Go.Proofs.Ytoegpjcekdafoaa
open Go.RowKit
set_option linter.unusedVariables false
set_option linter.unusedSimpArgs false
def mayI (r : Nat) : Bool := decide (65 ≤ r ∧ r ≤ 90 ∨ 97 ≤ r ∧ r ≤ 122 ∨ 48 ≤ r ∧ r ≤ 57 ∨ r = 43 ∨ r = 45 ∨ r = 46 ∨ r = 95 ∨ r = 63 ∨ r = 61)
theorem marks_may (r : Nat) (h : r < 128) : decide (0 ≤ Lib.indexByte [43, 45, 46, 95, 63, 61] (UInt8.ofNat r)) = decide (r = 43 ∨ r = 45 ∨ r = 46 ∨ r = 95 ∨ r = 63 ∨ r = 61) :=
  (show ∀ r, r < 128 → decide (0 ≤ Lib.indexByte [43, 45, 46, 95, 63, 61] (UInt8.ofNat r)) = decide (r = 43 ∨ r = 45 ∨ r = 46 ∨ r = 95 ∨ r = 63 ∨ r = 61) by decide +kernel) r h
theorem may_high (r : Nat) (h : 128 ≤ r) : mayI r = false := by simp only [mayI, decide_eq_false_iff_not]; omega
/-- what Check answers -/
def checkOf (L : List UInt8) : Int × Int :=
  if 211 < L.length then (1, 0) else if L.length = 0 then (22, 0) else if (L.getD 0 0).toNat = 46 then (22, 0) else
    match L.findIdx? fun c => !mayI c.toNat with
    | some i => (22, (i : Int))
    | none => (0, 0)
theorem check_long {L : List UInt8} (h : 211 < L.length) : checkOf L = (1, 0) := if_pos h
theorem check_none {L : List UInt8} (h : L.length = 0) : checkOf L = (22, 0) := by rw [checkOf, if_neg (by omega), if_pos h]
theorem check_dot {L : List UInt8} (h0 : ¬ 211 < L.length) (h1 : 0 < L.length) (h : (L.getD 0 0).toNat = 46) : checkOf L = (22, 0) := by rw [checkOf, if_neg h0, if_neg (by omega), if_pos h]
theorem check_bad {L : List UInt8} {p : Nat} (h0 : ¬ 211 < L.length) (h1 : 0 < L.length) (h2 : ¬ (L.getD 0 0).toNat = 46) (hp : p < L.length) (hall : ∀ j, j < p → mayI (L.getD j 0).toNat = true) (h : mayI (L.getD p 0).toNat = false) : checkOf L = (22, (p : Int)) := by
  have e : L.findIdx? (fun c => !mayI c.toNat) = some p := by
    rw [List.findIdx?_eq_some_iff_getElem]
    refine ⟨hp, by simpa [List.getD, hp] using h, fun j hj => ?_⟩
    have := hall j hj
    simpa [List.getD, Nat.lt_trans hj hp] using this
  rw [checkOf, if_neg h0, if_neg (by omega), if_neg h2, e]
theorem check_good {L : List UInt8} (h0 : ¬ 211 < L.length) (h1 : 0 < L.length) (h2 : ¬ (L.getD 0 0).toNat = 46) (hall : ∀ j, j < L.length → mayI (L.getD j 0).toNat = true) : checkOf L = (0, 0) := by
  have e : L.findIdx? (fun c => !mayI c.toNat) = none := by
    rw [List.findIdx?_eq_none_iff]
    intro x hx
    obtain ⟨i, hi, rfl⟩ := List.getElem_of_mem hx
    have := hall i hi
    simpa [List.getD, hi] using this
  rw [checkOf, if_neg h0, if_neg (by omega), if_neg h2, e]
end Go.Proofs.Ytoegpjcekdafoaa
