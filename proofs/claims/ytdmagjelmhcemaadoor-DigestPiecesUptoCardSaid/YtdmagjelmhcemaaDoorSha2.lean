/- Padding a message, in rounds. Nothing of a program. -/
import Derived.Test.YtdmagjelmhcemaaDoorSha
import Derived.Test.YtdmagjelmhcemaaDoorTextLaw2
namespace Go.Proofs.YtdmagjelmhcemaaDoor
open Go.RowKit
set_option linter.unusedVariables false
set_option linter.unusedSimpArgs false

/-- the message, the mark, and so many zeros -/
def padTo (m : List UInt8) (k : Nat) : List UInt8 := m ++ [0x80] ++ List.replicate k 0
theorem padTo_length (m : List UInt8) (k : Nat) : (padTo m k).length = m.length + 1 + k := by simp [padTo]; omega
theorem padTo_zero (m : List UInt8) : [] ++ m.map vb ++ [Value.int .u8 128] = (padTo m 0).map vb := by
  simp only [padTo, List.replicate_zero, List.append_nil, List.map_append, List.nil_append]; rfl
theorem padTo_step (m : List UInt8) (k : Nat) : (padTo m k).map vb ++ [Value.int .u8 0] = (padTo m (k + 1)).map vb := by
  simp only [padTo, List.replicate_succ', List.map_append, List.append_assoc]; rfl
/-- and so many of the eight bytes -/
def padTo2 (m : List UInt8) (j : Nat) : List UInt8 := padTo m ((119 - m.length % 64) % 64) ++ (be64 (m.length * 8)).take j
theorem be64_length (n : Nat) : (be64 n).length = 8 := by simp [be64]
theorem be64_getD (n j : Nat) (h : j < 8) : (be64 n).getD j 0 = UInt8.ofNat (n / 2 ^ (8 * (7 - j))) := by
  simp [be64, List.getD, h]
theorem padTo2_step (m : List UInt8) (j : Nat) (h : j < 8) : (padTo2 m j).map vb ++ [Value.int .u8 ((UInt8.ofNat (m.length * 8 / 2 ^ (8 * (7 - j)))).toNat : Int)] = (padTo2 m (j + 1)).map vb := by
  rw [padTo2, padTo2, take_getD _ j (by rw [be64_length]; exact h), be64_getD _ _ h, List.map_append, List.map_append, List.map_append, List.append_assoc]; rfl
theorem padTo2_done (m : List UInt8) : padTo2 m 8 = padm m := by
  rw [padTo2, padTo, padm, List.take_of_length_le (by rw [be64_length]; exact Nat.le_refl _)]
theorem padTo2_length (m : List UInt8) (j : Nat) (h : j ≤ 8) : (padTo2 m j).length = m.length + 1 + (119 - m.length % 64) % 64 + j := by
  rw [padTo2, List.length_append, padTo_length, List.length_take, be64_length]; omega
theorem pad_sl {w : World} {g c : Nat} {X : List UInt8} (h : Sl w (some ⟨g, 0, none⟩) (X.map vb)) (i : Nat) (hc : (X.map vb).length ≤ c * 1) : Sl w (cut (some ⟨g, 0, none⟩) c (64 * i) 1) (((X.drop (64 * i)).take 64).map vb) := by
  have h1 := (h.drop c (64 * i) 1 hc).take 64
  rw [Nat.mul_one, ← List.map_drop, ← List.map_take] at h1
  exact h1
theorem rpad_fin (m : List UInt8) {w w' : World} {e : TypeId} {hs : List HB} (q : Nat × Option Nat × Nat × List Value) (hok : RowOk 1 q.2.1 (m.length + 1 + (119 - m.length % 64) % 64 + q.1) q.2.2.1 ((padTo2 m q.1).map vb) q.2.2.2) (hj : q.1 = 8)
    (hw : Hp w [] (⟨q.2.1, ((padTo2 m q.1).map vb ++ q.2.2.2).toArray, e, (0, 0)⟩ :: hs) w') :
    ∃ g c' r, RowOk 1 (some g) (padm m).length c' ((padm m).map vb) r ∧ Ending.returned (rowv q.2.1 (m.length + 1 + (119 - m.length % 64) % 64 + q.1) q.2.2.1) = .returned (rowv (some g) (padm m).length c') ∧ Hp w [] [⟨some g, vrow (padm m) r, e, (0, 0)⟩] w' := by
  obtain ⟨j, o, c, r⟩ := q
  dsimp only at hok hj hw ⊢
  subst hj
  have hl := padTo2_length m 8 (Nat.le_refl _)
  rw [padTo2_done] at hl hok hw
  rw [← hl] at hok ⊢
  cases o with
  | none => have h1 := hok.nil rfl; have h2 := hok.le; omega
  | some g => exact ⟨g, c, r, hok, rfl, hw.pick (is := [0]) (by decide) (.cons 0 rfl .nil)⟩
end Go.Proofs.YtdmagjelmhcemaaDoor
