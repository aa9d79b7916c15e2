/- Base 64 read back, plainly. Nothing of a program. -/
import Derived.Test.YtdmagjelmhcemaaUn2
namespace Go.Proofs.Ytdmagjelmhcemaa
open Go.RowKit
set_option linter.unusedVariables false
set_option linter.unusedSimpArgs false
/-- the bytes so far, and the bits that are left over -/
def st64 (d : List UInt8) : Nat → List UInt8 × Nat
  | 0 => ([], 0)
  | i + 1 =>
    let a := (st64 d i).2 * 64 + worth d64 (d.getD i 0)
    if 8 ≤ 6 * i % 8 + 6 then ((st64 d i).1 ++ [UInt8.ofNat (a / 2 ^ (6 * i % 8 + 6 - 8))], a % 2 ^ (6 * i % 8 + 6 - 8)) else ((st64 d i).1, a)
def trim1 (s : List UInt8) : List UInt8 := if s.drop (s.length - 1) = [61] then s.take (s.length - 1) else s
def trimK (s : List UInt8) : Nat → List UInt8
  | 0 => s
  | k + 1 => trim1 (trimK s k)
theorem trim1_le (s : List UInt8) : (trim1 s).length ≤ s.length := by unfold trim1; split <;> simp
theorem trimK_le (s : List UInt8) (k : Nat) : (trimK s k).length ≤ s.length := by
  induction k with
  | zero => exact Nat.le_refl _
  | succ k ih => exact Nat.le_trans (trim1_le _) ih
def un64 (s : List UInt8) : List UInt8 ⊕ Nat × Nat :=
  if ¬ s.length % 4 = 0 then .inr (3, s.length) else match wrongAt d64 (trimK s 2) with
    | some i => .inr (10, i)
    | none => if ¬ (st64 (trimK s 2) (trimK s 2).length).2 = 0 then .inr (11, (trimK s 2).length - 1) else .inl (st64 (trimK s 2) (trimK s 2).length).1
theorem un64_short {s : List UInt8} (h : ¬ s.length % 4 = 0) : un64 s = .inr (3, s.length) := if_pos h
theorem un64_wrong {s : List UInt8} {i : Nat} (h : s.length % 4 = 0) (h2 : wrongAt d64 (trimK s 2) = some i) : un64 s = .inr (10, i) := by rw [un64, if_neg (by omega), h2]
theorem un64_bits {s : List UInt8} (h : s.length % 4 = 0) (h2 : wrongAt d64 (trimK s 2) = none) (h3 : ¬ (st64 (trimK s 2) (trimK s 2).length).2 = 0) : un64 s = .inr (11, (trimK s 2).length - 1) := by rw [un64, if_neg (by omega), h2]; exact if_pos h3
theorem un64_ok {s : List UInt8} (h : s.length % 4 = 0) (h2 : wrongAt d64 (trimK s 2) = none) (h3 : (st64 (trimK s 2) (trimK s 2).length).2 = 0) : un64 s = .inl (st64 (trimK s 2) (trimK s 2).length).1 := by rw [un64, if_neg (by omega), h2]; exact if_neg (fun h => h h3)
theorem st64_fit {d : List UInt8} (hg : wrongAt d64 d = none) : ∀ i, i ≤ d.length → (st64 d i).1.length = 6 * i / 8 ∧ (st64 d i).2 < 2 ^ (6 * i % 8)
  | 0, _ => by simp [st64]
  | i + 1, h => by
    obtain ⟨h1, h2⟩ := st64_fit hg i (by omega)
    have hv : worth d64 (d.getD i 0) < 64 := worth_lt (wrong_good hg i (by omega))
    have hr : 6 * i % 8 = 0 ∨ 6 * i % 8 = 2 ∨ 6 * i % 8 = 4 ∨ 6 * i % 8 = 6 := by omega
    simp only [st64]
    generalize (st64 d i).2 = a at *
    rcases hr with e | e | e | e <;> simp only [e] at h2 ⊢
    · rw [if_neg (by decide)]; refine ⟨by dsimp only; omega, ?_⟩
      rw [show 6 * (i + 1) % 8 = 6 by omega]; dsimp only; omega
    · rw [if_pos (by decide)]; refine ⟨by simp only [List.length_append, List.length_singleton]; omega, ?_⟩
      rw [show 6 * (i + 1) % 8 = 0 by omega]; exact Nat.mod_lt _ (by decide)
    · rw [if_pos (by decide)]; refine ⟨by simp only [List.length_append, List.length_singleton]; omega, ?_⟩
      rw [show 6 * (i + 1) % 8 = 2 by omega]; exact Nat.mod_lt _ (by decide)
    · rw [if_pos (by decide)]; refine ⟨by simp only [List.length_append, List.length_singleton]; omega, ?_⟩
      rw [show 6 * (i + 1) % 8 = 4 by omega]; exact Nat.mod_lt _ (by decide)
theorem or6 (a v : Nat) (h : v < 64) : a * 2 ^ 6 ||| v = a * 64 + v := by
  rw [Nat.mul_comm, ← Nat.two_pow_add_eq_or_of_lt (show v < 2 ^ 6 from h), Nat.mul_comm]
theorem and_low (a m : Nat) : a &&& (2 ^ m - 1) = a % 2 ^ m := Nat.and_two_pow_sub_one_eq_mod a m
theorem st64_hit {d : List UInt8} {i : Nat} (h : 8 ≤ 6 * i % 8 + 6) : st64 d (i + 1) = ((st64 d i).1 ++ [UInt8.ofNat (((st64 d i).2 * 64 + worth d64 (d.getD i 0)) / 2 ^ (6 * i % 8 + 6 - 8))], ((st64 d i).2 * 64 + worth d64 (d.getD i 0)) % 2 ^ (6 * i % 8 + 6 - 8)) := by
  rw [st64]; exact if_pos h
theorem st64_miss {d : List UInt8} {i : Nat} (h : ¬ 8 ≤ 6 * i % 8 + 6) : st64 d (i + 1) = ((st64 d i).1, (st64 d i).2 * 64 + worth d64 (d.getD i 0)) := by
  rw [st64]; exact if_neg h
theorem ret_bool' {b c : Bool} (h : b = c) : Ending.returned (.bool b) = .returned (.bool c) := by rw [h]
end Go.Proofs.Ytdmagjelmhcemaa
