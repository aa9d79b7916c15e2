/- Bases read back, plainly: digits as numbers, lists of bytes as numbers. Nothing of a program. -/
import Derived.Test.YtdmagjelmhcemaaTextLaw2
import Derived.Lib.IndexLaws
namespace Go.Proofs.Ytdmagjelmhcemaa
open Go.RowKit
set_option linter.unusedVariables false
set_option linter.unusedSimpArgs false

/-- the worth of a digit -/
def worth (D : List UInt8) (c : UInt8) : Nat := (Lib.indexByte D c).toNat
def isBad (D : List UInt8) (c : UInt8) : Bool := decide (Lib.indexByte D c < 0)
theorem worth_eq {D : List UInt8} {c : UInt8} (h : isBad D c = false) : Lib.indexByte D c = (worth D c : Nat) := by
  have : ¬ Lib.indexByte D c < 0 := by simpa [isBad] using h
  unfold worth; omega
theorem worth_lt {D : List UInt8} {c : UInt8} (h : isBad D c = false) : worth D c < D.length := by
  have h1 := (Lib.indexByte_some (worth_eq h)).1
  exact (List.getElem?_eq_some_iff.1 h1).1
theorem worth_getD {D : List UInt8} {c : UInt8} (h : isBad D c = false) : D.getD (worth D c) 0 = c := by
  have h1 := (Lib.indexByte_some (worth_eq h)).1
  simp [List.getD, h1]
/-- the first byte that is no digit -/
def wrongAt (D s : List UInt8) : Option Nat := s.findIdx? (isBad D)
def wrongInt (D s : List UInt8) : Int := match wrongAt D s with
  | some i => i
  | none => -1
theorem wrong_hit {D s : List UInt8} {i : Nat} (hi : i < s.length) (hall : ∀ j, j < i → isBad D (s.getD j 0) = false) (h : isBad D (s.getD i 0) = true) : wrongAt D s = some i := by
  rw [wrongAt, List.findIdx?_eq_some_iff_getElem]
  refine ⟨hi, by simpa [List.getD, hi] using h, fun j hj => ?_⟩
  have := hall j hj
  simpa [List.getD, Nat.lt_trans hj hi] using this
theorem wrong_none {D s : List UInt8} (hall : ∀ j, j < s.length → isBad D (s.getD j 0) = false) : wrongAt D s = none := by
  rw [wrongAt, List.findIdx?_eq_none_iff]
  intro x hx
  obtain ⟨i, hi, rfl⟩ := List.getElem_of_mem hx
  have := hall i hi
  simpa [List.getD, hi] using this
theorem wrong_good {D s : List UInt8} (h : wrongAt D s = none) (j : Nat) (hj : j < s.length) : isBad D (s.getD j 0) = false := by
  rw [wrongAt, List.findIdx?_eq_none_iff] at h
  have := h _ (List.getElem_mem hj)
  simpa [List.getD, hj] using this
theorem good16 : ∀ v, v < 16 → isBad d16 (d16.getD v 0) = false ∧ worth d16 (d16.getD v 0) = v := by decide
theorem good32 : ∀ v, v < 32 → isBad d32 (d32.getD v 0) = false ∧ worth d32 (d32.getD v 0) = v := by decide +kernel
theorem good64 : ∀ v, v < 64 → isBad d64 (d64.getD v 0) = false ∧ worth d64 (d64.getD v 0) = v := by decide +kernel

/-! base 16 -/
def unhexTo (s : List UInt8) (k : Nat) : List UInt8 := (List.range k).map fun i => UInt8.ofNat (16 * worth d16 (s.getD (2 * i) 0) + worth d16 (s.getD (2 * i + 1) 0))
theorem hexOf_at (l : List UInt8) : ∀ (k : Nat), k < l.length → (hexOf l).getD (2 * k) 0 = d16.getD ((l.getD k 0).toNat / 16) 0 ∧ (hexOf l).getD (2 * k + 1) 0 = d16.getD ((l.getD k 0).toNat % 16) 0 := by
  induction l with
  | nil => intro k h; cases h
  | cons b l ih =>
    intro k hk
    cases k with
    | zero => exact ⟨rfl, rfl⟩
    | succ k =>
      have h := ih k (by simpa using hk)
      have e : hexOf (b :: l) = d16.getD (b.toNat / 16) 0 :: d16.getD (b.toNat % 16) 0 :: hexOf l := rfl
      rw [e, show 2 * (k + 1) = 2 * k + 1 + 1 by omega]
      simpa only [List.getD_cons_succ] using h
theorem hexOf_good (l : List UInt8) : wrongAt d16 (hexOf l) = none := wrong_none fun j hj => by
  rw [hexOf_length] at hj
  have hb := (l.getD (j / 2) 0).toNat_lt
  have h := hexOf_at l (j / 2) (by omega)
  rcases Nat.mod_two_eq_zero_or_one j with e | e
  · rw [show j = 2 * (j / 2) by omega, h.1]; exact (good16 _ (by omega)).1
  · rw [show j = 2 * (j / 2) + 1 by omega, h.2]; exact (good16 _ (by omega)).1
theorem unhex_hexOf (l : List UInt8) : unhexTo (hexOf l) l.length = l := by
  apply List.ext_getElem
  · simp [unhexTo]
  · intro i h1 h2
    have hb := (l.getD i 0).toNat_lt
    have h := hexOf_at l i h2
    simp only [unhexTo, List.getElem_map, List.getElem_range, h.1, h.2, (good16 _ (show (l.getD i 0).toNat / 16 < 16 by omega)).2, (good16 _ (show (l.getD i 0).toNat % 16 < 16 by omega)).2]
    rw [show 16 * ((l.getD i 0).toNat / 16) + (l.getD i 0).toNat % 16 = (l.getD i 0).toNat by omega, UInt8.ofNat_toNat]
    simp [List.getD, h2]

/-! lists of bytes as numbers, the lowest first -/
def num : List UInt8 → Nat
  | [] => 0
  | b :: l => b.toNat + 256 * num l
def toLE (n N : Nat) : List UInt8 := (List.range n).map fun i => UInt8.ofNat (N / 256 ^ i)
theorem toLE_length (n N : Nat) : (toLE n N).length = n := by simp [toLE]
theorem toLE_getD (n N i : Nat) (h : i < n) : (toLE n N).getD i 0 = UInt8.ofNat (N / 256 ^ i) := by simp [toLE, List.getD, h]
theorem num_lt (l : List UInt8) : num l < 256 ^ l.length := by
  induction l with
  | nil => simp [num]
  | cons b l ih =>
    have := b.toNat_lt
    simp only [num, List.length_cons, Nat.pow_succ]; omega
theorem num_at (l : List UInt8) : ∀ i, num l / 256 ^ i % 256 = (l.getD i 0).toNat := by
  induction l with
  | nil => intro i; simp [num]
  | cons b l ih =>
    intro i
    have := b.toNat_lt
    cases i with
    | zero => simp only [num, Nat.pow_zero, Nat.div_one, List.getD_cons_zero]; omega
    | succ i =>
      rw [List.getD_cons_succ, ← ih i, Nat.pow_succ', ← Nat.div_div_eq_div_mul, num, show (b.toNat + 256 * num l) / 256 = num l by omega]
theorem ofNat_mod (n : Nat) : UInt8.ofNat (n % 256) = UInt8.ofNat n := by
  apply UInt8.toNat_inj.1
  simp
theorem toLE_num (l : List UInt8) : toLE l.length (num l) = l := by
  apply List.ext_getElem
  · simp [toLE]
  · intro i h1 h2
    simp only [toLE, List.getElem_map, List.getElem_range]
    rw [← ofNat_mod, num_at, UInt8.ofNat_toNat]
    simp [List.getD, h2]
theorem five_num (l : List UInt8) (k : Nat) : five l k = num l / 32 ^ k % 32 := by
  have e1 : (32 : Nat) ^ k = 256 ^ (5 * k / 8) * 2 ^ (5 * k % 8) := by
    rw [show (32 : Nat) = 2 ^ 5 from rfl, show (256 : Nat) = 2 ^ 8 from rfl, ← Nat.pow_mul, ← Nat.pow_mul, ← Nat.pow_add]
    congr 1; omega
  have h0 := num_at l (5 * k / 8)
  have h1 := num_at l (5 * k / 8 + 1)
  rw [Nat.pow_succ, ← Nat.div_div_eq_div_mul] at h1
  rw [e1, ← Nat.div_div_eq_div_mul, five, ← h0, ← h1]
  generalize num l / 256 ^ (5 * k / 8) = a
  have hr : 5 * k % 8 < 8 := Nat.mod_lt _ (by decide)
  rcases pow_cases _ hr with e | e | e | e | e | e | e | e <;> simp only [e] <;> omega

/-! a byte of a number set -/
theorem toLE_set {n A y p : Nat} (hp : p < n) (hy : A / 256 ^ p % 256 + y < 256) : (toLE n A).set p (UInt8.ofNat (A / 256 ^ p % 256 + y)) = toLE n (A + y * 256 ^ p) := by
  apply List.ext_getElem
  · simp [toLE]
  · intro i h1 h2
    have hi : i < n := by simpa [toLE] using h2
    have hpos : 0 < 256 ^ p := Nat.pow_pos (by decide)
    rw [List.getElem_set]
    simp only [toLE, List.getElem_map, List.getElem_range]
    have eP : (A + y * 256 ^ p) / 256 ^ p = A / 256 ^ p + y := Nat.add_mul_div_right _ _ hpos
    split
    · rename_i e
      subst e
      rw [eP, ← ofNat_mod (A / 256 ^ p + y)]
      congr 1; omega
    · rename_i hne
      rcases Nat.lt_or_gt_of_ne hne with h | h
      · -- above
        have e1 : (256 : Nat) ^ i = 256 ^ p * (256 * 256 ^ (i - p - 1)) := by
          rw [← Nat.pow_succ', ← Nat.pow_add]; congr 1; omega
        rw [e1, ← Nat.div_div_eq_div_mul, ← Nat.div_div_eq_div_mul, ← Nat.div_div_eq_div_mul, ← Nat.div_div_eq_div_mul, eP, show (A / 256 ^ p + y) / 256 = A / 256 ^ p / 256 by omega]
      · have e1 : (256 : Nat) ^ p = 256 ^ i * (256 * 256 ^ (p - i - 1)) := by
          rw [← Nat.pow_succ', ← Nat.pow_add]; congr 1; omega
        have hposi : 0 < 256 ^ i := Nat.pow_pos (by decide)
        rw [show y * 256 ^ p = (y * (256 * 256 ^ (p - i - 1))) * 256 ^ i by rw [e1, Nat.mul_comm (256 ^ i), ← Nat.mul_assoc], Nat.add_mul_div_right _ _ hposi, ← ofNat_mod (A / 256 ^ i), ← ofNat_mod (A / 256 ^ i + _)]
        congr 1
        rw [show y * (256 * 256 ^ (p - i - 1)) = 256 * (y * 256 ^ (p - i - 1)) by rw [Nat.mul_left_comm]]
        omega

/-! base 32, read -/
def numTo (s : List UInt8) : Nat → Nat
  | 0 => 0
  | k + 1 => numTo s k + worth d32 (s.getD (s.length - 1 - k) 0) * 32 ^ k
theorem numTo_lt {s : List UInt8} (hg : wrongAt d32 s = none) : ∀ k, k ≤ s.length → numTo s k < 32 ^ k
  | 0, _ => by simp [numTo]
  | k + 1, h => by
    have h1 := numTo_lt hg k (by omega)
    have h2 : worth d32 (s.getD (s.length - 1 - k) 0) < 32 := worth_lt (wrong_good hg _ (by omega))
    have h3 : worth d32 (s.getD (s.length - 1 - k) 0) * 32 ^ k ≤ 31 * 32 ^ k := Nat.mul_le_mul_right _ (by omega)
    rw [numTo, Nat.pow_succ]; omega
theorem numTo_mono (s : List UInt8) (k : Nat) : ∀ j, numTo s k ≤ numTo s (k + j)
  | 0 => Nat.le_refl _
  | j + 1 => Nat.le_trans (numTo_mono s k j) (by rw [← Nat.add_assoc, numTo]; omega)
theorem b32To_at (l : List UInt8) (n : Nat) : ∀ m k, m ≤ n → k < m → (b32To l n m).getD (n - 1 - k) 0 = d32.getD (five l k) 0
  | m + 1, k, hm, hk => by
    rw [b32To]
    by_cases e : k = m
    · subst e
      have : n - 1 - k < (b32To l n k).length := by rw [b32To_length]; omega
      simp [List.getD, this]
    · have h := b32To_at l n m k (by omega) (by omega)
      have hne : n - 1 - m ≠ n - 1 - k := by omega
      rw [List.getD, List.getElem?_set_ne hne]
      exact h
theorem base32_at (l : List UInt8) (k : Nat) (hk : k < (base32Of l).length) : (base32Of l).getD ((base32Of l).length - 1 - k) 0 = d32.getD (five l k) 0 := by
  rw [base32Of_length] at hk ⊢
  exact b32To_at l _ _ k (Nat.le_refl _) hk
theorem base32_good (l : List UInt8) : wrongAt d32 (base32Of l) = none := wrong_none fun j hj => by
  have h := base32_at l ((base32Of l).length - 1 - j) (by omega)
  rw [show (base32Of l).length - 1 - ((base32Of l).length - 1 - j) = j by omega] at h
  rw [h]; exact (good32 _ (five_lt l _)).1
theorem numTo_base32 (l : List UInt8) : ∀ k, k ≤ (base32Of l).length → numTo (base32Of l) k = num l % 32 ^ k
  | 0, _ => by simp [numTo, Nat.mod_one]
  | k + 1, h => by
    rw [numTo, numTo_base32 l k (by omega), base32_at l k (by omega), (good32 _ (five_lt l k)).2, five_num, Nat.pow_succ, Nat.mod_mul, Nat.mul_comm (32 ^ k)]
theorem numTo_all (l : List UInt8) : numTo (base32Of l) (base32Of l).length = num l := by
  rw [numTo_base32 l _ (Nat.le_refl _), Nat.mod_eq_of_lt]
  refine Nat.lt_of_lt_of_le (num_lt l) ?_
  rw [show (256 : Nat) = 2 ^ 8 from rfl, show (32 : Nat) = 2 ^ 5 from rfl, ← Nat.pow_mul, ← Nat.pow_mul, base32Of_length]
  exact Nat.pow_le_pow_right (by decide) (by omega)
/-- one byte of a digit taken in: the 't'th -/
theorem un32_step {s : List UInt8} {k t n v : Nat} (hv : v < 32) (hN : numTo s k < 32 ^ k) (ht : t ≤ 1) (hp : 5 * k / 8 + t < n) :
    (toLE n (numTo s k + (v * 2 ^ (5 * k % 8) % 256 ^ t) * 256 ^ (5 * k / 8))).set (5 * k / 8 + t)
      ((toLE n (numTo s k + (v * 2 ^ (5 * k % 8) % 256 ^ t) * 256 ^ (5 * k / 8))).getD (5 * k / 8 + t) 0 ||| UInt8.ofNat (v * 2 ^ (5 * k % 8) / 256 ^ t)) =
    toLE n (numTo s k + (v * 2 ^ (5 * k % 8) % 256 ^ (t + 1)) * 256 ^ (5 * k / 8)) := by
  have e32 : (32 : Nat) ^ k = 2 ^ (5 * k % 8) * 256 ^ (5 * k / 8) := by
    rw [show (32 : Nat) = 2 ^ 5 from rfl, show (256 : Nat) = 2 ^ 8 from rfl, ← Nat.pow_mul, ← Nat.pow_mul, ← Nat.pow_add]
    congr 1; omega
  rw [e32] at hN
  have hpos : 0 < 256 ^ (5 * k / 8) := Nat.pow_pos (by decide)
  have ha : numTo s k / 256 ^ (5 * k / 8) < 2 ^ (5 * k % 8) := (Nat.div_lt_iff_lt_mul hpos).2 hN
  have hr : 5 * k % 8 < 8 := Nat.mod_lt _ (by decide)
  generalize hb : 5 * k % 8 = b at *
  generalize hq : 5 * k / 8 = q at *
  generalize numTo s k = N at *
  have hd : v * 2 ^ b < 4096 := by
    have : (2 : Nat) ^ b ≤ 128 := by simpa using Nat.pow_le_pow_right (n := 2) (by decide) (show b ≤ 7 by omega)
    have := Nat.mul_le_mul (show v ≤ 31 by omega) this
    omega
  rw [toLE_getD _ _ _ hp]
  rcases (show t = 0 ∨ t = 1 by omega) with rfl | rfl
  · simp only [Nat.pow_zero, Nat.mod_one, Nat.zero_mul, Nat.add_zero, Nat.div_one, Nat.zero_add, Nat.pow_one] at hp ⊢
    have hy : N / 256 ^ q % 256 + v * 2 ^ b % 256 < 256 := by
      have h1 : N / 256 ^ q % 256 ≤ N / 256 ^ q := Nat.mod_le _ _
      rcases pow_cases b hr with e | e | e | e | e | e | e | e <;> subst e <;> omega
    have hor : UInt8.ofNat (N / 256 ^ q) ||| UInt8.ofNat (v * 2 ^ b) = UInt8.ofNat (N / 256 ^ q % 256 + v * 2 ^ b % 256) := by
      apply UInt8.toNat_inj.1
      rw [UInt8.toNat_or, UInt8.toNat_ofNat', UInt8.toNat_ofNat', UInt8.toNat_ofNat', Nat.mod_eq_of_lt hy]
      have e1 : v * 2 ^ b % 256 = 2 ^ b * (v % 2 ^ (8 - b)) := by
        rcases pow_cases b hr with e | e | e | e | e | e | e | e <;> subst e <;> omega
      have e2 : N / 256 ^ q % 2 ^ 8 = N / 256 ^ q := Nat.mod_eq_of_lt (Nat.lt_of_lt_of_le ha (Nat.pow_le_pow_right (by decide) (by omega)))
      rw [show (256 : Nat) = 2 ^ 8 from rfl] at e1 ⊢
      rw [e2, e1, Nat.or_comm, ← Nat.two_pow_add_eq_or_of_lt ha, Nat.add_comm]
    rw [hor, toLE_set hp hy]
  · simp only [Nat.pow_one] at hp ⊢
    have hA : N + v * 2 ^ b % 256 * 256 ^ q < 256 ^ (q + 1) := by
      have h1 : v * 2 ^ b % 256 + 2 ^ b ≤ 256 := by
        rcases pow_cases b hr with e | e | e | e | e | e | e | e <;> subst e <;> omega
      have h2 := Nat.mul_le_mul_right (256 ^ q) h1
      rw [Nat.add_mul] at h2
      rw [Nat.pow_succ']; omega
    have h0 : (N + v * 2 ^ b % 256 * 256 ^ q) / 256 ^ (q + 1) = 0 := Nat.div_eq_of_lt hA
    have hy : (N + v * 2 ^ b % 256 * 256 ^ q) / 256 ^ (q + 1) % 256 + v * 2 ^ b / 256 < 256 := by rw [h0]; omega
    have hz := toLE_set hp hy
    rw [h0] at hz ⊢
    have e3 : (UInt8.ofNat 0 ||| UInt8.ofNat (v * 2 ^ b / 256)) = UInt8.ofNat (0 % 256 + v * 2 ^ b / 256) := by
      apply UInt8.toNat_inj.1
      rw [UInt8.toNat_or]; simp
    rw [e3, hz]
    congr 1
    rw [show v * 2 ^ b % 256 ^ (1 + 1) = v * 2 ^ b % 256 + v * 2 ^ b / 256 * 256 by rw [show (256 : Nat) ^ (1 + 1) = 65536 from rfl]; omega, Nat.add_mul, Nat.pow_succ', Nat.mul_assoc, Nat.add_assoc]
theorem un32_done {s : List UInt8} {k t v : Nat} (hv : v * 2 ^ (5 * k % 8) / 256 ^ t = 0) (h : v = worth d32 (s.getD (s.length - 1 - k) 0)) : numTo s k + (v * 2 ^ (5 * k % 8) % 256 ^ t) * 256 ^ (5 * k / 8) = numTo s (k + 1) := by
  have hlt : v * 2 ^ (5 * k % 8) < 256 ^ t := (Nat.div_eq_zero_iff_lt (Nat.pow_pos (by decide))).1 hv
  rw [Nat.mod_eq_of_lt hlt, numTo, ← h, Nat.mul_assoc]
  congr 2
  rw [show (32 : Nat) = 2 ^ 5 from rfl, show (256 : Nat) = 2 ^ 8 from rfl, ← Nat.pow_mul, ← Nat.pow_mul, ← Nat.pow_add]
  congr 1; omega
/-- too great: no byte is left for what stands -/
theorem un32_over {s : List UInt8} {k t v n : Nat} (hv : 0 < v * 2 ^ (5 * k % 8) / 256 ^ t) (h : v = worth d32 (s.getD (s.length - 1 - k) 0)) (hn : 5 * k / 8 + t = n) : 256 ^ n ≤ numTo s (k + 1) := by
  have h1 : 256 ^ t ≤ v * 2 ^ (5 * k % 8) := by
    have := Nat.div_pos_iff.1 hv
    exact this.2
  have h2 := Nat.mul_le_mul_right (256 ^ (5 * k / 8)) h1
  rw [← Nat.pow_add, Nat.add_comm t, hn] at h2
  have e : v * 2 ^ (5 * k % 8) * 256 ^ (5 * k / 8) = v * 32 ^ k := by
    rw [Nat.mul_assoc]; congr 1
    rw [show (32 : Nat) = 2 ^ 5 from rfl, show (256 : Nat) = 2 ^ 8 from rfl, ← Nat.pow_mul, ← Nat.pow_mul, ← Nat.pow_add]
    congr 1; omega
  rw [numTo, ← h, ← e]; omega
end Go.Proofs.Ytdmagjelmhcemaa
