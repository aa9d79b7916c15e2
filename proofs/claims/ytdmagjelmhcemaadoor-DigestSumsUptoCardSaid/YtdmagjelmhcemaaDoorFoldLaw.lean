/- Folding 32 bytes to 20, as a plain function on lists of bytes; what it does when one byte is turned into another. Nothing of a program. -/
namespace Go.Proofs.YtdmagjelmhcemaaDoor

/-- what the fold holds when k bytes have been taken -/
def foldTo (l : List UInt8) : Nat → List UInt8
  | 0 => List.replicate 20 0
  | k + 1 => (foldTo l k).set (k % 20) ((foldTo l k).getD (k % 20) 0 ^^^ l.getD k 0)
theorem foldTo_length (l : List UInt8) (k : Nat) : (foldTo l k).length = 20 := by
  induction k with
  | zero => rfl
  | succ k ih => simp [foldTo, ih]

theorem getD_set_eq {α : Type} (l : List α) (i : Nat) (v d : α) (h : i < l.length) : (l.set i v).getD i d = v := by
  simp [List.getD, h]
theorem getD_set_ne {α : Type} (l : List α) (i j : Nat) (v d : α) (h : i ≠ j) : (l.set i v).getD j d = l.getD j d := by
  simp [List.getD, h]

theorem xor_back (f a v : UInt8) : f ^^^ a ^^^ a ^^^ v = f ^^^ v := by
  rw [UInt8.xor_assoc f a a, UInt8.xor_self, UInt8.xor_zero]
theorem xor_far (f a v b : UInt8) : f ^^^ a ^^^ v ^^^ b = f ^^^ b ^^^ a ^^^ v := by
  rw [UInt8.xor_assoc (f ^^^ a) v b, UInt8.xor_assoc f a (v ^^^ b), UInt8.xor_assoc (f ^^^ b) a v, UInt8.xor_assoc f b (a ^^^ v), ← UInt8.xor_assoc a v b, UInt8.xor_comm (a ^^^ v) b]

theorem foldTo_set (l : List UInt8) (i : Nat) (v : UInt8) (hi : i < l.length) (k : Nat) :
    foldTo (l.set i v) k = if i < k then (foldTo l k).set (i % 20) ((foldTo l k).getD (i % 20) 0 ^^^ l.getD i 0 ^^^ v) else foldTo l k := by
  induction k with
  | zero => simp [foldTo]
  | succ k ih =>
    have hL := foldTo_length l k
    have hi20 : i % 20 < (foldTo l k).length := by rw [hL]; exact Nat.mod_lt _ (by decide)
    have hk20 : k % 20 < (foldTo l k).length := by rw [hL]; exact Nat.mod_lt _ (by decide)
    rcases Nat.lt_trichotomy i k with h | h | h
    · rw [if_pos h] at ih
      rw [if_pos (by omega)]
      simp only [foldTo, ih]
      rw [getD_set_ne _ _ _ _ _ (by omega : i ≠ k)]
      by_cases e : i % 20 = k % 20
      · rw [e, getD_set_eq _ _ _ _ (by simpa using hk20), getD_set_eq _ _ _ _ hk20, List.set_set, List.set_set, xor_far]
      · rw [getD_set_ne _ _ _ _ _ e, getD_set_ne _ _ _ _ _ (Ne.symm e), List.set_comm _ _ e]
    · subst h
      rw [if_neg (by omega)] at ih
      rw [if_pos (by omega)]
      simp only [foldTo, ih]
      rw [getD_set_eq _ _ _ _ hi, getD_set_eq _ _ _ _ hi20, List.set_set, xor_back]
    · rw [if_neg (by omega)] at ih
      rw [if_neg (by omega)]
      simp only [foldTo, ih]
      rw [getD_set_ne _ _ _ _ _ (by omega : i ≠ k)]

/-- the array c of the law when i bytes have been turned, and what is wanted then -/
def turnTo (a b : List UInt8) : Nat → List UInt8
  | 0 => a
  | k + 1 => (turnTo a b k).set k (b.getD k 0)
def wantTo (a b : List UInt8) : Nat → List UInt8
  | 0 => foldTo a 32
  | k + 1 => (wantTo a b k).set (k % 20) ((wantTo a b k).getD (k % 20) 0 ^^^ a.getD k 0 ^^^ b.getD k 0)
theorem turnTo_length (a b : List UInt8) (k : Nat) : (turnTo a b k).length = a.length := by
  induction k with
  | zero => rfl
  | succ k ih => simp [turnTo, ih]
theorem wantTo_length (a b : List UInt8) (k : Nat) : (wantTo a b k).length = 20 := by
  induction k with
  | zero => exact foldTo_length a 32
  | succ k ih => simp [wantTo, ih]
theorem turnTo_getD (a b : List UInt8) (k j : Nat) (h : k ≤ j) : (turnTo a b k).getD j 0 = a.getD j 0 := by
  induction k with
  | zero => rfl
  | succ k ih => rw [turnTo, getD_set_ne _ _ _ _ _ (by omega), ih (by omega)]
theorem fold_turn (a b : List UInt8) (ha : a.length = 32) (k : Nat) (hk : k ≤ 32) : foldTo (turnTo a b k) 32 = wantTo a b k := by
  induction k with
  | zero => rfl
  | succ k ih =>
    rw [turnTo, foldTo_set _ _ _ (by rw [turnTo_length]; omega), if_pos (by omega), ih (by omega), turnTo_getD _ _ _ _ (Nat.le_refl k), wantTo]

theorem fold_one : foldTo ((List.replicate 32 0).set 31 7) 32 = (List.replicate 20 0).set 11 7 := by decide
theorem fold_none : foldTo (List.replicate 32 0) 32 = List.replicate 20 0 := by decide

end Go.Proofs.YtdmagjelmhcemaaDoor
