/- Bases 16, 32 and 64, as plain functions of lists of bytes. Nothing of a program. -/
import Derived.Test.YtdmagjelmhcemaaB
namespace Go.Proofs.Ytdmagjelmhcemaa
open Go.RowKit
set_option linter.unusedVariables false
set_option linter.unusedSimpArgs false

abbrev d16 : List UInt8 := [48, 49, 50, 51, 52, 53, 54, 55, 56, 57, 97, 98, 99, 100, 101, 102]
def hexOf (l : List UInt8) : List UInt8 := l.flatMap fun b => [d16.getD (b.toNat / 16) 0, d16.getD (b.toNat % 16) 0]
theorem hexOf_length (l : List UInt8) : (hexOf l).length = 2 * l.length := by
  induction l with
  | nil => rfl
  | cons b l ih => simp only [hexOf, List.flatMap_cons, List.length_append, List.length_cons, List.length_nil] at ih ⊢; omega
theorem take_getD (l : List UInt8) (k : Nat) (hk : k < l.length) : l.take (k + 1) = l.take k ++ [l.getD k 0] := by
  rw [List.take_succ_eq_append_getElem hk]; simp [List.getD, hk]
theorem hex_take (l : List UInt8) (k : Nat) (hk : k < l.length) : hexOf (l.take (k + 1)) = hexOf (l.take k) ++ [d16.getD ((l.getD k 0).toNat / 16) 0, d16.getD ((l.getD k 0).toNat % 16) 0] := by
  rw [take_getD l k hk]; simp only [hexOf, List.flatMap_append, List.flatMap_cons, List.flatMap_nil, List.append_nil]
theorem and15 (n : Nat) : n &&& 15 = n % 16 := Nat.and_two_pow_sub_one_eq_mod n 4
theorem hex_step (l : List UInt8) (k : Nat) (hk : k < l.length) : (hexOf (l.take k)).map vb ++ [.int .u8 ((d16.getD ((l.getD k 0).toNat / 2 ^ 4) 0).toNat : Int), .int .u8 ((d16.getD ((l.getD k 0).toNat &&& 15) 0).toNat : Int)] = (hexOf (l.take (k + 1))).map vb := by
  rw [hex_take l k hk, List.map_append, and15]; rfl
theorem hex_step' (l : List UInt8) (k : Nat) (hk : k < l.length) : (hexOf (l.take k)).map vb ++ [.int .u8 ((d16.getD ((l.getD k 0).toNat / 16) 0).toNat : Int), .int .u8 ((d16.getD ((l.getD k 0).toNat % 16) 0).toNat : Int)] = (hexOf (l.take (k + 1))).map vb := by
  rw [hex_take l k hk, List.map_append]; rfl

/-! rows of bytes with room behind them -/
def vrow (X : List UInt8) (r : List Value) : Array Value := (X.map vb ++ r).toArray
theorem vrow_get (X : List UInt8) (r : List Value) (k : Nat) (h : k < X.length) : (vrow X r)[k]? = some (.int .u8 ((X.getD k 0).toNat : Int)) := by
  have : k < (X.map vb).length := by simpa using h
  simp [vrow, List.getElem?_append_left this, vb, h]
theorem vrow_set (X : List UInt8) (r : List Value) (k : Nat) (b : UInt8) (h : k < X.length) : (vrow X r).setIfInBounds k (.int .u8 (b.toNat : Int)) = vrow (X.set k b) r := by
  have h' : k < (X.map vb).length := by simpa using h
  apply Array.ext'
  simp [vrow, List.set_append_left _ _ h', List.map_set, vb]
theorem vrow_take (X : List UInt8) (r : List Value) (m : Nat) : ∀ j v, ((X.take m).map vb)[j]? = some v → (vrow X r)[0 + j]? = some v := fun j v h => by
  have h1 := (List.getElem?_eq_some_iff.1 h).1
  have h2 : j < (X.map vb).length := by simp at h1 ⊢; omega
  have h3 : j < m := by simp at h1; omega
  rw [Nat.zero_add]
  simp only [vrow, List.getElem?_toArray, List.getElem?_append_left h2]
  rw [List.map_take, List.getElem?_take_of_lt h3] at h
  exact h

/-- every byte turned about, up to there -/
def turnTo1 (X : List UInt8) : Nat → List UInt8
  | 0 => X
  | k + 1 => (turnTo1 X k).set k (~~~((turnTo1 X k).getD k 0))
theorem turnTo1_length (X : List UInt8) (k : Nat) : (turnTo1 X k).length = X.length := by
  induction k with
  | zero => rfl
  | succ k ih => simp [turnTo1, ih]

/-! base 32 -/
abbrev d32 : List UInt8 := [48, 49, 50, 51, 52, 53, 54, 55, 56, 57, 97, 98, 99, 100, 102, 103, 104, 105, 106, 107, 108, 109, 110, 112, 113, 114, 115, 118, 119, 120, 121, 122]
def bitOf (l : List UInt8) (k : Nat) : Nat := (l.getD (k / 8) 0).toNat / 2 ^ (k % 8) % 2
def five (l : List UInt8) (k : Nat) : Nat := ((l.getD (5 * k / 8) 0).toNat + 256 * (l.getD (5 * k / 8 + 1) 0).toNat) / 2 ^ (5 * k % 8) % 32
theorem five_lt (l : List UInt8) (k : Nat) : five l k < 32 := Nat.mod_lt _ (by decide)
def sumTo (l : List UInt8) (i : Nat) : Nat → Nat
  | 0 => 0
  | j + 1 => sumTo l i j + bitOf l (5 * i + j) * 2 ^ j
theorem getD_over (l : List UInt8) (k : Nat) (h : l.length ≤ k) : l.getD k 0 = 0 := by simp [List.getD, List.getElem?_eq_none h]
theorem pow_cases (b : Nat) (h : b < 8) : b = 0 ∨ b = 1 ∨ b = 2 ∨ b = 3 ∨ b = 4 ∨ b = 5 ∨ b = 6 ∨ b = 7 := by omega
theorem bit_lt (l : List UInt8) (k : Nat) : bitOf l k < 2 := Nat.mod_lt _ (by decide)
theorem sumTo_lt (l : List UInt8) (i : Nat) : ∀ j, sumTo l i j < 2 ^ j
  | 0 => by simp [sumTo]
  | j + 1 => by
    have h1 := sumTo_lt l i j
    have h2 := bit_lt l (5 * i + j)
    have h3 : bitOf l (5 * i + j) * 2 ^ j ≤ 1 * 2 ^ j := Nat.mul_le_mul_right _ (by omega)
    simp only [sumTo, Nat.pow_succ]; omega
theorem bit_at (l : List UInt8) (a b : Nat) (hb : b < 8) : bitOf l (8 * a + b) = (l.getD a 0).toNat / 2 ^ b % 2 := by
  unfold bitOf
  rw [show (8 * a + b) / 8 = a by omega, show (8 * a + b) % 8 = b by omega]
theorem sumTo_five (l : List UInt8) (i : Nat) : sumTo l i 5 = five l i := by
  have hx := (l.getD (5 * i / 8) 0).toNat_lt
  have hy := (l.getD (5 * i / 8 + 1) 0).toNat_lt
  simp only [sumTo, five]
  generalize ha : 5 * i / 8 = a at hx hy ⊢
  have hm : 5 * i = 8 * a + 5 * i % 8 := by omega
  rcases pow_cases (5 * i % 8) (Nat.mod_lt _ (by decide)) with h | h | h | h | h | h | h | h <;> rw [h] at hm <;> rw [h, hm]
  · rw [bit_at l a 0 (by decide), bit_at l a 1 (by decide), bit_at l a 2 (by decide), bit_at l a 3 (by decide), bit_at l a 4 (by decide)]; omega
  · rw [show 8 * a + 1 + 0 = 8 * a + 1 by omega, bit_at l a 1 (by decide), bit_at l a 2 (by decide), bit_at l a 3 (by decide), bit_at l a 4 (by decide), bit_at l a 5 (by decide)]; omega
  · rw [show 8 * a + 2 + 0 = 8 * a + 2 by omega, bit_at l a 2 (by decide), bit_at l a 3 (by decide), bit_at l a 4 (by decide), bit_at l a 5 (by decide), bit_at l a 6 (by decide)]; omega
  · rw [show 8 * a + 3 + 0 = 8 * a + 3 by omega, bit_at l a 3 (by decide), bit_at l a 4 (by decide), bit_at l a 5 (by decide), bit_at l a 6 (by decide), bit_at l a 7 (by decide)]; omega
  · rw [show 8 * a + 4 + 0 = 8 * a + 4 by omega, bit_at l a 4 (by decide), bit_at l a 5 (by decide), bit_at l a 6 (by decide), bit_at l a 7 (by decide), show 8 * a + 4 + 4 = 8 * (a + 1) + 0 by omega, bit_at l (a + 1) 0 (by decide)]; omega
  · rw [show 8 * a + 5 + 0 = 8 * a + 5 by omega, bit_at l a 5 (by decide), bit_at l a 6 (by decide), bit_at l a 7 (by decide), show 8 * a + 5 + 3 = 8 * (a + 1) + 0 by omega, show 8 * a + 5 + 4 = 8 * (a + 1) + 1 by omega, bit_at l (a + 1) 0 (by decide), bit_at l (a + 1) 1 (by decide)]; omega
  · rw [show 8 * a + 6 + 0 = 8 * a + 6 by omega, bit_at l a 6 (by decide), bit_at l a 7 (by decide), show 8 * a + 6 + 2 = 8 * (a + 1) + 0 by omega, show 8 * a + 6 + 3 = 8 * (a + 1) + 1 by omega, show 8 * a + 6 + 4 = 8 * (a + 1) + 2 by omega, bit_at l (a + 1) 0 (by decide), bit_at l (a + 1) 1 (by decide), bit_at l (a + 1) 2 (by decide)]; omega
  · rw [show 8 * a + 7 + 0 = 8 * a + 7 by omega, bit_at l a 7 (by decide), show 8 * a + 7 + 1 = 8 * (a + 1) + 0 by omega, show 8 * a + 7 + 2 = 8 * (a + 1) + 1 by omega, show 8 * a + 7 + 3 = 8 * (a + 1) + 2 by omega, show 8 * a + 7 + 4 = 8 * (a + 1) + 3 by omega, bit_at l (a + 1) 0 (by decide), bit_at l (a + 1) 1 (by decide), bit_at l (a + 1) 2 (by decide), bit_at l (a + 1) 3 (by decide)]; omega
theorem and31 (n : Nat) : n &&& 31 = n % 32 := Nat.and_two_pow_sub_one_eq_mod n 5
theorem five_prog (x y b : Nat) (hx : x < 256) (hb : b < 8) : (x / 2 ^ b ||| y * 2 ^ (8 - b)) &&& 31 = (x + 256 * y) / 2 ^ b % 32 := by
  have h : x / 2 ^ b < 2 ^ (8 - b) := by
    rw [Nat.div_lt_iff_lt_mul (Nat.two_pow_pos b), ← Nat.pow_add, Nat.sub_add_cancel (Nat.le_of_lt hb)]; exact hx
  rw [and31, Nat.or_comm, Nat.mul_comm y, ← Nat.two_pow_add_eq_or_of_lt h]
  congr 1
  have e : 256 * y = 2 ^ b * (2 ^ (8 - b) * y) := by
    rw [← Nat.mul_assoc, ← Nat.pow_add, Nat.add_sub_cancel' (Nat.le_of_lt hb)]
  rw [e, Nat.add_mul_div_left _ _ (Nat.two_pow_pos b), Nat.add_comm]
theorem five_prog0 (x b : Nat) (hx : x < 256) (hb : b < 8) : x / 2 ^ b &&& 31 = (x + 256 * 0) / 2 ^ b % 32 := by rw [and31]; rfl
/-- the digits that are there behind so many rounds -/
def b32To (l : List UInt8) (n : Nat) : Nat → List UInt8
  | 0 => List.replicate n 0
  | k + 1 => (b32To l n k).set (n - 1 - k) (d32.getD (five l k) 0)
theorem b32To_length (l : List UInt8) (n k : Nat) : (b32To l n k).length = n := by
  induction k with
  | zero => simp [b32To]
  | succ k ih => simp [b32To, ih]
def base32Of (l : List UInt8) : List UInt8 := b32To l ((8 * l.length + 4) / 5) ((8 * l.length + 4) / 5)
theorem base32Of_length (l : List UInt8) : (base32Of l).length = (8 * l.length + 4) / 5 := b32To_length _ _ _

/-! base 64 -/
abbrev d64 : List UInt8 := [65, 66, 67, 68, 69, 70, 71, 72, 73, 74, 75, 76, 77, 78, 79, 80, 81, 82, 83, 84, 85, 86, 87, 88, 89, 90, 97, 98, 99, 100, 101, 102, 103, 104, 105, 106, 107, 108, 109, 110, 111, 112, 113, 114, 115, 116, 117, 118, 119, 120, 121, 122, 48, 49, 50, 51, 52, 53, 54, 55, 56, 57, 43, 47]
/-- the number of three bytes; what is not there counts none -/
def three (t : List UInt8) : Nat := (t.getD 0 0).toNat * 65536 + (t.getD 1 0).toNat * 256 + (t.getD 2 0).toNat
def four (t : List UInt8) (n j : Nat) : UInt8 := if j > n then 61 else d64.getD (three t / 2 ^ (18 - 6 * j) % 64) 0
def encTo (t : List UInt8) (n : Nat) : Nat → List UInt8
  | 0 => []
  | j + 1 => encTo t n j ++ [four t n j]
def b64To (l : List UInt8) : Nat → List UInt8
  | 0 => []
  | i + 1 => b64To l i ++ encTo (l.drop (3 * i)) (min (l.length - 3 * i) 3) 4
def base64Of (l : List UInt8) : List UInt8 := b64To l ((l.length + 2) / 3)
theorem encTo_length (t : List UInt8) (n j : Nat) : (encTo t n j).length = j := by
  induction j with
  | zero => rfl
  | succ j ih => simp [encTo, ih]
theorem b64To_length (l : List UInt8) (i : Nat) : (b64To l i).length = 4 * i := by
  induction i with
  | zero => rfl
  | succ i ih => simp [b64To, ih, encTo_length]; omega
theorem base64Of_length (l : List UInt8) : (base64Of l).length = 4 * ((l.length + 2) / 3) := b64To_length _ _
theorem and63 (n : Nat) : n &&& 63 = n % 64 := Nat.and_two_pow_sub_one_eq_mod n 6
theorem three_or (a b c : Nat) (hb : b < 256) (hc : c < 256) : (a * 2 ^ 16 ||| b * 2 ^ 8) ||| c = a * 65536 + b * 256 + c := by
  have h1 : b * 2 ^ 8 < 2 ^ 16 := by omega
  rw [Nat.mul_comm a, ← Nat.two_pow_add_eq_or_of_lt h1]
  have h2 : 2 ^ 16 * a + b * 2 ^ 8 = 2 ^ 8 * (256 * a + b) := by omega
  rw [h2, ← Nat.two_pow_add_eq_or_of_lt (i := 8) hc]

/-! sums as texts -/
abbrev sha1 : List UInt8 := [115, 104, 97, 50, 53, 54, 58]
abbrev sha2 : List UInt8 := [115, 104, 97, 50, 53, 54, 45]
def showOf (l : List UInt8) (form : Int) : List UInt8 := if form = 0 then sha1 ++ hexOf l else if form = 1 then sha1 ++ base32Of l else if form = 2 then sha2 ++ base64Of l else []
end Go.Proofs.Ytdmagjelmhcemaa
