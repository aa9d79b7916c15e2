/- Base 32 is a number: the first byte one more is the last digit one more. Nothing of a program. -/
import Derived.Test.YtdmagjelmhcemaaApart
import Derived.Test.YtdmagjelmhcemaaD
namespace Go.Proofs.Ytdmagjelmhcemaa
open Go.RowKit
set_option linter.unusedVariables false
set_option linter.unusedSimpArgs false
def moreOf (x : List UInt8) : List UInt8 := x.set 0 (UInt8.ofNat ((x.getD 0 0).toNat + 1))
theorem moreOf_length (x : List UInt8) : (moreOf x).length = x.length := by simp [moreOf]
theorem more_set (x : List UInt8) (r : List Value) (h0 : 0 < x.length) (h : (x.getD 0 0).toNat + 1 < 256) : (vrow x r).setIfInBounds 0 (.int .u8 (((x.getD 0 0).toNat + 1 : Nat) : Int)) = vrow (moreOf x) r := by
  have e : (UInt8.ofNat ((x.getD 0 0).toNat + 1)).toNat = (x.getD 0 0).toNat + 1 := by rw [UInt8.toNat_ofNat', Nat.mod_eq_of_lt (by simpa using h)]
  have k := vrow_set x r 0 (UInt8.ofNat ((x.getD 0 0).toNat + 1)) h0
  rw [e] at k
  exact k
theorem small31 {n : Nat} (h : n < 256) (h2 : ¬ n &&& 31 = 31) : n + 1 < 256 := by rw [and31] at h2; omega
theorem num_more {x : List UInt8} (h0 : 0 < x.length) (h : (x.getD 0 0).toNat + 1 < 256) : num (moreOf x) = num x + 1 ∧ num x % 256 = (x.getD 0 0).toNat ∧ ((moreOf x).getD 0 0).toNat = (x.getD 0 0).toNat + 1 := by
  cases x with
  | nil => simp at h0
  | cons b l =>
    simp only [List.getD_cons_zero] at h
    have e : (UInt8.ofNat (b.toNat + 1)).toNat = b.toNat + 1 := by rw [UInt8.toNat_ofNat', Nat.mod_eq_of_lt (by simpa using h)]
    have := b.toNat_lt
    refine ⟨?_, ?_, ?_⟩
    · simp only [moreOf, List.getD_cons_zero, List.set_cons_zero, num, e]; omega
    · simp only [num, List.getD_cons_zero]; omega
    · simp only [moreOf, List.getD_cons_zero, List.set_cons_zero, e]
theorem five_zero {x : List UInt8} (h0 : 0 < x.length) : five x 0 = (x.getD 0 0).toNat % 32 := by
  cases x with
  | nil => simp at h0
  | cons b l =>
    rw [five_num, Nat.pow_zero, Nat.div_one, num, List.getD_cons_zero]; omega
theorem five_more {x : List UInt8} (h0 : 0 < x.length) (h : (x.getD 0 0).toNat + 1 < 256) (h31 : ¬ (x.getD 0 0).toNat % 32 = 31) (k : Nat) : five (moreOf x) (k + 1) = five x (k + 1) := by
  obtain ⟨h1, h2, _⟩ := num_more h0 h
  rw [five_num, five_num, h1, Nat.pow_succ, Nat.mul_comm, ← Nat.div_div_eq_div_mul, ← Nat.div_div_eq_div_mul, show (num x + 1) / 32 = num x / 32 by omega]
theorem base32_lastdig {x : List UInt8} (h0 : 0 < x.length) {n : Nat} (hn : x.length = n) : (base32Of x).getD ((8 * n + 4) / 5 - 1) 0 = d32.getD ((x.getD 0 0).toNat &&& 31) 0 := by
  have h := base32_at x 0 (by rw [base32Of_length]; omega)
  rw [Nat.sub_zero, base32Of_length, five_zero h0, hn] at h
  rw [h, and31]
theorem base32_init {x : List UInt8} (h0 : 0 < x.length) (h : (x.getD 0 0).toNat + 1 < 256) (h31 : ¬ (x.getD 0 0).toNat &&& 31 = 31) (m : Nat) (hm : m = (8 * x.length + 4) / 5 - 1) : (base32Of (moreOf x)).take m = (base32Of x).take m := by
  have e1 : (base32Of (moreOf x)).length = (8 * x.length + 4) / 5 := by rw [base32Of_length, moreOf_length]
  have e2 : (base32Of x).length = (8 * x.length + 4) / 5 := base32Of_length x
  rw [and31] at h31
  apply List.ext_getElem (by simp [e1, e2])
  intro j hj1 hj2
  rw [List.length_take] at hj1
  have key : (base32Of (moreOf x)).getD j 0 = (base32Of x).getD j 0 := by
    have h1 := base32_at (moreOf x) ((8 * x.length + 4) / 5 - 1 - j) (by omega)
    have h2 := base32_at x ((8 * x.length + 4) / 5 - 1 - j) (by omega)
    rw [e1, show (8 * x.length + 4) / 5 - 1 - ((8 * x.length + 4) / 5 - 1 - j) = j by omega, show (8 * x.length + 4) / 5 - 1 - j = ((8 * x.length + 4) / 5 - 2 - j) + 1 by omega] at h1
    rw [e2, show (8 * x.length + 4) / 5 - 1 - ((8 * x.length + 4) / 5 - 1 - j) = j by omega, show (8 * x.length + 4) / 5 - 1 - j = ((8 * x.length + 4) / 5 - 2 - j) + 1 by omega] at h2
    rw [h1, h2, five_more h0 h h31]
  rw [List.getElem_take, List.getElem_take]
  rw [List.getD_eq_getElem?_getD, List.getD_eq_getElem?_getD, List.getElem?_eq_getElem (by omega), List.getElem?_eq_getElem (by omega)] at key
  exact key
theorem of3 {a b c : HB} {x y z : Nat} (hx : c.g = some x) (hy : b.g = some y) (hz : a.g = some z) : ∀ g ∈ [x, y, z], ∃ v ∈ [a, b, c], v.g = some g := by
  intro g hg
  simp only [List.mem_cons, List.not_mem_nil, or_false] at hg
  rcases hg with rfl | rfl | rfl
  · exact ⟨c, by simp, hx⟩
  · exact ⟨b, by simp, hy⟩
  · exact ⟨a, by simp, hz⟩
theorem in3 {a b c : HB} {x y z : Nat} (hx : a.g = some x) (hy : b.g = some y) (hz : c.g = some z) : ∀ v ∈ [a, b, c], ∀ g, v.g = some g → g ∈ [x, y, z] := by
  intro v hv g hg
  simp only [List.mem_cons, List.not_mem_nil, or_false] at hv ⊢
  rcases hv with rfl | rfl | rfl
  · exact .inl (Option.some.inj (hg.symm.trans hx))
  · exact .inr (.inl (Option.some.inj (hg.symm.trans hy)))
  · exact .inr (.inr (Option.some.inj (hg.symm.trans hz)))
theorem hl_pick {P : Program} {n : Nat} {w0 : World} {M : List Nat} {Q : Exit → Act → World → Prop} {l : List (Nat × Value)} {hs H : List HB} {c : Code} (is : List Nat) (hn : is.Nodup) (h2 : At is H hs) (h : HL P n w0 M Q c l H) : HL P n w0 M Q c l hs := fun a w ha hw => h a w ha (hw.pick hn h2)
end Go.Proofs.Ytdmagjelmhcemaa
