/- Keyed sums, plainly. Nothing of a program. -/
import Derived.Test.YtdmagjelmhcemaaDoorSum
namespace Go.Proofs.YtdmagjelmhcemaaDoor
open Go.RowKit
set_option linter.unusedVariables false
set_option linter.unusedSimpArgs false

/-- a key in its block -/
def kpad (k : List UInt8) : List UInt8 := if 64 < k.length then sha tK tH k ++ List.replicate 32 0 else k ++ List.replicate (64 - k.length) 0
theorem kpad_length (k : List UInt8) : (kpad k).length = 64 := by
  unfold kpad; split <;> simp [sha_length]; omega
def keyed (k : List UInt8) (x : UInt8) : List UInt8 := (kpad k).map (· ^^^ x)
theorem keyed_length (k : List UInt8) (x : UInt8) : (keyed k x).length = 64 := by rw [keyed, List.length_map, kpad_length]
def hmac (k d : List UInt8) : List UInt8 := sha tK tH (keyed k 92 ++ sha tK tH (keyed k 54 ++ d))
theorem hmac_length (k d : List UInt8) : (hmac k d).length = 32 := sha_length _ _ _
theorem copy_in (xs : List UInt8) (h : xs.length ≤ 64) : ((vbs (List.replicate 64 0)).toList.take 0 ++ xs.map vb ++ (vbs (List.replicate 64 0)).toList.drop (0 + (xs.map vb).length)).toArray = vbs (xs ++ List.replicate (64 - xs.length) 0) := by
  apply Array.ext'
  rw [List.length_map]
  simp only [vbs, List.take_zero, List.nil_append, Nat.zero_add, ← List.map_drop, ← List.map_append, List.drop_replicate]
theorem copy_long {k : List UInt8} (h : 64 < k.length) : ((vbs (List.replicate 64 0)).toList.take 0 ++ (sha tK tH k).map vb ++ (vbs (List.replicate 64 0)).toList.drop (0 + ((sha tK tH k).map vb).length)).toArray = vbs (kpad k) := by
  rw [copy_in _ (by rw [sha_length]; decide), kpad, if_pos h, sha_length]
theorem copy_short {k : List UInt8} (h : ¬ 64 < k.length) : ((vbs (List.replicate 64 0)).toList.take 0 ++ k.map vb ++ (vbs (List.replicate 64 0)).toList.drop (0 + (k.map vb).length)).toArray = vbs (kpad k) := by
  rw [copy_in _ (by omega), kpad, if_neg h]
theorem Hp.ne {w0 : World} {M : List Nat} {hs : List HB} {w : World} (h : Hp w0 M hs w) {i j : Nat} (hij : i ≠ j) {x y : HB} (hi : hs[i]? = some x) (hj : hs[j]? = some y) {a b : Nat} (ha : x.g = some a) (hb : y.g = some b) : a ≠ b := by
  have hd := h.dis
  rw [List.pairwise_iff_getElem] at hd
  obtain ⟨h1, h1'⟩ := List.getElem?_eq_some_iff.1 hi
  obtain ⟨h2, h2'⟩ := List.getElem?_eq_some_iff.1 hj
  intro e
  rcases Nat.lt_or_gt_of_ne hij with hlt | hlt
  · exact hd i j h1 h2 hlt a (by rw [h1']; exact ha) (by rw [h2', e]; exact hb)
  · exact hd j i h2 h1 hlt b (by rw [h2']; exact hb) (by rw [h1', ← e]; exact ha)
theorem Sk.own {w0 : World} {M : List Nat} {hs : List HB} {w : World} (h : Hp w0 M hs w) (i j : Nat) (hij : i ≠ j) {x y : HB} (hi : hs[i]? = some x) (hj : hs[j]? = some y) {b g : Nat} {o : Nat} (hb : x.g = some b) (hg : y.g = some g) {xs : List Value} (hx : ∀ k v, xs[k]? = some v → x.cs[o + k]? = some v) : Sk w [g] (some ⟨b, o, none⟩) xs :=
  Sk.of (Sl.own h i hi hb hx) (fun a ha => by obtain rfl := Option.some.inj ha; rw [List.mem_singleton]; exact h.ne hij hi hj hb hg)
theorem sha_more (m : List UInt8) : ([] : List UInt8) ++ m = m := rfl
/-- the two keyed heads of the document's form -/
theorem keyed_step (k : List UInt8) (x : UInt8) (i : Nat) (h : i < 64) : (keyed k x).take i ++ [(kpad k).getD i 0 ^^^ x] = (keyed k x).take (i + 1) := by
  have h1 : i < (keyed k x).length := by rw [keyed_length]; exact h
  have h2 : i < (kpad k).length := by rw [kpad_length]; exact h
  rw [List.take_succ_eq_append_getElem h1]
  simp [keyed, List.getD, h2]
theorem keyed_app (k : List UInt8) (x : UInt8) (i : Nat) (h : i < 64) : ((keyed k x).take i).map vb ++ [Value.int .u8 (((kpad k).getD i 0 ^^^ x).toNat : Int)] = ((keyed k x).take (i + 1)).map vb := by
  rw [← keyed_step k x i h, List.map_append]; rfl
def cpTo (xs : List UInt8) (i : Nat) : List UInt8 := xs.take i ++ List.replicate (64 - i) 0
theorem cpTo_length (xs : List UInt8) (i : Nat) (h : i ≤ xs.length) (h2 : i ≤ 64) : (cpTo xs i).length = 64 := by simp [cpTo]; omega
theorem cpTo_step (xs : List UInt8) (i : Nat) (h : i < xs.length) (h2 : i < 64) : (cpTo xs i).set i (xs.getD i 0) = cpTo xs (i + 1) := by
  rw [cpTo, set_app _ _ _ 0 _ (by simp; omega), cpTo, List.take_succ_eq_append_getElem h, show 64 - i = (64 - (i + 1)) + 1 by omega, List.replicate_succ, List.set_cons_zero, List.append_assoc]
  simp [List.getD, h]
theorem cpTo_long {k : List UInt8} (h : 64 < k.length) : cpTo (sha tK tH k) 32 = kpad k := by
  rw [cpTo, kpad, if_pos h, List.take_of_length_le (by rw [sha_length]; decide)]
theorem cpTo_short {k : List UInt8} (h : ¬ 64 < k.length) : cpTo k k.length = kpad k := by
  rw [cpTo, kpad, if_neg h, List.take_length]
theorem mac_step (K S : List UInt8) (i : Nat) (h : i < S.length) : (K ++ S.take i).map vb ++ [Value.int .u8 ((S.getD i 0).toNat : Int)] = (K ++ S.take (i + 1)).map vb := by
  rw [List.take_succ_eq_append_getElem h, ← List.append_assoc, List.map_append (l₂ := [S[i]])]
  simp [List.getD, h, vb]
end Go.Proofs.YtdmagjelmhcemaaDoor
