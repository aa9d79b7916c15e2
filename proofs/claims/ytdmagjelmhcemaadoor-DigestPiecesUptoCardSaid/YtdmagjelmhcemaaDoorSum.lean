/- The last blocks of a message, as a hasher's Sum makes them. Nothing of a program. -/
import Derived.Test.YtdmagjelmhcemaaDoorHash
namespace Go.Proofs.YtdmagjelmhcemaaDoor
open Go.RowKit
set_option linter.unusedVariables false
set_option linter.unusedSimpArgs false

theorem Sl.heap {w : World} {g : Nat} {cs : Array Value} {t : TypeId} {fr : Nat × Nat} (h : w.heap[g]? = some (.cells cs t fr)) {o : Nat} {xs : List Value} (hx : ∀ j v, xs[j]? = some v → cs[o + j]? = some v) : Sl w (some ⟨g, o, none⟩) xs := fun j v hv =>
  ⟨⟨g, o, none⟩, rfl, by rw [add_plain', cell_of_row w g (o + j) cs t fr h]; exact hx j v hv⟩
theorem vbs_part {B : List UInt8} {a n : Nat} : ∀ j v, (((B.drop a).take n).map vb)[j]? = some v → (vbs B)[0 + a + j]? = some v := fun j v h => by
  have h1 : j < n ∧ (B.drop a)[j]?.map vb = some v := by
    rw [List.getElem?_map, List.getElem?_take] at h
    split at h
    · exact ⟨by assumption, h⟩
    · cases h
  rw [List.getElem?_drop] at h1
  simpa [vbs] using h1.2

/-- the bytes of a number set into a list, from its end down -/
def setBe (L : List UInt8) (n E : Nat) : Nat → List UInt8
  | 0 => L
  | i + 1 => (setBe L n E i).set (E - 1 - i) (UInt8.ofNat (n / 2 ^ (8 * i)))
theorem setBe_length (L : List UInt8) (n E i : Nat) : (setBe L n E i).length = L.length := by
  induction i with
  | zero => rfl
  | succ i ih => simp [setBe, ih]
theorem set_app (X Y : List UInt8) (j k : Nat) (v : UInt8) (h : j = X.length + k) : (X ++ Y).set j v = X ++ Y.set k v := by
  subst h; rw [List.set_append_right _ _ (by omega)]; simp
theorem setBe_eight (X Z : List UInt8) (n E : Nat) (h : E = X.length + 8) : setBe (X ++ ([0, 0, 0, 0, 0, 0, 0, 0] ++ Z)) n E 8 = X ++ (be64 n ++ Z) := by
  simp only [setBe]
  rw [set_app _ _ _ 7 _ (by omega), set_app _ _ _ 6 _ (by omega), set_app _ _ _ 5 _ (by omega), set_app _ _ _ 4 _ (by omega), set_app _ _ _ 3 _ (by omega), set_app _ _ _ 2 _ (by omega), set_app _ _ _ 1 _ (by omega), set_app _ _ _ 0 _ (by omega)]
  rfl
/-- the rest, the mark, and zeros up to 128 -/
def lastOf (R : List UInt8) (r : Nat) : List UInt8 := R.take r ++ [0x80] ++ List.replicate (127 - r) 0
theorem lastOf_length {R : List UInt8} {r : Nat} (hR : R.length = 64) (hr : r < 64) : (lastOf R r).length = 128 := by simp [lastOf, hR]; omega
theorem copy_last {R : List UInt8} {r : Nat} (hR : R.length = 64) (hr : r < 64) :
    ((vbs (List.replicate 128 0)).toList.take 0 ++ (R.take r).map vb ++ (vbs (List.replicate 128 0)).toList.drop (0 + ((R.take r).map vb).length)).toArray = vbs (R.take r ++ List.replicate (128 - r) 0) := by
  have e : ((R.take r).map vb).length = r := by simp [hR]; omega
  apply Array.ext'
  rw [e]
  simp only [vbs, List.take_zero, List.nil_append, Nat.zero_add, ← List.map_drop, ← List.map_append, List.drop_replicate]
theorem mark_last {R : List UInt8} {r : Nat} (hR : R.length = 64) (hr : r < 64) : (R.take r ++ List.replicate (128 - r) 0).set r 0x80 = lastOf R r := by
  rw [set_app _ _ _ 0 _ (by simp [hR]; omega), lastOf, show 128 - r = (127 - r) + 1 by omega, List.replicate_succ, List.set_cons_zero, List.append_assoc]; rfl
theorem mark_vbs {R : List UInt8} {r : Nat} (hR : R.length = 64) (hr : r < 64) : (vbs (R.take r ++ List.replicate (128 - r) 0)).setIfInBounds r (.int .u8 128) = vbs (lastOf R r) := by
  rw [← mark_last hR hr]; exact vbs_set _ _ 0x80
theorem last_done {m : List UInt8} {S : List UInt32} {R : List UInt8} {E : Nat} (h : HSt m S R) (hE : m.length % 64 < 56 ∧ E = 64 ∨ 56 ≤ m.length % 64 ∧ E = 128) :
    (setBe (lastOf R (m.length % 64)) (m.length * 8) E 8).take E = (padm m).drop (64 * (m.length / 64)) := by
  have hr := Nat.mod_lt m.length (show 0 < 64 by decide)
  have hl : (R.take (m.length % 64)).length = m.length % 64 := by rw [List.length_take, h.r]; omega
  have e1 : lastOf R (m.length % 64) = (R.take (m.length % 64) ++ [0x80] ++ List.replicate (E - 9 - m.length % 64) 0) ++ ([0, 0, 0, 0, 0, 0, 0, 0] ++ List.replicate (128 - E) 0) := by
    rw [lastOf, show ([0, 0, 0, 0, 0, 0, 0, 0] : List UInt8) = List.replicate 8 0 from rfl, List.replicate_append_replicate, List.append_assoc _ _ (List.replicate (8 + (128 - E)) 0), List.replicate_append_replicate]
    congr 2
    omega
  have hX : E = (R.take (m.length % 64) ++ [0x80] ++ List.replicate (E - 9 - m.length % 64) 0).length + 8 := by
    simp only [List.length_append, hl, List.length_cons, List.length_nil, List.length_replicate]; omega
  rw [e1, setBe_eight _ _ _ _ hX, ← List.append_assoc, List.take_append_of_le_length (by rw [List.length_append, be64_length]; omega), List.take_of_length_le (by rw [List.length_append, be64_length]; omega)]
  have e2 : (119 - m.length % 64) % 64 = E - 9 - m.length % 64 := by omega
  rw [padm, e2, h.t]
  simp only [List.append_assoc]
  rw [List.drop_append_of_le_length (by omega)]
theorem last_step {m : List UInt8} {S : List UInt32} {R : List UInt8} {E k : Nat} (h : HSt m S R) (hE : m.length % 64 < 56 ∧ E = 64 ∨ 56 ≤ m.length % 64 ∧ E = 128) (hk : 64 * k + 64 ≤ E) :
    compress tK (blocksTo tK tH (padm m) (m.length / 64 + k)) (((setBe (lastOf R (m.length % 64)) (m.length * 8) E 8).drop (64 * k)).take 64) = blocksTo tK tH (padm m) (m.length / 64 + (k + 1)) := by
  rw [← Nat.add_assoc, blocksTo, Nat.mul_add, ← List.drop_drop, ← last_done h hE, List.drop_take, List.take_take, Nat.min_eq_left (by omega)]
theorem last_blocks {m : List UInt8} {E : Nat} (hE : m.length % 64 < 56 ∧ E = 64 ∨ 56 ≤ m.length % 64 ∧ E = 128) : (padm m).length / 64 = m.length / 64 + E / 64 := by
  rw [padm_length]
  rcases hE with ⟨h1, rfl⟩ | ⟨h1, rfl⟩
  · rw [if_pos h1]; omega
  · rw [if_neg (by omega)]; omega
theorem last_start {m : List UInt8} {S : List UInt32} {R : List UInt8} (h : HSt m S R) : S = blocksTo tK tH (padm m) (m.length / 64 + 0) := by
  rw [padm]; simp only [List.append_assoc]; rw [blocksTo_app _ _ _ _ _ (by omega)]; exact h.s
theorem last_sha {m : List UInt8} {E k : Nat} (hE : m.length % 64 < 56 ∧ E = 64 ∨ 56 ≤ m.length % 64 ∧ E = 128) (hk : 64 * k = E) : outTo (blocksTo tK tH (padm m) (m.length / 64 + k)) 32 = sha tK tH m := by
  rw [sha, last_blocks hE, show E / 64 = k by omega]
/-! a key, turned byte by byte -/
theorem turnedTo_length (k : List UInt8) (x : UInt8) (i : Nat) : ((k.take i).map (· ^^^ x) ++ k.drop i).length = k.length := by simp; omega
theorem turnedTo_get (k : List UInt8) (x : UInt8) (i : Nat) (h : i < k.length) : ((k.take i).map (· ^^^ x) ++ k.drop i).getD i 0 = k[i] := by
  have hl : ((k.take i).map (· ^^^ x)).length = i := by simp; omega
  rw [List.getD, List.getElem?_append_right (by omega), hl, Nat.sub_self, List.getElem?_drop]
  simp [h]
theorem turnedTo_step (k : List UInt8) (x : UInt8) (i : Nat) (h : i < k.length) : ((k.take i).map (· ^^^ x) ++ k.drop i).set i (((k.take i).map (· ^^^ x) ++ k.drop i).getD i 0 ^^^ x) = (k.take (i + 1)).map (· ^^^ x) ++ k.drop (i + 1) := by
  have hl : ((k.take i).map (· ^^^ x)).length = i := by simp; omega
  rw [turnedTo_get k x i h, set_app _ _ _ 0 _ (by rw [hl]; rfl), List.drop_eq_getElem_cons h, List.set_cons_zero, List.take_succ_eq_append_getElem h, List.map_append, List.append_assoc]
  rfl
theorem turnedTo_done (k : List UInt8) (x : UInt8) (h : k.length = 64) : (k.take 64).map (· ^^^ x) ++ k.drop 64 = k.map (· ^^^ x) := by
  rw [List.take_of_length_le (by omega), List.drop_of_length_le (by omega), List.append_nil]
end Go.Proofs.YtdmagjelmhcemaaDoor
