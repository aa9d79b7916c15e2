/- Lists that have no memory in common, plainly. Nothing of a program. -/
import Derived.Test.YtdmagjelmhcemaaTwo
namespace Go.Proofs.Ytdmagjelmhcemaa
open Go.RowKit
set_option linter.unusedVariables false
set_option linter.unusedSimpArgs false
theorem all_not {x : List UInt8} {b : UInt8} {k : Nat} (h : k < x.length) (hne : ¬ x.getD k 0 = b) : x.all (· == b) = false := by
  rw [List.all_eq_false]
  exact ⟨x[k], List.getElem_mem h, by simpa [List.getD, h] using hne⟩
theorem all_yes {x : List UInt8} {b : UInt8} (h : ∀ j, j < x.length → x.getD j 0 = b) : x.all (· == b) = true := by
  rw [List.all_eq_true]
  intro y hy
  obtain ⟨i, hi, rfl⟩ := List.getElem_of_mem hy
  have := h i hi
  simpa [List.getD, hi] using this
theorem two_sl {w0 w : World} {M : List Nat} {hs : List HB} (h : Hp w0 M hs w) {i j : Nat} {g' gx : Nat} {old : Option Nat} {x y : List UInt8} {r ro : List Value} {t t2 : TypeId} (hi : hs[i]? = some ⟨some g', ((x ++ y).map vb ++ r).toArray, t, (0, 0)⟩) (hj : hs[j]? = some ⟨old, (x.map vb ++ ro).toArray, t2, (0, 0)⟩) (hc : old = none ∧ g' = gx ∨ old = some gx) : Sl w (some ⟨gx, 0, none⟩) (x.map vb) := by
  rcases hc with ⟨_, rfl⟩ | rfl
  · exact Sl.own h i hi rfl (fun k v hv => by rw [List.map_append, List.append_assoc]; exact pre_get k v hv)
  · exact Sl.own h j hj rfl pre_get
theorem fill_step (x : List UInt8) (b : UInt8) (i : Nat) (h : i < x.length) : (List.replicate i b ++ x.drop i).set i b = List.replicate (i + 1) b ++ x.drop (i + 1) := by
  rw [List.set_append_right _ _ (by simp), List.length_replicate, Nat.sub_self, List.drop_eq_getElem_cons h, List.set_cons_zero, List.replicate_succ', List.append_assoc]; rfl
theorem fill_length (x : List UInt8) (b : UInt8) (i : Nat) (h : i ≤ x.length) : (List.replicate i b ++ x.drop i).length = x.length := by simp; omega
theorem rep_app (x : List UInt8) (b : UInt8) (i : Nat) : (x ++ List.replicate i b).map vb ++ [vb b] = (x ++ List.replicate (i + 1) b).map vb := by
  rw [List.replicate_succ', ← List.append_assoc, List.map_append (l₂ := [b])]; rfl
theorem two_next {old y1 : Option Nat} {g' gy gx : Nat} (hq : old = none) (hold : old = none ∧ g' = gx ∨ old = some gx) (h : y1 = none ∧ gy = g' ∨ y1 = some g') : y1 = none ∧ gy = gx ∨ y1 = some gx := by
  subst hq
  rcases hold with ⟨_, rfl⟩ | h'
  · exact h
  · cases h'
theorem two_stay {old : Option Nat} {g' g2 q gx : Nat} (hq : old = some q) (hold : old = none ∧ g' = gx ∨ old = some gx) : some q = none ∧ g2 = gx ∨ some q = some gx := by
  subst hq
  rcases hold with ⟨h, _⟩ | h'
  · cases h
  · exact .inr h'
theorem row_some {o : Option Nat} {n c : Nat} {xs r : List Value} (h : RowOk 1 o n c xs r) (h0 : 0 < n) : ∃ q, o = some q := by
  cases o with
  | none => have h1 := h.nil rfl; have h2 := h.le; omega
  | some q => exact ⟨q, rfl⟩
theorem two_old (x : List UInt8) (b : UInt8) (i : Nat) (r : List Value) : (x ++ List.replicate i b).map vb ++ r = x.map vb ++ ((List.replicate i b).map vb ++ r) := by rw [List.map_append, List.append_assoc]
theorem rep_all (n : Nat) (b : UInt8) : (List.replicate n b).all (· == b) = true := by simp
/-- the same world, seen from now on; the blocks are the caller's -/
theorem Hp.seen {w0 : World} {M : List Nat} {H hs : List HB} {w : World} (h : Hp w0 M hs w) {is : List Nat} (hn : is.Nodup) (ha : At is H hs) {L : List Nat} (hL : ∀ x ∈ H, ∀ g, x.g = some g → g ∈ L) : Hp w L H w :=
  have k := h.pick hn ha
  ⟨rfl, rfl, rfl, Nat.le_refl _, fun _ _ _ => rfl, k.own, fun x hx g hg => .inr (hL x hx g hg), k.dis⟩
theorem RowOk.re {o : Option Nat} {n c : Nat} {xs ys r : List Value} (h : RowOk 1 o n c xs r) (hl : ys.length = xs.length) : RowOk 1 o n c ys r := ⟨hl.trans h.len, by rw [hl]; exact h.room, h.le, h.max, h.nil⟩
theorem fill_done (x : List UInt8) (b : UInt8) : List.replicate x.length b ++ x.drop x.length = List.replicate x.length b := by simp
theorem grow_head {w : World} {p : Option Addr} {x y : List UInt8} (h : Sl w p ((x ++ y).map vb)) : Sl w p (x.map vb) := by
  have := h.take x.length
  rwa [← List.map_take, List.take_left] at this
theorem grow_tail {w : World} {p : Option Addr} {x y : List UInt8} {c n : Nat} (h : Sl w p ((x ++ y).map vb)) (hn : x.length = n) (hc : n + y.length ≤ c) : Sl w (cut p c n 1) (y.map vb) := by
  subst hn
  have := h.drop c x.length 1 (by rw [List.length_map, List.length_append]; omega)
  rwa [Nat.mul_one, ← List.map_drop, List.drop_left] at this
end Go.Proofs.Ytdmagjelmhcemaa
