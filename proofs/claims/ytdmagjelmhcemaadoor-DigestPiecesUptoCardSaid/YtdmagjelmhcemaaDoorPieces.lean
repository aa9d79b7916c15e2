/- A message in pieces. Nothing of a program. -/
import Derived.Test.YtdmagjelmhcemaaDoorOpen
import Derived.Test.YtdmagjelmhcemaaDoorMac
namespace Go.Proofs.YtdmagjelmhcemaaDoor
open Go.RowKit
set_option linter.unusedVariables false
set_option linter.unusedSimpArgs false
/-- the bytes of the first so many pieces -/
def allTo (ps : List (Lst UInt8)) (i : Nat) : List UInt8 := (ps.take i).flatMap (·.xs)
theorem allTo_step {ps : List (Lst UInt8)} {i : Nat} {x : Lst UInt8} (h : ps[i]? = some x) : allTo ps (i + 1) = allTo ps i ++ x.xs := by
  obtain ⟨hi, rfl⟩ := List.getElem?_eq_some_iff.1 h
  rw [allTo, List.take_succ_eq_append_getElem hi, List.flatMap_append]
  simp [allTo]
def pieceBulk (ps : List (Lst UInt8)) : Nat := sumBulk (fun a : Lst UInt8 => a.xs.length + 1) ps
theorem allTo_le (ps : List (Lst UInt8)) : ∀ i, (allTo ps i).length ≤ pieceBulk ps := by
  intro i
  unfold allTo pieceBulk sumBulk
  induction ps generalizing i with
  | nil => simp
  | cons x ps ih =>
    cases i with
    | zero => simp
    | succ i =>
      have := ih i
      simp only [List.take_succ_cons, List.flatMap_cons, List.length_append, List.map_cons, List.sum_cons]; omega
theorem pieces_le (ps : List (Lst UInt8)) : ps.length ≤ pieceBulk ps := by
  unfold pieceBulk sumBulk
  induction ps with
  | nil => simp
  | cons x ps ih => simp only [List.length_cons, List.map_cons, List.sum_cons]; omega
theorem Sk.ownRow {w0 : World} {M : List Nat} {hs : List HB} {w : World} (h : Hp w0 M hs w) (i j : Nat) (hij : i ≠ j) {o : Option Nat} {xs rest : List Value} {t : TypeId} {fr : Nat × Nat} {y : HB} (hi : hs[i]? = some ⟨o, (xs ++ rest).toArray, t, fr⟩) (hj : hs[j]? = some y) {g : Nat} (hg : y.g = some g) (ho : o = none → xs = []) : Sk w [g] (rowp o) xs := by
  cases o with
  | none => rw [ho rfl]; exact fun _ w' _ => Sl.nil w' _
  | some b => exact Sk.own h i j hij hi hj rfl hg pre_get
end Go.Proofs.YtdmagjelmhcemaaDoor
