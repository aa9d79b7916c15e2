/- A label that is handed in, opened. Nothing of a program. -/
import Derived.Test.YtoegpjcekdafoaaRow
import Derived.Test.YtoegpjcekdafoaaLabel
import Derived.ChangeMaps5
namespace Go.Proofs.Ytoegpjcekdafoaa
open Go.RowKit Go.ChangeShapes Go.WideShapes
set_option linter.unusedVariables false
set_option linter.unusedSimpArgs false
section
variable {H : Type} {enc : TypeId × Value → H} {P : Program}
theorem bytes_arr_cs {base : Nat} {w : World} {spare : Nat → Bool} {held : Bool} {t e n fuel : Nat} {cs : List Value} {d : DataW H × List MemPlace} (ht : P.underlying t = some (.array n e)) (he : P.underlying e = some (.int .u8)) (hce : P.cellsOf e = 1) (hct : P.cellsOf t = n)
    (hf : DataW.trod enc P w base spare held fuel t cs = some d) : ∃ x : List UInt8, x.length = n ∧ cs = x.map vb := by
  obtain ⟨xs, m, _, _, hlen, hxs, hi⟩ := DataW.trod_array ht hf
  rw [hct] at hlen
  obtain ⟨x, hx, hcs⟩ := bytes_of_ints cs (fun i hi' => by
    have h1 := hi i (by rw [← hlen]; exact hi')
    rw [hce, Nat.mul_one] at h1
    have h2 : (cs.drop i).take 1 = [cs[i]] := by
      rw [List.drop_eq_getElem_cons hi']; rfl
    rw [h2] at h1
    obtain ⟨y, hy⟩ : ∃ y, xs[i]? = some y := ⟨xs[i]'(by omega), List.getElem?_eq_getElem (by omega)⟩
    rw [hy] at h1
    obtain ⟨k, hk, _, hw⟩ := DataW.trod_int he h1
    exact ⟨k, by rw [List.getElem?_eq_getElem hi']; simpa using hk, hw⟩)
  exact ⟨x, by omega, hcs⟩
theorem lab_cs {base : Nat} {w : World} {spare : Nat → Bool} {held : Bool} {t th ts e fuel : Nat} {f0 f1 : Field} {cs : List Value} {d : DataW H × List MemPlace} (ht : P.underlying t = some (.struct #[f0, f1])) (o0 : f0.offset = 0) (t0 : f0.type = th) (o1 : f1.offset = 20) (t1 : f1.type = ts)
    (hh : P.underlying th = some (.array 20 e)) (he : P.underlying e = some (.int .u8)) (hst : P.underlying ts = some .string) (cl : P.cellsOf t = 21) (ch : P.cellsOf th = 20) (ce : P.cellsOf e = 1) (cst : P.cellsOf ts = 1)
    (hf : DataW.trod enc P w base spare held fuel t cs = some d) : ∃ x nx : List UInt8, x.length = 20 ∧ cs = x.map vb ++ [Value.string (bs nx)] := by
  subst t0; subst t1
  obtain ⟨xs, n, _, _, hl, hxl, hi⟩ := DataW.trod_struct ht hf
  have h0 := hi 0 f0 rfl
  have h1 := hi 1 f1 rfl
  obtain ⟨y0, hy0⟩ : ∃ y, xs[0]? = some y := ⟨xs[0]'(by rw [hxl]; exact Nat.succ_pos 1), List.getElem?_eq_getElem _⟩
  obtain ⟨y1, hy1⟩ : ∃ y, xs[1]? = some y := ⟨xs[1]'(by rw [hxl]; exact Nat.lt_succ_self 1), List.getElem?_eq_getElem _⟩
  rw [hy0, o0, ch, List.drop_zero] at h0
  rw [hy1, o1, cst] at h1
  obtain ⟨x, hx, hcx⟩ := bytes_arr_cs hh he ce ch h0
  obtain ⟨s, hs, _, _⟩ := DataW.trod_string hst h1
  refine ⟨x, s.data.toList, hx, ?_⟩
  have e1 : (cs.drop 20).take 1 = cs.drop 20 := List.take_of_length_le (by rw [List.length_drop, hl, cl]; exact Nat.le_refl _)
  rw [e1] at hs
  rw [← hcx, show Value.string (bs s.data.toList) = Value.string s from rfl, ← hs, List.take_append_drop]
theorem open_lab {r : Reach} {b0 base : Nat} {w : World} {spare : Nat → Bool} {held : Bool} {t e : Nat} {f0 f1 : Field} {v : Value} {d : DataW H} {ps : List MemPlace} (ht : P.underlying t = some (.struct #[f0, f1])) (o0 : f0.offset = 0) (o1 : f1.offset = 20)
    (hh : P.underlying f0.type = some (.array 20 e)) (he : P.underlying e = some (.int .u8)) (hst : P.underlying f1.type = some .string) (cl : P.cellsOf t = 21) (ch : P.cellsOf f0.type = 20) (ce : P.cellsOf e = 1) (cst : P.cellsOf f1.type = 1)
    (hval : Value.okWide P w r b0 t v) (hd : DataW.Trod enc P w base spare held t v d ps) : ∃ x nx : List UInt8, x.length = 20 ∧ v = .agg (lab x nx) := by
  obtain ⟨cs, rfl, _⟩ := okWide_struct ht hval
  obtain ⟨fuel, hf⟩ := hd
  obtain ⟨x, nx, hx, hcs⟩ := lab_cs ht o0 rfl o1 rfl hh he hst cl ch ce cst hf
  refine ⟨x, nx, hx, ?_⟩
  congr 1
  apply Array.ext'
  rw [show cs.toList = _ from hcs]; rfl
end
end Go.Proofs.Ytoegpjcekdafoaa
