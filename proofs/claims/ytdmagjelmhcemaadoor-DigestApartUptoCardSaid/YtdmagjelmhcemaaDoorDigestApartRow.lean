/- PROVED: DigestApart, for arguments of bulk at most 1048576, with the two tables as the program's text lays them: the law returns true, and what was handed in reads behind the call as before. No other condition. -/
import Derived.Test.YtdmagjelmhcemaaDoorCards
import Derived.Test.YtdmagjelmhcemaaDoorTie
import Derived.Test.YtdmagjelmhcemaaDoorTabsOf
import Derived.Test.YtdmagjelmhcemaaDoorRow
import Derived.WalkKit
import Derived.ProofKit
import Derived.OpenShut
import Derived.Deep.DeepHandedRow
import Derived.Lib.LaidTab
import Derived.KernelRfl
import Derived.Test.YtdmagjelmhcemaaDoorBulk
import Derived.Test.YtdmagjelmhcemaaDoorApartWalk
namespace Go.Proofs.YtdmagjelmhcemaaDoor
open Go.ChangeShapes Go.WideShapes Go.ChangeAt Go.RowKit
set_option linter.unusedVariables false
set_option linter.unusedSimpArgs false


theorem digestApart_contract (H : Type) (enc : TypeId × Value → H) (W : World) (base : Nat) (args : Array Value) (ds gs : List (DataW H)) (before : List MemPlace)
    (hval0 : ∀ (j : Nat) t v, Tryd.f7.params[j]? = some t → args[j]? = some v → Value.okWide Tryd.prog W .any base t v)
    (hW : DataW.Whole enc Tryd.prog Tryd.f7.params.toList Rows.digestApartSpec.vars false W args.toList ds gs before) (hk0 : Rows.uptoSmall H (ds ++ gs) = true) (hL : laidMetH Tryd.prog Rows.digestApartUptoRow.laid W) :
    Calls Tryd.prog 7 args W fun e W' => ∃ v, e = .returned v ∧ Rows.digestApartSpec.post enc Tryd.prog Tryd.f7 false true false false W args v W' := by
  have hval : ∀ (j : Nat) t v, Tryd.f7.params[j]? = some t → args[j]? = some v → Value.okWide Tryd.prog W .any base t v := hval0
  have hsmall := hk0
  have hW' := hW
  obtain ⟨p, q, hA0, hV, rfl, hfz, hnd⟩ := hW
  have hA : DataW.TrodAll enc Tryd.prog W 0 (fun _ => true) true Tryd.f7.params.toList args.toList ds p := hA0
  rw [Tryd.params7] at hA hval
  obtain ⟨v0, v1, v2, d0, d1, d2, p0, p1, p2, rfl, rfl, rfl, h0, h1, h2⟩ := trodAll_three hA
  obtain ⟨rfl, rfl⟩ := trodVars_none hV
  clear hA0 hval0 hk0
  obtain ⟨hK, hH⟩ := laid2 hL
  have ce : Tryd.prog.cellsOf 5 = 1 := by kernel_rfl
  obtain ⟨x, px, cx, rfl, hnx, hcx, _, hSx, hLx⟩ := open_bytes Tryd.underlying22 Tryd.underlying5 ce (hval 0 22 v0 rfl rfl) h0
  obtain ⟨y, py, cy, rfl, hny, hcy, _, hSy, hLy⟩ := open_bytes Tryd.underlying22 Tryd.underlying5 ce (hval 1 22 v1 rfl rfl) h1
  obtain ⟨z, pz, cz, rfl, hnz, hcz, _, hSz, hLz⟩ := open_bytes Tryd.underlying22 Tryd.underlying5 ce (hval 2 22 v2 rfl rfl) h2
  have hb := bulk_len hLx hsmall (by simp)
  have hb2 := bulk_len hLy hsmall (by simp)
  have hb3 := bulk_len hLz hsmall (by simp)
  refine (apart_law x y z px py pz cx cy cz hnx hcx hny hcy hnz hcz hb hb2 hb3 W hSx hSy hSz hH hK).mono fun e W' ⟨he, hb⟩ => ⟨.bool true, he, law_post laidOut rfl rfl Tryd.underlying4 ?_ rfl hW' hb⟩
  intro t ht
  rw [Tryd.params7] at ht
  simp only [List.mem_cons, List.not_mem_nil, or_false] at ht
  rcases ht with rfl | rfl | rfl <;> exact ⟨by kernel_rfl, of_decide_eq_true (by kernel_rfl)⟩
theorem digestApart_laid_met (os : Os) : laidMet Tryd.prog Rows.digestApartUptoRow.laid ((laidWorld os).forCall (fun _ _ => 0) ⟨#[], #[.slice none 0 0, .slice none 0 0, .slice none 0 0], []⟩).memory :=
  laidMet_of_run' 8 (by kernel_rfl) (by kernel_rfl)
theorem digestApart_reads (os : Os) {H : Type} (enc : TypeId × Value → H) : ∃ places, DataW.whole enc Tryd.prog ((laidWorld os).forCall (fun _ _ => 0) ⟨#[], #[.slice none 0 0, .slice none 0 0, .slice none 0 0], []⟩).memory Tryd.f7.params.toList Rows.digestApartSpec.vars false (#[.slice none 0 0, .slice none 0 0, .slice none 0 0] : Array Value).toList 8 = some ([.nil, .nil, .nil], [], places) :=
  ⟨[], by kernel_rfl⟩
set_option maxRecDepth 100000 in
theorem digestApart_lifted (os : Os) (started : os.Started) (H : Type) (enc : TypeId × Value → H) (F : Stop.Interp) :
    ReturnsInHanded {} Tryd.checked os 7 .any ((Rows.OpenSpec.upto Rows.digestApartSpec).preRow enc Tryd.prog Tryd.f7 Rows.digestApartUptoRow.domain false Rows.digestApartUptoRow.laid) (((Rows.OpenSpec.upto Rows.digestApartSpec).at F).post enc Tryd.prog Tryd.f7 false true false false) := by
  obtain ⟨places, hx⟩ := digestApart_reads os enc
  refine returnsInHanded_of_row (C := Tryd.checked) (s := Rows.OpenSpec.upto Rows.digestApartSpec) own started (by kernel_rfl) Tryd.func7
    (witness_row_at (enc := enc) (C := Tryd.checked) false (laidWorld os) #[.slice none 0 0, .slice none 0 0, .slice none 0 0] rfl (by kernel_rfl) (by kernel_rfl) (by kernel_rfl)
      (OpenSpec.preRow_of_cond 8 hx (by kernel_rfl) (fun k hk => by cases hk; kernel_rfl) (by kernel_rfl) (digestApart_laid_met os))) ?_
  intro W base args ds gs before hval hW _ hcond _ hL _ _
  exact digestApart_contract H enc W base args ds gs before hval hW (hcond _ rfl) hL
theorem digestApart_said : Rows.DigestApartUptoSaid :=
  OpenClaim.holds_of_cond 7 Tryd.f7 rfl rfl rfl rfl rfl rfl rfl ⟨rfl, rfl, rfl, rfl, rfl⟩ rfl rfl rfl rfl rfl (by kernel_rfl) Tryd.func7 (by kernel_rfl)
    (of_decide_eq_true (by kernel_rfl)) (by unfold Func.isWrapper; first | (rw [if_pos (by decide +kernel)]; kernel_rfl) | (rw [if_neg (by decide +kernel)]; exact ⟨rfl, rfl⟩))
    (fun os started H enc _ F => by rw [OpenClaim.pre_eq_preRow]; exact digestApart_lifted os started H enc F)
theorem digestApart_plain (f : FuncId) (fn : Func) (hf : Tryd.pinned.checked.prog.funcNamed "graft/graftlaw1.DigestApart" = some f) (hfn : Tryd.pinned.checked.prog.funcs[f]? = some fn) :
    false = Tryd.pinned.checked.prog.looks [] ∧ ∀ (j : Nat) t, fn.params[j]? = some t → Tryd.pinned.checked.prog.wantsStandIn t = false := by
  obtain rfl : f = 7 := Option.some.inj ((show Tryd.prog.funcNamed "graft/graftlaw1.DigestApart" = some 7 by kernel_rfl).symm.trans hf) |>.symm
  obtain rfl : fn = Tryd.f7 := (Option.some.inj (Tryd.func7.symm.trans hfn)).symm
  refine ⟨by kernel_rfl, fun j t ht => ?_⟩
  rw [Tryd.params7] at ht
  have ht' := Array.mem_of_getElem? ht
  simp only [List.mem_toArray, List.mem_cons, List.not_mem_nil, or_false] at ht'
  rcases ht' with rfl | rfl | rfl <;> exact (show Tryd.prog.wantsStandIn _ = false by kernel_rfl)
/-- the card -/
theorem digestApart_holds : Rows.DigestApartUptoCardSaid :=
  Claim7.holds_tied_plain_at .later [] _ _ _ _ digestApart_said (fun _ h => by cases h) (by kernel_rfl) (fun _ h => by cases h) digestApartUpto_row_tie rfl ⟨rfl, rfl⟩ (by kernel_rfl) rfl digestApart_plain (by kernel_rfl)

end Go.Proofs.YtdmagjelmhcemaaDoor
