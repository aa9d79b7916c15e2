/- PROVED: DigestPieces, for arguments of bulk at most 1048576, with the two tables as the program's text lays them: the law returns true, and what was handed in reads behind the call as before. No other condition. -/
import Derived.Test.YtdmagjelmhcemaaDoorCards
import Derived.Test.YtdmagjelmhcemaaDoorTie
import Derived.Test.YtdmagjelmhcemaaDoorTabsOf
import Derived.Test.YtdmagjelmhcemaaDoorRow
import Derived.WalkKit
import Derived.ProofKit
import Derived.OpenShut
import Derived.Deep.DeepHandedRow
import Derived.Lib.LaidTab
import Derived.KernelRfl
import Derived.Test.YtdmagjelmhcemaaDoorBulk
import Derived.Test.YtdmagjelmhcemaaDoorOpen
import Derived.Test.YtdmagjelmhcemaaDoorPiecesWalk
namespace Go.Proofs.YtdmagjelmhcemaaDoor
open Go.ChangeShapes Go.WideShapes Go.ChangeAt Go.RowKit
set_option linter.unusedVariables false
set_option linter.unusedSimpArgs false


theorem digestPieces_contract (H : Type) (enc : TypeId × Value → H) (W : World) (base : Nat) (args : Array Value) (ds gs : List (DataW H)) (before : List MemPlace)
    (hval0 : ∀ (j : Nat) t v, Tryd.f6.params[j]? = some t → args[j]? = some v → Value.okWide Tryd.prog W .any base t v)
    (hW : DataW.Whole enc Tryd.prog Tryd.f6.params.toList Rows.digestPiecesSpec.vars false W args.toList ds gs before) (hk0 : Rows.uptoSmall H (ds ++ gs) = true) (hL : laidMetH Tryd.prog Rows.digestPiecesUptoRow.laid W) :
    Calls Tryd.prog 6 args W fun e W' => ∃ v, e = .returned v ∧ Rows.digestPiecesSpec.post enc Tryd.prog Tryd.f6 false true false false W args v W' := by
  have hval : ∀ (j : Nat) t v, Tryd.f6.params[j]? = some t → args[j]? = some v → Value.okWide Tryd.prog W .any base t v := hval0
  have hsmall := hk0
  have hW' := hW
  obtain ⟨p, q, hA0, hV, rfl, hfz, hnd⟩ := hW
  have hA : DataW.TrodAll enc Tryd.prog W 0 (fun _ => true) true Tryd.f6.params.toList args.toList ds p := hA0
  rw [Tryd.params6] at hA hval
  obtain ⟨v0, v1, d0, d1, p0, p1, rfl, rfl, rfl, h0, h1⟩ := trodAll_two hA
  obtain ⟨rfl, rfl⟩ := trodVars_none hV
  clear hA0 hval0 hk0
  obtain ⟨hK, hH⟩ := laid2 hL
  have ce : Tryd.prog.cellsOf 5 = 1 := by kernel_rfl
  have ce2 : Tryd.prog.cellsOf 22 = 1 := by kernel_rfl
  obtain ⟨a, rfl, ha, hba⟩ := open_lst Tryd.underlying48 (shList Tryd.underlying48 (shBytes Tryd.underlying22 Tryd.underlying5 ce) ce2 Nat.one_pos) (fun _ => rfl) (hval 0 48 v0 rfl rfl) h0
  obtain ⟨m, rfl, rfl, rfl, _⟩ := open_int Tryd.underlying3 (hval 1 3 v1 rfl rfl) h1
  have hb : pieceBulk a.xs + 1 ≤ 1048576 := bulk_in hba hsmall (by simp)
  have hsl : Sl W a.p (a.xs.map Lst.v) := by have h := ha.1.sl; rw [← flat1]; exact h
  refine (pieces_law a.xs a.p a.c ha.1.nil ha.1.le (by omega) m W hsl ha.2 hH hK).mono fun e W' ⟨he, hb⟩ => ⟨.bool true, he, law_post laidOut rfl rfl Tryd.underlying4 ?_ rfl hW' hb⟩
  intro t ht
  rw [Tryd.params6] at ht
  simp only [List.mem_cons, List.not_mem_nil, or_false] at ht
  rcases ht with rfl | rfl <;> exact ⟨by kernel_rfl, of_decide_eq_true (by kernel_rfl)⟩
theorem digestPieces_laid_met (os : Os) : laidMet Tryd.prog Rows.digestPiecesUptoRow.laid ((laidWorld os).forCall (fun _ _ => 0) ⟨#[], #[.slice none 0 0, .int .i64 0], []⟩).memory :=
  laidMet_of_run' 8 (by kernel_rfl) (by kernel_rfl)
theorem digestPieces_reads (os : Os) {H : Type} (enc : TypeId × Value → H) : ∃ places, DataW.whole enc Tryd.prog ((laidWorld os).forCall (fun _ _ => 0) ⟨#[], #[.slice none 0 0, .int .i64 0], []⟩).memory Tryd.f6.params.toList Rows.digestPiecesSpec.vars false (#[.slice none 0 0, .int .i64 0] : Array Value).toList 8 = some ([.nil, .lit (.int .i64 0)], [], places) :=
  ⟨[], by kernel_rfl⟩
set_option maxRecDepth 100000 in
theorem digestPieces_lifted (os : Os) (started : os.Started) (H : Type) (enc : TypeId × Value → H) (F : Stop.Interp) :
    ReturnsInHanded {} Tryd.checked os 6 .any ((Rows.OpenSpec.upto Rows.digestPiecesSpec).preRow enc Tryd.prog Tryd.f6 Rows.digestPiecesUptoRow.domain false Rows.digestPiecesUptoRow.laid) (((Rows.OpenSpec.upto Rows.digestPiecesSpec).at F).post enc Tryd.prog Tryd.f6 false true false false) := by
  obtain ⟨places, hx⟩ := digestPieces_reads os enc
  refine returnsInHanded_of_row (C := Tryd.checked) (s := Rows.OpenSpec.upto Rows.digestPiecesSpec) own started (by kernel_rfl) Tryd.func6
    (witness_row_at (enc := enc) (C := Tryd.checked) false (laidWorld os) #[.slice none 0 0, .int .i64 0] rfl (by kernel_rfl) (by kernel_rfl) (by kernel_rfl)
      (OpenSpec.preRow_of_cond 8 hx (by kernel_rfl) (fun k hk => by cases hk; kernel_rfl) (by kernel_rfl) (digestPieces_laid_met os))) ?_
  intro W base args ds gs before hval hW _ hcond _ hL _ _
  exact digestPieces_contract H enc W base args ds gs before hval hW (hcond _ rfl) hL
theorem digestPieces_said : Rows.DigestPiecesUptoSaid :=
  OpenClaim.holds_of_cond 6 Tryd.f6 rfl rfl rfl rfl rfl rfl rfl ⟨rfl, rfl, rfl, rfl, rfl⟩ rfl rfl rfl rfl rfl (by kernel_rfl) Tryd.func6 (by kernel_rfl)
    (of_decide_eq_true (by kernel_rfl)) (by unfold Func.isWrapper; first | (rw [if_pos (by decide +kernel)]; kernel_rfl) | (rw [if_neg (by decide +kernel)]; exact ⟨rfl, rfl⟩))
    (fun os started H enc _ F => by rw [OpenClaim.pre_eq_preRow]; exact digestPieces_lifted os started H enc F)
theorem digestPieces_plain (f : FuncId) (fn : Func) (hf : Tryd.pinned.checked.prog.funcNamed "graft/graftlaw1.DigestPieces" = some f) (hfn : Tryd.pinned.checked.prog.funcs[f]? = some fn) :
    false = Tryd.pinned.checked.prog.looks [] ∧ ∀ (j : Nat) t, fn.params[j]? = some t → Tryd.pinned.checked.prog.wantsStandIn t = false := by
  obtain rfl : f = 6 := Option.some.inj ((show Tryd.prog.funcNamed "graft/graftlaw1.DigestPieces" = some 6 by kernel_rfl).symm.trans hf) |>.symm
  obtain rfl : fn = Tryd.f6 := (Option.some.inj (Tryd.func6.symm.trans hfn)).symm
  refine ⟨by kernel_rfl, fun j t ht => ?_⟩
  rw [Tryd.params6] at ht
  have ht' := Array.mem_of_getElem? ht
  simp only [List.mem_toArray, List.mem_cons, List.not_mem_nil, or_false] at ht'
  rcases ht' with rfl | rfl <;> exact (show Tryd.prog.wantsStandIn _ = false by kernel_rfl)
/-- the card -/
theorem digestPieces_holds : Rows.DigestPiecesUptoCardSaid :=
  Claim7.holds_tied_plain_at .later [] _ _ _ _ digestPieces_said (fun _ h => by cases h) (by kernel_rfl) (fun _ h => by cases h) digestPiecesUpto_row_tie rfl ⟨rfl, rfl⟩ (by kernel_rfl) rfl digestPieces_plain (by kernel_rfl)

end Go.Proofs.YtdmagjelmhcemaaDoor
