/- The tables of words that this seat's rows list. -/
import Derived.Test.YtdmagjelmhcemaaDoorRows
import Derived.Test.YtdmagjelmhcemaaDoorTabs
import Derived.KernelRfl
namespace Go.Proofs.YtdmagjelmhcemaaDoor
open Go.RowKit
set_option linter.unusedVariables false
set_option linter.unusedSimpArgs false

theorem own : ownKnob Tryd.prog.godebug = none := by kernel_rfl
theorem laidOut : laidOutB Tryd.prog = true := by kernel_rfl
theorem cells_tK : Tryd.prog.cellsOf 64 = 64 := by kernel_rfl
theorem cells_tH : Tryd.prog.cellsOf 62 = 8 := by kernel_rfl
theorem cells_u32 : Tryd.prog.cellsOf 61 = 1 := by kernel_rfl
theorem named_graft_graftref1_tableK : Tryd.prog.globalNamed "graft/graftref1.tableK" = some 1 := by kernel_rfl
theorem type_graft_graftref1_tableK : (Tryd.prog.globals[1]?).map (·.type) = some 64 := by kernel_rfl
theorem data_graft_graftref1_tableK : (Rows.laid_graft_graftref1_tableK : DataW Unit) = Lib.tabData .u32 (tK.map fun x => (x.toNat : Int)) := by kernel_rfl
theorem named_graft_graftref1_tableH : Tryd.prog.globalNamed "graft/graftref1.tableH" = some 0 := by kernel_rfl
theorem type_graft_graftref1_tableH : (Tryd.prog.globals[0]?).map (·.type) = some 62 := by kernel_rfl
theorem data_graft_graftref1_tableH : (Rows.laid_graft_graftref1_tableH : DataW Unit) = Lib.tabData .u32 (tH.map fun x => (x.toNat : Int)) := by kernel_rfl
theorem named_graft_digest_rounds : Tryd.prog.globalNamed "graft/digest.rounds" = some 3 := by kernel_rfl
theorem type_graft_digest_rounds : (Tryd.prog.globals[3]?).map (·.type) = some 64 := by kernel_rfl
theorem data_graft_digest_rounds : (Rows.laid_graft_digest_rounds : DataW Unit) = Lib.tabData .u32 (tK.map fun x => (x.toNat : Int)) := by kernel_rfl
theorem named_graft_digest_begin : Tryd.prog.globalNamed "graft/digest.begin" = some 2 := by kernel_rfl
theorem type_graft_digest_begin : (Tryd.prog.globals[2]?).map (·.type) = some 62 := by kernel_rfl
theorem data_graft_digest_begin : (Rows.laid_graft_digest_begin : DataW Unit) = Lib.tabData .u32 (tH.map fun x => (x.toNat : Int)) := by kernel_rfl
theorem laid4 {W : World} (h : laidMet Tryd.prog [("graft/graftref1.tableK", Rows.laid_graft_graftref1_tableK), ("graft/graftref1.tableH", Rows.laid_graft_graftref1_tableH), ("graft/digest.rounds", Rows.laid_graft_digest_rounds), ("graft/digest.begin", Rows.laid_graft_digest_begin)] W) : Sl W (some ⟨1, 0, none⟩) (tK.map vw) ∧ Sl W (some ⟨0, 0, none⟩) (tH.map vw) ∧ Sl W (some ⟨3, 0, none⟩) (tK.map vw) ∧ Sl W (some ⟨2, 0, none⟩) (tH.map vw) := by
  rw [data_graft_graftref1_tableK, data_graft_graftref1_tableH, data_graft_digest_rounds, data_graft_digest_begin] at h
  exact ⟨tab_sl (Lib.tabIs_of_head named_graft_graftref1_tableK type_graft_graftref1_tableK Tryd.underlying64 Tryd.underlying61 cells_u32 cells_tK h) named_graft_graftref1_tableK, tab_sl (Lib.tabIs_of_head named_graft_graftref1_tableH type_graft_graftref1_tableH Tryd.underlying62 Tryd.underlying61 cells_u32 cells_tH (laidMet.tail h)) named_graft_graftref1_tableH, tab_sl (Lib.tabIs_of_head named_graft_digest_rounds type_graft_digest_rounds Tryd.underlying64 Tryd.underlying61 cells_u32 cells_tK (laidMet.tail (laidMet.tail h))) named_graft_digest_rounds, tab_sl (Lib.tabIs_of_head named_graft_digest_begin type_graft_digest_begin Tryd.underlying62 Tryd.underlying61 cells_u32 cells_tH (laidMet.tail (laidMet.tail (laidMet.tail h)))) named_graft_digest_begin⟩
theorem laid2 {W : World} (h : laidMet Tryd.prog [("graft/digest.rounds", Rows.laid_graft_digest_rounds), ("graft/digest.begin", Rows.laid_graft_digest_begin)] W) : Sl W (some ⟨3, 0, none⟩) (tK.map vw) ∧ Sl W (some ⟨2, 0, none⟩) (tH.map vw) := by
  rw [data_graft_digest_rounds, data_graft_digest_begin] at h
  exact ⟨tab_sl (Lib.tabIs_of_head named_graft_digest_rounds type_graft_digest_rounds Tryd.underlying64 Tryd.underlying61 cells_u32 cells_tK h) named_graft_digest_rounds, tab_sl (Lib.tabIs_of_head named_graft_digest_begin type_graft_digest_begin Tryd.underlying62 Tryd.underlying61 cells_u32 cells_tH (laidMet.tail h)) named_graft_digest_begin⟩
/-- a world for the witness: the tables hold what their initialisers lay -/
noncomputable def laidWorld (os : Os) : World :=
  { World.holding Tryd.prog os ⟨#[], #[], []⟩ with heap := (((((World.holding Tryd.prog os ⟨#[], #[], []⟩).heap).modify 1 (fun | .cells _ t fz => .cells (tK.map vw).toArray t fz | o => o)).modify 0 (fun | .cells _ t fz => .cells (tH.map vw).toArray t fz | o => o)).modify 3 (fun | .cells _ t fz => .cells (tK.map vw).toArray t fz | o => o)).modify 2 (fun | .cells _ t fz => .cells (tH.map vw).toArray t fz | o => o) }

end Go.Proofs.YtdmagjelmhcemaaDoor
