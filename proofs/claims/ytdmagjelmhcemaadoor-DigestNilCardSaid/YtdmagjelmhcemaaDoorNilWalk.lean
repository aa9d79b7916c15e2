/- The law DigestNil, walked. -/
import Derived.Test.YtdmagjelmhcemaaDoorNils
namespace Go.Proofs.YtdmagjelmhcemaaDoor
open Go.RowKit
set_option linter.unusedVariables false
set_option linter.unusedSimpArgs false

set_option maxHeartbeats 400000 in
theorem nil_law (w : World) (hH : Sl w (some (2, 0)) (tH.map vw)) (hK : Sl w (some (3, 0)) (tK.map vw)) :
    Calls Tryd.prog 5 #[] w fun e w' => e = .returned (.bool true) ∧ Below w.heap.size w w' := by
  refine calls_enter (n := 26) (hs := []) (M := []) (vs := []) Tryd.func5 rfl rfl rfl (Hp.start w) ?_
  refine hl_seq ?_
  refine hl_region ?_
  refine ho_val rfl rfl (ex_assign rfl) ?_
  refine ho_nil ?_
  refine hk_then_code ?_
  refine hl_seq ?_
  refine hl_seq ?_
  refine hl_region ?_
  refine ho_do rfl rfl (exw_call Tryd.func19 rfl (by kernel_rfl) rfl (val := fun x : Nat => .pointer (some ⟨x, 0, none⟩)) (hs' := fun x => ⟨some x, hblk tH (List.replicate 64 0) 0, 67, (0, 0)⟩ :: _) (pre := fun x => w.heap.size ≤ x) (fun w' hw' => (new_any w' (hH.old0 hw')).mono fun e w2 ⟨g, h1, h2⟩ => ⟨g, Nat.le_trans hw'.size h2.fresh, h1, hw'.comp (A := []) (by simp) h2⟩)) (fun h2 ge2 => ?_)
  refine ho_val rfl rfl (ex_eql_ptr rfl rfl Tryd.underlying34 rfl) ?_
  refine ho_nil ?_
  refine hk_then_code ?_
  refine hl_false rfl ?_
  refine hl_skip ?_
  refine hk_then_code ?_
  refine hl_seq ?_
  refine hl_region ?_
  refine ho_val rfl rfl (ex_assign rfl) ?_
  refine ho_nil ?_
  refine hk_then_code ?_
  refine hl_seq ?_
  refine hl_region ?_
  refine ho_val rfl rfl (ex_move rfl) ?_
  refine ho_do rfl rfl (exw_call_pure Tryd.func29 rfl (by kernel_rfl) rfl (fun w' hw' => reset_nil w')) (fun _ _ => ?_)
  refine ho_nil ?_
  refine hk_then_code ?_
  refine hl_seq ?_
  refine hl_region ?_
  refine ho_val rfl rfl (ex_move rfl) ?_
  refine ho_do rfl rfl (exw_list (xs := [.const (.int .u8 1)]) rfl rfl rfl Tryd.underlying22 info5 rfl rfl (by decide)) (fun b7 hb7 => ?_)
  refine ho_do rfl rfl (exw_call_pure Tryd.func21 rfl (by kernel_rfl) rfl (fun w' hw' => write_nil (some (b7, 0)) 1 1 w')) (fun _ _ => ?_)
  refine ho_val rfl rfl (ex_eql rfl rfl rfl) ?_
  refine ho_val rfl rfl (ex_move rfl) ?_
  refine ho_want rfl rfl rfl rfl rfl (ex_move rfl) ?_
  refine ho_do_want rfl rfl rfl rfl rfl (exw_call_pure Tryd.func23 rfl (by kernel_rfl) rfl (fun w' hw' => sum_nil w')) (fun _ _ => ?_)
  refine ho_want rfl rfl rfl rfl rfl (ex_build0 (v := .agg (vbs (List.replicate 32 0))) (fun _ => by kernel_rfl)) ?_
  refine ho_want rfl rfl rfl rfl rfl (ex_eql_arr (b := true) rfl rfl Tryd.underlying25 Tryd.underlying5 size5 (by kernel_rfl) (by rw [List.length_replicate]) (by rw [List.length_replicate]) (eql_true_of_eq rfl)) ?_
  refine ho_val rfl rfl (ex_pick_true rfl rfl) ?_
  refine ho_val rfl rfl (ex_move rfl) ?_
  refine ho_want rfl rfl rfl rfl rfl (ex_move rfl) ?_
  refine ho_do_want rfl rfl rfl rfl rfl (exw_call_pure Tryd.func25 rfl (by kernel_rfl) rfl (fun w' hw' => len_nil w')) (fun _ _ => ?_)
  refine ho_want rfl rfl rfl rfl rfl (ex_eql rfl rfl rfl) ?_
  refine ho_val rfl rfl (ex_pick_true rfl rfl) ?_
  refine ho_val rfl rfl (ex_move rfl) ?_
  refine ho_want rfl rfl rfl rfl rfl (ex_move rfl) ?_
  refine ho_do_want rfl rfl rfl rfl rfl (exw_call_pure Tryd.func27 rfl (by kernel_rfl) rfl (fun w' hw' => clone_nil w')) (fun _ _ => ?_)
  refine ho_want rfl rfl rfl rfl rfl (ex_eql_ptr rfl rfl Tryd.underlying34 rfl) ?_
  refine ho_val rfl rfl (ex_pick_true rfl rfl) ?_
  refine ho_val rfl rfl (ex_assign rfl) ?_
  refine ho_nil ?_
  refine hk_then_code ?_
  refine hl_ret ?_
  exact hk_ret rfl rfl (fun w' hw' => ⟨rfl, hw'.below⟩)

end Go.Proofs.YtdmagjelmhcemaaDoor
