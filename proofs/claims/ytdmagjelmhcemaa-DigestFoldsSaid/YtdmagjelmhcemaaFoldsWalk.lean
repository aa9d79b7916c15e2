/- The law DigestFolds: called at any two arrays of 32 bytes it returns true and turns nothing that was there. -/
import Derived.Test.YtdmagjelmhcemaaFold
import Derived.KernelRfl
namespace Go.Proofs.Ytdmagjelmhcemaa
open Go.RowKit
set_option linter.unusedVariables false
set_option linter.unusedSimpArgs false

set_option maxHeartbeats 400000 in
theorem folds_any (x y : List UInt8) (hx : x.length = 32) (hy : y.length = 32) (w : World) :
    Calls Try.prog 3 #[Value.agg (vbs x), Value.agg (vbs y)] w fun e w' => e = .returned (.bool true) ∧ Below w.heap.size w w' := by
  have hF := foldTo_length x 32
  have hW := wantTo_length x y
  have hT : ∀ k, (turnTo x y k).length = 32 := fun k => (turnTo_length x y k).trans hx
  refine calls_enter (n := 53) (hs := []) (M := []) (vs := [Value.agg (vbs x), Value.agg (vbs y)]) Try.func3 rfl rfl rfl (Hp.start w) ?_
  refine hl_seq ?_
  refine hl_region ?_
  refine ho_do rfl rfl (exw_box_agg rfl) (fun b2 hb2 => ?_)
  refine ho_do rfl rfl (exw_box_agg rfl) (fun b3 hb3 => ?_)
  refine ho_val rfl rfl (ex_assign rfl) ?_
  refine ho_nil ?_
  refine hk_then_code ?_
  refine hl_seq ?_
  refine hl_region ?_
  refine ho_val rfl rfl (ex_load_row rfl 1 rfl rfl Try.underlying23 rfl (by rw [size23, vbs_size, hx])) ?_
  refine ho_do rfl rfl (exw_call_pure Try.func8 rfl (by kernel_rfl) rfl (fun w' hw' => fold_any x hx w')) (fun _ _ => ?_)
  refine ho_do rfl rfl (exw_alloc_cs (z := .agg (vbs (List.replicate 20 0))) (vbs (List.replicate 20 0)) (by kernel_rfl) rfl) (fun b5 hb5 => ?_)
  refine ho_do rfl rfl (exw_store_row0 rfl rfl (by rw [size25, vbs_size, hF]) (by simp [vbs_size, hF]) (vbs_one _)) (fun _ _ => ?_)
  refine ho_nil ?_
  refine hk_then_code ?_
  refine hl_seq ?_
  refine hl_region ?_
  refine ho_val rfl rfl (ex_load_row rfl 2 rfl rfl Try.underlying23 rfl (by rw [size23, vbs_size, hx])) ?_
  refine ho_do rfl rfl (exw_alloc_cs (z := .agg (vbs (List.replicate 32 0))) (vbs (List.replicate 32 0)) (by kernel_rfl) rfl) (fun b6 hb6 => ?_)
  refine ho_do rfl rfl (exw_store_row0 rfl rfl (by rw [size23, vbs_size, hx]) (by simp [vbs_size, hx]) (vbs_one _)) (fun _ _ => ?_)
  refine ho_nil ?_
  refine hk_then_code ?_
  refine hl_seq ?_
  refine hl_seq ?_
  refine hl_region ?_
  refine ho_val rfl rfl (ex_assign rfl) ?_
  refine ho_nil ?_
  refine hk_then_code ?_
  refine hl_block ?_
  refine hl_loop (G := Nat) (fun k => 32 - k) (fun k => k ≤ 32) (fun k => [(2, .pointer (some ⟨b2, 0, none⟩)), (3, .pointer (some ⟨b3, 0, none⟩)), (5, .pointer (some ⟨b5, 0, none⟩)), (6, .pointer (some ⟨b6, 0, none⟩)), (7, .int .i64 (k : Nat))]) (fun k => [⟨b6, vbs (turnTo x y k), 23, (0, 0)⟩, ⟨b5, vbs (wantTo x y k), 25, (0, 0)⟩, ⟨b3, vbs y, 23, (0, 0)⟩, ⟨b2, vbs x, 23, (0, 0)⟩]) 0 (by omega) ⟨rfl, rfl, rfl, rfl, rfl, trivial⟩ (List.Sublist.refl _) (fun k hg => ?_)
  refine hl_seq ?_
  refine hl_seq ?_
  refine hl_region ?_
  refine ho_val rfl rfl (ex_move rfl) ?_
  refine ho_val rfl rfl (ex_lss rfl rfl rfl) ?_
  refine ho_nil ?_
  refine hk_then_code ?_
  refine hl_if rfl (fun hc0 => ?_) (fun hc0 => ?_)
  · simp only [decide_eq_true_eq, decide_eq_false_iff_not, beq_iff_eq, beq_eq_false_iff_ne, bne_iff_ne, bne_eq_false_iff_eq, ne_eq, Int.not_lt, Int.not_le, gt_iff_lt, ge_iff_le] at hc0
    have hk : k < 32 := by omega
    refine hl_skip ?_
    refine hk_then_code ?_
    refine hl_seq ?_
    refine hl_block ?_
    refine hl_seq ?_
    refine hl_still 15 (by kernel_rfl) (by kernel_rfl) ?_
    refine hs_val rfl rfl (ex_move rfl) ?_
    refine hs_val rfl rfl (ex_remN (q := 20) rfl rfl (by omega) (by omega)) ?_
    refine hs_val rfl rfl (ex_move rfl) ?_
    refine hs_val rfl rfl (ex_remN (q := 20) rfl rfl (by omega) (by omega)) ?_
    refine hs_val rfl rfl (ex_addr_arr0 rfl rfl Try.underlying25 size5 (Nat.mod_lt _ (by decide))) ?_
    refine hs_val rfl rfl (ex_load rfl 1 rfl rfl (vbs_getD _ _ (by rw [hW]; exact Nat.mod_lt _ (by decide))) Try.underlying5 rfl) ?_
    refine hs_val rfl rfl (ex_move rfl) ?_
    refine hs_val rfl rfl (ex_addr_arr0 rfl rfl Try.underlying23 size5 (by omega)) ?_
    refine hs_val rfl rfl (ex_load rfl 3 rfl rfl (vbs_getD x k (by omega)) Try.underlying5 rfl) ?_
    refine hs_val rfl rfl (ex_xor8 rfl rfl) ?_
    refine hs_val rfl rfl (ex_move rfl) ?_
    refine hs_val rfl rfl (ex_addr_arr0 rfl rfl Try.underlying23 size5 (by omega)) ?_
    refine hs_val rfl rfl (ex_load rfl 2 rfl rfl (vbs_getD y k (by omega)) Try.underlying5 rfl) ?_
    refine hs_val rfl rfl (ex_xor8 rfl rfl) ?_
    refine hs_val rfl rfl (ex_addr_arr0 rfl rfl Try.underlying25 size5 (Nat.mod_lt _ (by decide))) ?_
    refine hs_nil ?_
    refine ho_do rfl rfl (exw_store1 rfl rfl (vbs_getD _ _ (by rw [hW]; exact Nat.mod_lt _ (by decide))) rfl size5 (vbs_set _ _ _)) (fun _ _ => ?_)
    refine ho_nil ?_
    refine hk_then_code ?_
    refine hl_seq ?_
    refine hl_region ?_
    refine ho_val rfl rfl (ex_move rfl) ?_
    refine ho_val rfl rfl (ex_move rfl) ?_
    refine ho_val rfl rfl (ex_addr_arr0 rfl rfl Try.underlying23 size5 (by omega)) ?_
    refine ho_val rfl rfl (ex_load rfl 2 rfl rfl (vbs_getD y k (by omega)) Try.underlying5 rfl) ?_
    refine ho_val rfl rfl (ex_addr_arr0 rfl rfl Try.underlying23 size5 (by omega)) ?_
    refine ho_do rfl rfl (exw_store0 rfl rfl (vbs_getD _ _ (by rw [hT]; omega)) rfl size5 (vbs_set _ _ _)) (fun _ _ => ?_)
    refine ho_nil ?_
    refine hk_then_code ?_
    refine hl_seq ?_
    refine hl_held _ (by kernel_rfl) (List.Sublist.refl _) ?_
    refine ha_take 0 rfl (by kernel_rfl) (by kernel_rfl) (by kernel_rfl) (fun _ _ _ h => h) rfl rfl (ex_load_row rfl 0 rfl rfl Try.underlying23 rfl (by rw [size23, vbs_size]; exact congrArg some (hT (k + 1)).symm)) ?_
    refine ha_take 2 rfl (by kernel_rfl) (by kernel_rfl) (by kernel_rfl) (fun _ _ _ h => h) rfl rfl (ex_load_row rfl 1 rfl rfl Try.underlying25 rfl (by rw [size25, vbs_size]; exact congrArg some (hW (k + 1)).symm)) ?_
    refine ha_do 1 rfl (by kernel_rfl) (fun a _ => wanted_none rfl a) rfl (exw_call_pure Try.func8 rfl (by kernel_rfl) rfl (fun w' hw' => fold_any (turnTo x y (k + 1)) (hT (k + 1)) w')) (fun _ _ => (List.Sublist.refl _)) (fun _ _ => ?_)
    refine ha_take 3 rfl (by kernel_rfl) (by kernel_rfl) (by kernel_rfl) (fun _ _ _ h => h) rfl rfl (ex_neq_arr (b := false) rfl rfl Try.underlying25 Try.underlying5 size5 (by kernel_rfl) (foldTo_length _ _) (hW (k + 1)) (neq_false_of_eq (fold_turn x y hx (k + 1) (by omega)))) ?_
    refine ha_done (by kernel_rfl) ?_
    refine hk_then_code ?_
    refine hl_false rfl ?_
    refine hl_skip ?_
    refine hk_block_normal ?_
    refine hk_then_code ?_
    refine hl_region ?_
    refine ho_val rfl rfl (ex_move rfl) ?_
    refine ho_val rfl rfl (ex_addN (q := 1) rfl rfl (by omega)) ?_
    refine ho_val rfl rfl (ex_assign rfl) ?_
    refine ho_nil ?_
    refine hk_then_normal ?_
    exact hk_round (k + 1) (by omega) (by omega) ⟨rfl, rfl, rfl, rfl, rfl, trivial⟩ (List.Sublist.refl _)
  · simp only [decide_eq_true_eq, decide_eq_false_iff_not, beq_iff_eq, beq_eq_false_iff_ne, bne_iff_ne, bne_eq_false_iff_eq, ne_eq, Int.not_lt, Int.not_le, gt_iff_lt, ge_iff_le] at hc0
    obtain rfl : k = 32 := by omega
    refine hl_exit ?_
    refine hk_then_exit ?_
    refine hk_then_exit ?_
    refine hk_block_hit ?_
    refine hk_then_code ?_
    refine hl_seq ?_
    refine hl_region ?_
    refine ho_do rfl rfl (exw_alloc_cs (z := .agg (vbs (List.replicate 32 0))) (vbs (List.replicate 32 0)) (by kernel_rfl) rfl) (fun b8 hb8 => ?_)
    refine ho_nil ?_
    refine hk_then_code ?_
    refine hl_seq ?_
    refine hl_region ?_
    refine ho_val rfl rfl (ex_addr_arr0 (k := 31) rfl rfl Try.underlying23 size5 (by decide)) ?_
    refine ho_do rfl rfl (exw_store0 rfl rfl (vbs_getD _ _ (by decide)) rfl size5 (vbs_set _ 31 7)) (fun _ _ => ?_)
    refine ho_nil ?_
    refine hk_then_code ?_
    refine hl_seq ?_
    refine hl_region ?_
    refine ho_do rfl rfl (exw_alloc_cs (z := .agg (vbs (List.replicate 20 0))) (vbs (List.replicate 20 0)) (by kernel_rfl) rfl) (fun b9 hb9 => ?_)
    refine ho_nil ?_
    refine hk_then_code ?_
    refine hl_seq ?_
    refine hl_region ?_
    refine ho_val rfl rfl (ex_addr_arr0 (k := 11) rfl rfl Try.underlying25 size5 (by decide)) ?_
    refine ho_do rfl rfl (exw_store0 rfl rfl (vbs_getD _ _ (by decide)) rfl size5 (vbs_set _ 11 7)) (fun _ _ => ?_)
    refine ho_nil ?_
    refine hk_then_code ?_
    refine hl_seq ?_
    refine hl_held _ (by kernel_rfl) (List.Sublist.refl _) ?_
    refine ha_take 0 rfl (by kernel_rfl) (by kernel_rfl) (by kernel_rfl) (fun _ _ _ h => h) rfl rfl (ex_load_row rfl 1 rfl rfl Try.underlying23 rfl (by rw [size23, vbs_size, List.length_set, List.length_replicate])) ?_
    refine ha_take 2 rfl (by kernel_rfl) (by kernel_rfl) (by kernel_rfl) (fun _ _ _ h => h) rfl rfl (ex_load_row rfl 0 rfl rfl Try.underlying25 rfl (by rw [size25, vbs_size, List.length_set, List.length_replicate])) ?_
    refine ha_do 1 rfl (by kernel_rfl) (fun a _ => wanted_none rfl a) rfl (exw_call_pure Try.func8 rfl (by kernel_rfl) rfl (fun w' hw' => fold_any ((List.replicate 32 0).set 31 7) rfl w')) (fun _ _ => (List.Sublist.refl _)) (fun _ _ => ?_)
    refine ha_take 3 rfl (by kernel_rfl) (by kernel_rfl) (by kernel_rfl) (fun _ _ _ h => h) rfl rfl (ex_eql_arr (b := true) rfl rfl Try.underlying25 Try.underlying5 size5 (by kernel_rfl) (foldTo_length _ _) rfl (eql_true_of_eq fold_one)) ?_
    refine ha_take 4 rfl (by kernel_rfl) (by kernel_rfl) (by kernel_rfl) (fun _ _ _ h => h) rfl rfl (ex_move rfl) ?_
    refine ha_want 5 rfl (by kernel_rfl) (by kernel_rfl) (by kernel_rfl) (fun _ _ _ h => h) rfl rfl rfl rfl rfl (ex_build0 (v := .agg (vbs (List.replicate 32 0))) (fun _ => by kernel_rfl)) ?_
    refine ha_want 7 rfl (by kernel_rfl) (by kernel_rfl) (by kernel_rfl) (fun _ _ _ h => h) rfl rfl rfl rfl rfl (ex_build0 (v := .agg (vbs (List.replicate 20 0))) (fun _ => by kernel_rfl)) ?_
    refine ha_do 6 rfl (by kernel_rfl) (want_of rfl rfl rfl rfl) rfl (exw_call_pure Try.func8 rfl (by kernel_rfl) rfl (fun w' hw' => fold_any (List.replicate 32 0) rfl w')) (fun _ _ => (List.Sublist.refl _)) (fun _ _ => ?_)
    refine ha_want 8 rfl (by kernel_rfl) (by kernel_rfl) (by kernel_rfl) (fun _ _ _ h => h) rfl rfl rfl rfl rfl (ex_eql_arr (b := true) rfl rfl Try.underlying25 Try.underlying5 size5 (by kernel_rfl) (foldTo_length _ _) rfl (eql_true_of_eq fold_none)) ?_
    refine ha_take 9 rfl (by kernel_rfl) (by kernel_rfl) (by kernel_rfl) (fun _ _ _ h => h) rfl rfl (ex_pick_true rfl rfl) ?_
    refine ha_take 10 rfl (by kernel_rfl) (by kernel_rfl) (by kernel_rfl) (fun _ _ _ h => h) rfl rfl (ex_assign rfl) ?_
    refine ha_done (by kernel_rfl) ?_
    refine hk_then_code ?_
    refine hl_ret ?_
    exact hk_ret rfl rfl (fun w' hw' => ⟨rfl, hw'.below⟩)

end Go.Proofs.Ytdmagjelmhcemaa
