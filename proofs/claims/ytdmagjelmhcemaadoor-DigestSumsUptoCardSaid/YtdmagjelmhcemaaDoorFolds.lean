/- Fold, of the digest and of the document: what they answer. -/
import Derived.Test.YtdmagjelmhcemaaDoorRows
import Derived.Test.YtdmagjelmhcemaaDoorFacts
import Derived.Test.YtdmagjelmhcemaaDoorE
import Derived.Test.YtdmagjelmhcemaaDoorB
import Derived.Test.YtdmagjelmhcemaaDoorFoldLaw
import Derived.KernelRfl
namespace Go.Proofs.YtdmagjelmhcemaaDoor
open Go.RowKit
set_option linter.unusedVariables false
set_option linter.unusedSimpArgs false

set_option maxHeartbeats 400000 in
theorem fold_any (l : List UInt8) (hl : l.length = 32) (w : World) :
    Calls Tryd.prog 15 #[Value.agg (vbs l)] w fun e w' => e = .returned (.agg (vbs (foldTo l 32))) ∧ Below w.heap.size w w' := by
  have hF := foldTo_length l
  refine calls_enter (n := 20) (hs := []) (M := []) (vs := [Value.agg (vbs l)]) Tryd.func15 rfl rfl rfl (Hp.start w) ?_
  refine hl_seq ?_
  refine hl_region ?_
  refine ho_do rfl rfl (exw_box_agg rfl) (fun b1 hb1 => ?_)
  refine ho_do rfl rfl (exw_alloc_cs (z := .agg (vbs (List.replicate 20 0))) (vbs (List.replicate 20 0)) (by kernel_rfl) rfl) (fun b2 hb2 => ?_)
  refine ho_nil ?_
  refine hk_then_code ?_
  refine hl_seq ?_
  refine hl_region ?_
  refine ho_do rfl rfl (exw_alloc_cs (z := .agg (vbs (List.replicate 20 0))) (vbs (List.replicate 20 0)) (by kernel_rfl) rfl) (fun b3 hb3 => ?_)
  refine ho_nil ?_
  refine hk_then_code ?_
  refine hl_seq ?_
  refine hl_seq ?_
  refine hl_region ?_
  refine ho_val rfl rfl (ex_load_row rfl 2 rfl rfl Tryd.underlying25 rfl (by rw [size25, vbs_size, hl])) ?_
  refine ho_val rfl rfl (ex_move rfl) ?_
  refine ho_nil ?_
  refine hk_then_code ?_
  refine hl_block ?_
  refine hl_loop (G := Nat) (fun k => 32 - k) (fun k => k ≤ 32) (fun k => [(2, .pointer (some ⟨b2, 0, none⟩)), (3, .pointer (some ⟨b3, 0, none⟩)), (6, .agg (vbs l)), (7, .int .i64 (k : Nat))]) (fun k => [⟨some b3, vbs (foldTo l k), 28, (0, 0)⟩, ⟨some b2, vbs (List.replicate 20 0), 28, (0, 0)⟩, ⟨some b1, vbs l, 25, (0, 0)⟩]) 0 (by omega) ⟨rfl, rfl, rfl, rfl, trivial⟩ _ (by decide) (.cons 0 rfl (.cons 1 rfl (.cons 2 rfl .nil))) (fun k hg => ?_)
  refine hl_seq ?_
  refine hl_region ?_
  refine ho_val rfl rfl (ex_lss rfl rfl rfl) ?_
  refine ho_nil ?_
  refine hk_then_code ?_
  refine hl_seq ?_
  refine hl_if rfl (fun hc0 => ?_) (fun hc0 => ?_)
  · try simp only [decide_eq_true_eq, decide_eq_false_iff_not, beq_iff_eq, beq_eq_false_iff_ne, bne_iff_ne, bne_eq_false_iff_eq, ne_eq, Int.not_lt, Int.not_le, gt_iff_lt, ge_iff_le] at hc0
    have hk : k < 32 := by omega
    refine hl_skip ?_
    refine hk_then_code ?_
    refine hl_seq ?_
    refine hl_block ?_
    refine hl_seq ?_
    refine hl_region ?_
    refine ho_val rfl rfl (ex_move rfl) ?_
    refine ho_val rfl rfl (ex_index_arr rfl rfl Tryd.underlying25 Tryd.underlying5 rfl size5 (by omega) (vbs_getD l k (by omega))) ?_
    refine ho_val rfl rfl (ex_assign rfl) ?_
    refine ho_val rfl rfl (ex_assign rfl) ?_
    refine ho_nil ?_
    refine hk_then_code ?_
    refine hl_region ?_
    refine ho_val rfl rfl (ex_move rfl) ?_
    refine ho_val rfl rfl (ex_remN (q := 20) rfl rfl (by omega) (by omega)) ?_
    refine ho_val rfl rfl (ex_addr_arr0 rfl rfl Tryd.underlying28 size5 (Nat.mod_lt _ (by decide))) ?_
    refine ho_val rfl rfl (ex_load rfl 0 rfl rfl (vbs_getD _ _ (by rw [hF]; exact Nat.mod_lt _ (by decide))) Tryd.underlying5 rfl) ?_
    refine ho_val rfl rfl (ex_move rfl) ?_
    refine ho_val rfl rfl (ex_xor8 rfl rfl) ?_
    refine ho_val rfl rfl (ex_addr_arr0 rfl rfl Tryd.underlying28 size5 (Nat.mod_lt _ (by decide))) ?_
    refine ho_do rfl rfl (exw_store0 rfl rfl (vbs_getD _ _ (by rw [hF]; exact Nat.mod_lt _ (by decide))) rfl size5 (vbs_set _ _ _)) (fun _ _ => ?_)
    refine ho_nil ?_
    refine hk_block_normal ?_
    refine hk_then_code ?_
    refine hl_region ?_
    refine ho_val rfl rfl (ex_addN (q := 1) rfl rfl (by omega)) ?_
    refine ho_val rfl rfl (ex_move rfl) ?_
    refine ho_nil ?_
    refine hk_then_normal ?_
    exact hk_round (k + 1) (by omega) (by omega) ⟨rfl, rfl, rfl, rfl, trivial⟩ _ (by decide) (.cons 0 rfl (.cons 1 rfl (.cons 2 rfl .nil)))
  · try simp only [decide_eq_true_eq, decide_eq_false_iff_not, beq_iff_eq, beq_eq_false_iff_ne, bne_iff_ne, bne_eq_false_iff_eq, ne_eq, Int.not_lt, Int.not_le, gt_iff_lt, ge_iff_le] at hc0
    obtain rfl : k = 32 := by omega
    refine hl_exit ?_
    refine hk_then_exit ?_
    refine hk_then_exit ?_
    refine hk_block_hit ?_
    refine hk_then_code ?_
    refine hl_seq ?_
    refine hl_region ?_
    refine ho_val rfl rfl (ex_load_row rfl 0 rfl rfl Tryd.underlying28 rfl (by rw [size28, vbs_size, hF])) ?_
    refine ho_do rfl rfl (exw_store_row1 rfl rfl (by rw [size28, vbs_size, hF]) (by simp [vbs_size, hF]) (vbs_one _)) (fun _ _ => ?_)
    refine ho_nil ?_
    refine hk_then_code ?_
    refine hl_ret ?_
    exact hk_ret_row rfl rfl 1 rfl rfl Tryd.underlying28 rfl (by rw [size28, vbs_size, hF]) (fun w' hw' => ⟨rfl, hw'.below⟩)

set_option maxHeartbeats 400000 in
theorem reffold_any (l : List UInt8) (hl : l.length = 32) (w : World) :
    Calls Tryd.prog 16 #[Value.agg (vbs l)] w fun e w' => e = .returned (.agg (vbs (foldTo l 32))) ∧ Below w.heap.size w w' := by
  have hF := foldTo_length l
  refine calls_enter (n := 21) (hs := []) (M := []) (vs := [Value.agg (vbs l)]) Tryd.func16 rfl rfl rfl (Hp.start w) ?_
  refine hl_seq ?_
  refine hl_region ?_
  refine ho_do rfl rfl (exw_box_agg rfl) (fun b1 hb1 => ?_)
  refine ho_do rfl rfl (exw_alloc_cs (z := .agg (vbs (List.replicate 20 0))) (vbs (List.replicate 20 0)) (by kernel_rfl) rfl) (fun b2 hb2 => ?_)
  refine ho_nil ?_
  refine hk_then_code ?_
  refine hl_seq ?_
  refine hl_region ?_
  refine ho_do rfl rfl (exw_alloc_cs (z := .agg (vbs (List.replicate 20 0))) (vbs (List.replicate 20 0)) (by kernel_rfl) rfl) (fun b3 hb3 => ?_)
  refine ho_nil ?_
  refine hk_then_code ?_
  refine hl_seq ?_
  refine hl_seq ?_
  refine hl_region ?_
  refine ho_val rfl rfl (ex_assign rfl) ?_
  refine ho_nil ?_
  refine hk_then_code ?_
  refine hl_block ?_
  refine hl_loop (G := Nat) (fun k => 32 - k) (fun k => k ≤ 32) (fun k => [(1, .pointer (some ⟨b1, 0, none⟩)), (2, .pointer (some ⟨b2, 0, none⟩)), (3, .pointer (some ⟨b3, 0, none⟩)), (4, .int .i64 (k : Nat))]) (fun k => [⟨some b3, vbs (foldTo l k), 28, (0, 0)⟩, ⟨some b2, vbs (List.replicate 20 0), 28, (0, 0)⟩, ⟨some b1, vbs l, 25, (0, 0)⟩]) 0 (by omega) ⟨rfl, rfl, rfl, rfl, trivial⟩ _ (by decide) (.cons 0 rfl (.cons 1 rfl (.cons 2 rfl .nil))) (fun k hg => ?_)
  refine hl_seq ?_
  refine hl_seq ?_
  refine hl_region ?_
  refine ho_val rfl rfl (ex_move rfl) ?_
  refine ho_val rfl rfl (ex_lss rfl rfl rfl) ?_
  refine ho_nil ?_
  refine hk_then_code ?_
  refine hl_if rfl (fun hc0 => ?_) (fun hc0 => ?_)
  · try simp only [decide_eq_true_eq, decide_eq_false_iff_not, beq_iff_eq, beq_eq_false_iff_ne, bne_iff_ne, bne_eq_false_iff_eq, ne_eq, Int.not_lt, Int.not_le, gt_iff_lt, ge_iff_le] at hc0
    have hk : k < 32 := by omega
    refine hl_skip ?_
    refine hk_then_code ?_
    refine hl_seq ?_
    refine hl_block ?_
    refine hl_still 11 (by kernel_rfl) (by kernel_rfl) ?_
    refine hs_val rfl rfl (ex_move rfl) ?_
    refine hs_val rfl rfl (ex_remN (q := 20) rfl rfl (by omega) (by omega)) ?_
    refine hs_val rfl rfl (ex_move rfl) ?_
    refine hs_val rfl rfl (ex_remN (q := 20) rfl rfl (by omega) (by omega)) ?_
    refine hs_val rfl rfl (ex_addr_arr0 rfl rfl Tryd.underlying28 size5 (Nat.mod_lt _ (by decide))) ?_
    refine hs_val rfl rfl (ex_load rfl 0 rfl rfl (vbs_getD _ _ (by rw [hF]; exact Nat.mod_lt _ (by decide))) Tryd.underlying5 rfl) ?_
    refine hs_val rfl rfl (ex_move rfl) ?_
    refine hs_val rfl rfl (ex_addr_arr0 rfl rfl Tryd.underlying25 size5 (by omega)) ?_
    refine hs_val rfl rfl (ex_load rfl 2 rfl rfl (vbs_getD l k (by omega)) Tryd.underlying5 rfl) ?_
    refine hs_val rfl rfl (ex_xor8 rfl rfl) ?_
    refine hs_val rfl rfl (ex_addr_arr0 rfl rfl Tryd.underlying28 size5 (Nat.mod_lt _ (by decide))) ?_
    refine hs_nil ?_
    refine ho_do rfl rfl (exw_store0 rfl rfl (vbs_getD _ _ (by rw [hF]; exact Nat.mod_lt _ (by decide))) rfl size5 (vbs_set _ _ _)) (fun _ _ => ?_)
    refine ho_nil ?_
    refine hk_block_normal ?_
    refine hk_then_code ?_
    refine hl_region ?_
    refine ho_val rfl rfl (ex_move rfl) ?_
    refine ho_val rfl rfl (ex_addN (q := 1) rfl rfl (by omega)) ?_
    refine ho_val rfl rfl (ex_assign rfl) ?_
    refine ho_nil ?_
    refine hk_then_normal ?_
    exact hk_round (k + 1) (by omega) (by omega) ⟨rfl, rfl, rfl, rfl, trivial⟩ _ (by decide) (.cons 0 rfl (.cons 1 rfl (.cons 2 rfl .nil)))
  · try simp only [decide_eq_true_eq, decide_eq_false_iff_not, beq_iff_eq, beq_eq_false_iff_ne, bne_iff_ne, bne_eq_false_iff_eq, ne_eq, Int.not_lt, Int.not_le, gt_iff_lt, ge_iff_le] at hc0
    obtain rfl : k = 32 := by omega
    refine hl_exit ?_
    refine hk_then_exit ?_
    refine hk_then_exit ?_
    refine hk_block_hit ?_
    refine hk_then_code ?_
    refine hl_seq ?_
    refine hl_region ?_
    refine ho_val rfl rfl (ex_load_row rfl 0 rfl rfl Tryd.underlying28 rfl (by rw [size28, vbs_size, hF])) ?_
    refine ho_do rfl rfl (exw_store_row1 rfl rfl (by rw [size28, vbs_size, hF]) (by simp [vbs_size, hF]) (vbs_one _)) (fun _ _ => ?_)
    refine ho_nil ?_
    refine hk_then_code ?_
    refine hl_ret ?_
    exact hk_ret_row rfl rfl 1 rfl rfl Tryd.underlying28 rfl (by rw [size28, vbs_size, hF]) (fun w' hw' => ⟨rfl, hw'.below⟩)

end Go.Proofs.YtdmagjelmhcemaaDoor
