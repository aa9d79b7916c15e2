/- digest.Read: what it answers. -/
import Derived.Test.YtdmagjelmhcemaaRows
import Derived.Test.YtdmagjelmhcemaaFacts
import Derived.Test.YtdmagjelmhcemaaB
import Derived.Test.YtdmagjelmhcemaaRead
import Derived.Test.YtdmagjelmhcemaaRange
import Derived.Test.YtdmagjelmhcemaaUnHex
import Derived.Test.YtdmagjelmhcemaaUnBase32
import Derived.Test.YtdmagjelmhcemaaUnBase64
import Derived.KernelRfl
import Derived.Test.YtdmagjelmhcemaaPrefix
namespace Go.Proofs.Ytdmagjelmhcemaa
open Go.RowKit
set_option linter.unusedVariables false
set_option linter.unusedSimpArgs false

set_option maxHeartbeats 800000 in
set_option maxRecDepth 4000 in
theorem read_any (L : List UInt8) (hl : L.length ≤ 4194304) (w : World) :
    Calls Try.prog 26 #[Value.string (bs L)] w fun e w' => e = .returned (rdVal (rdOf L)) ∧ Below w.heap.size w w' := by
  refine calls_enter (n := 77) (hs := []) (M := []) (vs := [Value.string (bs L)]) Try.func26 rfl rfl rfl (Hp.start w) ?_
  refine hl_seq ?_
  refine hl_region ?_
  refine ho_do rfl rfl (exw_alloc_cs (z := .agg (vbs (List.replicate 32 0))) (vbs (List.replicate 32 0)) (by kernel_rfl) rfl) (fun b2 hb2 => ?_)
  refine ho_val rfl rfl (ex_assign rfl) ?_
  refine ho_val rfl rfl (ex_assign rfl) ?_
  refine ho_val rfl rfl (ex_assign rfl) ?_
  refine ho_nil ?_
  refine hk_then_code ?_
  refine hl_seq ?_
  refine hl_region ?_
  refine ho_do rfl rfl (exw_alloc_cs (z := .agg (vbs (List.replicate 32 0))) (vbs (List.replicate 32 0)) (by kernel_rfl) rfl) (fun b6 hb6 => ?_)
  refine ho_nil ?_
  refine hk_then_code ?_
  refine hl_seq ?_
  refine hl_region ?_
  refine ho_val rfl rfl (ex_assign rfl) ?_
  refine ho_nil ?_
  refine hk_then_code ?_
  refine hl_seq ?_
  refine hl_region ?_
  refine ho_val rfl rfl (ex_assign rfl) ?_
  refine ho_val rfl rfl (ex_assign rfl) ?_
  refine ho_val rfl rfl (ex_assign rfl) ?_
  refine ho_nil ?_
  refine hk_then_code ?_
  refine hl_seq ?_
  refine hl_seq ?_
  refine hl_region ?_
  refine ho_val rfl rfl (ex_move rfl) ?_
  refine ho_val rfl rfl (ex_move rfl) ?_
  refine ho_val rfl rfl (ex_len_str rfl Try.underlying9) ?_
  refine ho_val rfl rfl (ex_minN (q := 7) rfl rfl) ?_
  refine ho_val rfl rfl (ex_as (v' := .string (bs (L.drop 7))) (ex_str_lo rfl rfl Try.underlying9 (by omega)) (by rw [drop_min])) ?_
  refine ho_val rfl rfl (ex_assign rfl) ?_
  refine ho_nil ?_
  refine hk_then_code ?_
  refine hl_block ?_
  refine hl_seq ?_
  refine hl_region ?_
  refine ho_val rfl rfl (ex_move rfl) ?_
  refine ho_do rfl rfl (exw_call_pure (v := .bool (decide (L.take 7 = sha2))) Try.func39 rfl (by kernel_rfl) rfl (fun w' hw' => hasprefix_any L sha2 w')) (fun _ _ => ?_)
  refine ho_val rfl rfl (ex_assign rfl) ?_
  refine ho_nil ?_
  refine hk_then_code ?_
  refine hl_if rfl (fun hc0 => ?_) (fun hc0 => ?_)
  · try simp only [decide_eq_true_eq, decide_eq_false_iff_not, beq_iff_eq, beq_eq_false_iff_ne, bne_iff_ne, bne_eq_false_iff_eq, ne_eq, Int.not_lt, Int.not_le, gt_iff_lt, ge_iff_le, Bool.not_eq_true', Bool.not_eq_false'] at hc0
    refine hl_seq ?_
    skip
    refine hl_region ?_
    refine ho_val rfl rfl (ex_assign rfl) ?_
    refine ho_nil ?_
    refine hk_then_code ?_
    refine hl_seq ?_
    refine hl_seq ?_
    refine hl_region ?_
    refine ho_val rfl rfl (ex_move rfl) ?_
    refine ho_val rfl rfl (ex_len_str rfl Try.underlying9) ?_
    refine ho_val rfl rfl (ex_eql rfl rfl rfl) ?_
    refine ho_nil ?_
    refine hk_then_code ?_
    refine hl_if rfl (fun hc1 => ?_) (fun hc1 => ?_)
    · try simp only [decide_eq_true_eq, decide_eq_false_iff_not, beq_iff_eq, beq_eq_false_iff_ne, bne_iff_ne, bne_eq_false_iff_eq, ne_eq, Int.not_lt, Int.not_le, gt_iff_lt, ge_iff_le, Bool.not_eq_true', Bool.not_eq_false'] at hc1
      have hl44 : (L.drop 7).length = 44 := by omega
      rcases hu : un64 (L.drop 7) with b | ⟨e0, p0⟩
      · refine hl_region ?_
        refine ho_val rfl rfl (ex_move rfl) ?_
        refine ho_do rfl rfl (exw_call Try.func22 rfl (by kernel_rfl) rfl (val := fun q : Nat × Nat × List Value => .tuple #[slv (some ⟨q.1, 0, none⟩) b.length q.2.1, .int .i64 0, .int .i64 0]) (hs' := fun q => ⟨some q.1, vrow b q.2.2, 5, (0, 0)⟩ :: _) (pre := fun q => RowOk 1 (some q.1) b.length q.2.1 (b.map vb) q.2.2) (fun w' hw' => (unbase64_any (L.drop 7) (by rw [List.length_drop]; omega) w').mono fun e w2 h => by rw [hu] at h; obtain ⟨g, c, r, h1, h2, h3⟩ := h; exact ⟨(g, c, r), h1, h2, hw'.comp (A := []) (by simp) h3⟩)) (fun y hk => ?_)
        refine ho_val rfl rfl (ex_move rfl) ?_
        refine ho_val rfl rfl (ex_extract rfl rfl) ?_
        refine ho_val rfl rfl (ex_extract rfl rfl) ?_
        refine ho_val rfl rfl (ex_extract rfl rfl) ?_
        refine ho_val rfl rfl (ex_assign rfl) ?_
        refine ho_val rfl rfl (ex_assign rfl) ?_
        refine ho_val rfl rfl (ex_assign rfl) ?_
        refine ho_nil ?_
        refine hk_then_code ?_
        refine hl_seq ?_
        skip
        refine hl_region ?_
        refine ho_val rfl rfl (ex_move rfl) ?_
        refine ho_val rfl rfl (ex_eql rfl rfl rfl) ?_
        refine ho_val rfl rfl (ex_move rfl) ?_
        refine ho_want rfl rfl rfl rfl rfl (ex_move rfl) ?_
        refine ho_want rfl rfl rfl rfl rfl (ex_len_slice rfl Try.underlying28) ?_
        refine ho_want rfl rfl rfl rfl rfl (ex_neq rfl rfl rfl) ?_
        refine ho_val rfl rfl (ex_pick_true rfl rfl) ?_
        refine ho_nil ?_
        refine hk_then_code ?_
        refine hl_if rfl (fun hc2 => ?_) (fun hc2 => ?_)
        · try simp only [decide_eq_true_eq, decide_eq_false_iff_not, beq_iff_eq, beq_eq_false_iff_ne, bne_iff_ne, bne_eq_false_iff_eq, ne_eq, Int.not_lt, Int.not_le, gt_iff_lt, ge_iff_le, Bool.not_eq_true', Bool.not_eq_false'] at hc2
          have hb32 : ¬ b.length = 32 := by omega
          skip
          refine hl_region ?_
          refine ho_val rfl rfl (ex_assign rfl) ?_
          refine ho_val rfl rfl (ex_assign rfl) ?_
          refine ho_nil ?_
          refine hk_block_normal ?_
          refine hk_then_code ?_
          refine hl_seq ?_
          refine hl_seq ?_
          refine hl_region ?_
          refine ho_val rfl rfl (ex_move rfl) ?_
          refine ho_val rfl rfl (ex_neq rfl rfl rfl) ?_
          refine ho_nil ?_
          refine hk_then_code ?_
          refine hl_true rfl ?_
          refine hl_seq ?_
          refine hl_region ?_
          refine ho_val rfl rfl (ex_load_row rfl 1 rfl rfl Try.underlying23 rfl (by rw [show _ = _ from size23]; simp [vbs_size, vws_size, *])) ?_
          refine ho_val rfl rfl (ex_move rfl) ?_
          refine ho_val rfl rfl (ex_move rfl) ?_
          refine ho_val rfl rfl (ex_addN (q := 7) rfl rfl (by decide)) ?_
          refine ho_do rfl rfl (exw_store_row2 rfl rfl (by rw [show _ = _ from size23]; simp [vbs_size, vws_size, *]) (by simp [vbs_size, vws_size, *]) (vbs_one _)) (fun _ _ => ?_)
          refine ho_val rfl rfl (ex_assign rfl) ?_
          refine ho_val rfl rfl (ex_assign rfl) ?_
          refine ho_val rfl rfl (ex_assign rfl) ?_
          refine ho_nil ?_
          refine hk_then_code ?_
          refine hl_ret ?_
          refine hk_then_ret ?_
          exact hk_ret_row4 rfl rfl 2 rfl rfl Try.underlying23 rfl (by rw [show _ = _ from size23]; simp [vbs_size, vws_size, *]) rfl rfl rfl (fun w' hw' => ⟨by rw [rd_64len hc0 hl44 hu hb32]; rfl, hw'.below⟩)
        · try simp only [decide_eq_true_eq, decide_eq_false_iff_not, beq_iff_eq, beq_eq_false_iff_ne, bne_iff_ne, bne_eq_false_iff_eq, ne_eq, Int.not_lt, Int.not_le, gt_iff_lt, ge_iff_le, Bool.not_eq_true', Bool.not_eq_false'] at hc2
          have hb32 : b.length = 32 := by omega
          refine hl_skip ?_
          refine hk_block_normal ?_
          refine hk_then_code ?_
          refine hl_seq ?_
          refine hl_seq ?_
          refine hl_region ?_
          refine ho_val rfl rfl (ex_move rfl) ?_
          refine ho_val rfl rfl (ex_neq rfl rfl rfl) ?_
          refine ho_nil ?_
          refine hk_then_code ?_
          refine hl_false rfl ?_
          refine hl_skip ?_
          refine hk_then_code ?_
          refine hl_seq ?_
          skip
          have hp32 : (vbs (List.replicate 32 0)).size = 32 := rfl
          refine hl_region ?_
          refine ho_val rfl rfl (ex_slice_arr rfl Try.underlying23 _ size5) ?_
          refine ho_val rfl rfl (ex_move rfl) ?_
          refine ho_pick _ (by decide) (.cons 1 rfl (.cons 0 rfl (.cons 2 rfl .nil))) ?_
          refine ho_do rfl rfl (exw_copy0 rfl rfl (fun w hw => Sl.own hw 1 rfl rfl (vrow_own _ _)) (by rw [List.length_map, hb32]; rfl) (map_vb_one _) Try.underlying28 size5 (by rw [List.length_map, hb32]; decide) (fun h => nomatch h) rfl (copy_all hb32)) (fun _ _ => ?_)
          refine ho_nil ?_
          refine hk_then_code ?_
          refine hl_seq ?_
          refine hl_region ?_
          refine ho_val rfl rfl (ex_load_row rfl 0 rfl rfl Try.underlying23 rfl (by rw [show _ = _ from size23]; simp [vbs_size, vws_size, *])) ?_
          refine ho_val rfl rfl (ex_move rfl) ?_
          refine ho_do rfl rfl (exw_store_row2 rfl rfl (by rw [show _ = _ from size23]; simp [vbs_size, vws_size, *]) (by simp [vbs_size, vws_size, *]) (vbs_one _)) (fun _ _ => ?_)
          refine ho_val rfl rfl (ex_assign rfl) ?_
          refine ho_val rfl rfl (ex_assign rfl) ?_
          refine ho_val rfl rfl (ex_assign rfl) ?_
          refine ho_nil ?_
          refine hk_then_code ?_
          refine hl_ret ?_
          exact hk_ret_row4 rfl rfl 2 rfl rfl Try.underlying23 rfl (by rw [show _ = _ from size23]; simp [vbs_size, vws_size, *]) rfl rfl rfl (fun w' hw' => ⟨by rw [rd_64ok hc0 hl44 hu hb32]; rfl, hw'.below⟩)
      · refine hl_region ?_
        refine ho_val rfl rfl (ex_move rfl) ?_
        refine ho_do rfl rfl (exw_call_pure (v := .tuple #[.slice none 0 0, .int .i64 (e0 : Int), .int .i64 (p0 : Int)]) Try.func22 rfl (by kernel_rfl) rfl (fun w' hw' => by have h := unbase64_any (L.drop 7) (by rw [List.length_drop]; omega) w'; rw [hu] at h; exact h)) (fun _ _ => ?_)
        refine ho_val rfl rfl (ex_move rfl) ?_
        refine ho_val rfl rfl (ex_extract rfl rfl) ?_
        refine ho_val rfl rfl (ex_extract rfl rfl) ?_
        refine ho_val rfl rfl (ex_extract rfl rfl) ?_
        refine ho_val rfl rfl (ex_assign rfl) ?_
        refine ho_val rfl rfl (ex_assign rfl) ?_
        refine ho_val rfl rfl (ex_assign rfl) ?_
        refine ho_nil ?_
        refine hk_then_code ?_
        refine hl_seq ?_
        skip
        refine hl_region ?_
        refine ho_val rfl rfl (ex_move rfl) ?_
        refine ho_val rfl rfl (ex_eql (b := false) rfl rfl (beq_false_of_ne (by have := (un64_err hu).1; omega))) ?_
        refine ho_val rfl rfl (ex_move rfl) ?_
        refine ho_skip rfl rfl rfl rfl rfl rfl ?_
        refine ho_skip rfl rfl rfl rfl rfl rfl ?_
        refine ho_skip rfl rfl rfl rfl rfl rfl ?_
        refine ho_val rfl rfl (ex_pick_false rfl rfl) ?_
        refine ho_nil ?_
        refine hk_then_code ?_
        refine hl_false rfl ?_
        refine hl_skip ?_
        refine hk_block_normal ?_
        refine hk_then_code ?_
        refine hl_seq ?_
        refine hl_seq ?_
        refine hl_region ?_
        refine ho_val rfl rfl (ex_move rfl) ?_
        refine ho_val rfl rfl (ex_neq (b := true) rfl rfl (bne_iff_ne.2 (by have := (un64_err hu).1; omega))) ?_
        refine ho_nil ?_
        refine hk_then_code ?_
        refine hl_true rfl ?_
        refine hl_seq ?_
        refine hl_region ?_
        refine ho_val rfl rfl (ex_load_row rfl 0 rfl rfl Try.underlying23 rfl (by rw [show _ = _ from size23]; simp [vbs_size, vws_size, *])) ?_
        refine ho_val rfl rfl (ex_move rfl) ?_
        refine ho_val rfl rfl (ex_move rfl) ?_
        refine ho_val rfl rfl (ex_addN (q := 7) rfl rfl (by have := (un64_err hu).2; rw [List.length_drop] at this; omega)) ?_
        refine ho_do rfl rfl (exw_store_row1 rfl rfl (by rw [show _ = _ from size23]; simp [vbs_size, vws_size, *]) (by simp [vbs_size, vws_size, *]) (vbs_one _)) (fun _ _ => ?_)
        refine ho_val rfl rfl (ex_assign rfl) ?_
        refine ho_val rfl rfl (ex_assign rfl) ?_
        refine ho_val rfl rfl (ex_assign rfl) ?_
        refine ho_nil ?_
        refine hk_then_code ?_
        refine hl_ret ?_
        refine hk_then_ret ?_
        exact hk_ret_row4 rfl rfl 1 rfl rfl Try.underlying23 rfl (by rw [show _ = _ from size23]; simp [vbs_size, vws_size, *]) rfl rfl rfl (fun w' hw' => ⟨by rw [rd_64err hc0 hl44 hu]; rfl, hw'.below⟩)
    · try simp only [decide_eq_true_eq, decide_eq_false_iff_not, beq_iff_eq, beq_eq_false_iff_ne, bne_iff_ne, bne_eq_false_iff_eq, ne_eq, Int.not_lt, Int.not_le, gt_iff_lt, ge_iff_le, Bool.not_eq_true', Bool.not_eq_false'] at hc1
      have hl44 : ¬ (L.drop 7).length = 44 := by omega
      refine hl_skip ?_
      refine hk_then_code ?_
      refine hl_seq ?_
      skip
      refine hl_region ?_
      refine ho_val rfl rfl (ex_move rfl) ?_
      refine ho_val rfl rfl (ex_eql rfl rfl rfl) ?_
      refine ho_val rfl rfl (ex_move rfl) ?_
      refine ho_skip rfl rfl rfl rfl rfl rfl ?_
      refine ho_skip rfl rfl rfl rfl rfl rfl ?_
      refine ho_skip rfl rfl rfl rfl rfl rfl ?_
      refine ho_val rfl rfl (ex_pick_false rfl rfl) ?_
      refine ho_nil ?_
      refine hk_then_code ?_
      refine hl_false rfl ?_
      refine hl_skip ?_
      refine hk_block_normal ?_
      refine hk_then_code ?_
      refine hl_seq ?_
      refine hl_seq ?_
      refine hl_region ?_
      refine ho_val rfl rfl (ex_move rfl) ?_
      refine ho_val rfl rfl (ex_neq rfl rfl rfl) ?_
      refine ho_nil ?_
      refine hk_then_code ?_
      refine hl_true rfl ?_
      refine hl_seq ?_
      refine hl_region ?_
      refine ho_val rfl rfl (ex_load_row rfl 0 rfl rfl Try.underlying23 rfl (by rw [show _ = _ from size23]; simp [vbs_size, vws_size, *])) ?_
      refine ho_val rfl rfl (ex_move rfl) ?_
      refine ho_val rfl rfl (ex_move rfl) ?_
      refine ho_val rfl rfl (ex_addN (q := 7) rfl rfl (by decide)) ?_
      refine ho_do rfl rfl (exw_store_row1 rfl rfl (by rw [show _ = _ from size23]; simp [vbs_size, vws_size, *]) (by simp [vbs_size, vws_size, *]) (vbs_one _)) (fun _ _ => ?_)
      refine ho_val rfl rfl (ex_assign rfl) ?_
      refine ho_val rfl rfl (ex_assign rfl) ?_
      refine ho_val rfl rfl (ex_assign rfl) ?_
      refine ho_nil ?_
      refine hk_then_code ?_
      refine hl_ret ?_
      refine hk_then_ret ?_
      exact hk_ret_row4 rfl rfl 1 rfl rfl Try.underlying23 rfl (by rw [show _ = _ from size23]; simp [vbs_size, vws_size, *]) rfl rfl rfl (fun w' hw' => ⟨by rw [rd_64not hc0 hl44]; rfl, hw'.below⟩)
  · try simp only [decide_eq_true_eq, decide_eq_false_iff_not, beq_iff_eq, beq_eq_false_iff_ne, bne_iff_ne, bne_eq_false_iff_eq, ne_eq, Int.not_lt, Int.not_le, gt_iff_lt, ge_iff_le, Bool.not_eq_true', Bool.not_eq_false'] at hc0
    refine hl_seq ?_
    refine hl_region ?_
    refine ho_val rfl rfl (ex_move rfl) ?_
    refine ho_do rfl rfl (exw_call_pure (v := .bool (decide (L.take 7 = sha1))) Try.func39 rfl (by kernel_rfl) rfl (fun w' hw' => hasprefix_any L sha1 w')) (fun _ _ => ?_)
    refine ho_val rfl rfl (ex_not rfl) ?_
    refine ho_val rfl rfl (ex_assign rfl) ?_
    refine ho_nil ?_
    refine hk_then_code ?_
    refine hl_if rfl (fun hc6 => ?_) (fun hc6 => ?_)
    · try simp only [decide_eq_true_eq, decide_eq_false_iff_not, beq_iff_eq, beq_eq_false_iff_ne, bne_iff_ne, bne_eq_false_iff_eq, ne_eq, Int.not_lt, Int.not_le, gt_iff_lt, ge_iff_le, Bool.not_eq_true', Bool.not_eq_false'] at hc6
      refine hl_seq ?_
      skip
      refine hl_held _ (by kernel_rfl) (by decide) (.cons 0 rfl .nil) ?_
      refine ha_take 0 rfl (by kernel_rfl) (by kernel_rfl) (by kernel_rfl) (fun _ _ _ h => h) rfl rfl (ex_load_row rfl 0 rfl rfl Try.underlying23 rfl (by rw [show _ = _ from size23]; simp [vbs_size, vws_size, *])) ?_
      refine ha_take 1 rfl (by kernel_rfl) (by kernel_rfl) (by kernel_rfl) (fun _ _ _ h => h) rfl rfl (ex_move rfl) ?_
      refine ha_take 3 rfl (by kernel_rfl) (by kernel_rfl) (by kernel_rfl) (fun _ _ _ h => h) rfl rfl (ex_move rfl) ?_
      refine ha_do 2 rfl (by kernel_rfl) (fun a _ => wanted_none rfl a) rfl (exw_call_pure Try.func40 rfl (by kernel_rfl) rfl (fun w' hw' => common_any L sha1 hl w')) (by decide) (fun _ _ => (.cons 0 rfl .nil)) (fun _ _ => ?_)
      refine ha_do 4 rfl (by kernel_rfl) (fun a _ => wanted_none rfl a) rfl (exw_call_pure Try.func40 rfl (by kernel_rfl) rfl (fun w' hw' => common_any L sha2 hl w')) (by decide) (fun _ _ => (.cons 0 rfl .nil)) (fun _ _ => ?_)
      refine ha_take 5 rfl (by kernel_rfl) (by kernel_rfl) (by kernel_rfl) (fun _ _ _ h => h) rfl rfl (ex_maxN rfl rfl) ?_
      refine ha_do 6 rfl (by kernel_rfl) (fun a _ => wanted_none rfl a) rfl (exw_store_row1 rfl rfl (by rw [show _ = _ from size23]; simp [vbs_size, vws_size, *]) (by simp [vbs_size, vws_size, *]) (vbs_one _)) (by decide) (fun _ _ => (.cons 0 rfl .nil)) (fun _ _ => ?_)
      refine ha_take 7 rfl (by kernel_rfl) (by kernel_rfl) (by kernel_rfl) (fun _ _ _ h => h) rfl rfl (ex_assign rfl) ?_
      refine ha_take 8 rfl (by kernel_rfl) (by kernel_rfl) (by kernel_rfl) (fun _ _ _ h => h) rfl rfl (ex_assign rfl) ?_
      refine ha_take 9 rfl (by kernel_rfl) (by kernel_rfl) (by kernel_rfl) (fun _ _ _ h => h) rfl rfl (ex_assign rfl) ?_
      refine ha_done (by kernel_rfl) ?_
      refine hk_then_code ?_
      refine hl_ret ?_
      refine hk_block_ret ?_
      refine hk_then_ret ?_
      exact hk_ret_row4 rfl rfl 1 rfl rfl Try.underlying23 rfl (by rw [show _ = _ from size23]; simp [vbs_size, vws_size, *]) rfl rfl rfl (fun w' hw' => ⟨by rw [rd_none hc0 hc6]; rfl, hw'.below⟩)
    · try simp only [decide_eq_true_eq, decide_eq_false_iff_not, beq_iff_eq, beq_eq_false_iff_ne, bne_iff_ne, bne_eq_false_iff_eq, ne_eq, Int.not_lt, Int.not_le, gt_iff_lt, ge_iff_le, Bool.not_eq_true', Bool.not_eq_false'] at hc6
      have hcolon : L.take 7 = sha1 := by simpa using hc6
      refine hl_seq ?_
      skip
      refine hl_region ?_
      refine ho_val rfl rfl (ex_move rfl) ?_
      refine ho_val rfl rfl (ex_len_str rfl Try.underlying9) ?_
      refine ho_val rfl rfl (ex_eql rfl rfl rfl) ?_
      refine ho_val rfl rfl (ex_assign rfl) ?_
      refine ho_nil ?_
      refine hk_then_code ?_
      refine hl_if rfl (fun hc7 => ?_) (fun hc7 => ?_)
      · try simp only [decide_eq_true_eq, decide_eq_false_iff_not, beq_iff_eq, beq_eq_false_iff_ne, bne_iff_ne, bne_eq_false_iff_eq, ne_eq, Int.not_lt, Int.not_le, gt_iff_lt, ge_iff_le, Bool.not_eq_true', Bool.not_eq_false'] at hc7
        have hl64 : (L.drop 7).length = 64 := by omega
        rcases hu : un16 (L.drop 7) with b | ⟨e0, p0⟩
        · refine hl_region ?_
          refine ho_val rfl rfl (ex_move rfl) ?_
          refine ho_do rfl rfl (exw_call Try.func20 rfl (by kernel_rfl) rfl (val := fun q : Nat × Nat × List Value => .tuple #[slv (some ⟨q.1, 0, none⟩) b.length q.2.1, .int .i64 0, .int .i64 0]) (hs' := fun q => ⟨some q.1, vrow b q.2.2, 5, (0, 0)⟩ :: _) (pre := fun q => RowOk 1 (some q.1) b.length q.2.1 (b.map vb) q.2.2) (fun w' hw' => (unhex_any (L.drop 7) (by rw [List.length_drop]; omega) w').mono fun e w2 h => by rw [hu] at h; obtain ⟨g, c, r, h1, h2, h3⟩ := h; exact ⟨(g, c, r), h1, h2, hw'.comp (A := []) (by simp) h3⟩)) (fun y hk => ?_)
          refine ho_val rfl rfl (ex_move rfl) ?_
          refine ho_val rfl rfl (ex_extract rfl rfl) ?_
          refine ho_val rfl rfl (ex_extract rfl rfl) ?_
          refine ho_val rfl rfl (ex_extract rfl rfl) ?_
          refine ho_val rfl rfl (ex_assign rfl) ?_
          refine ho_val rfl rfl (ex_assign rfl) ?_
          refine ho_val rfl rfl (ex_assign rfl) ?_
          refine ho_nil ?_
          refine hk_block_normal ?_
          refine hk_then_code ?_
          refine hl_seq ?_
          refine hl_seq ?_
          refine hl_region ?_
          refine ho_val rfl rfl (ex_move rfl) ?_
          refine ho_val rfl rfl (ex_neq rfl rfl rfl) ?_
          refine ho_nil ?_
          refine hk_then_code ?_
          refine hl_false rfl ?_
          refine hl_skip ?_
          refine hk_then_code ?_
          refine hl_seq ?_
          have hb32 := un16_len hu hl64
          have hp32 : (vbs (List.replicate 32 0)).size = 32 := rfl
          refine hl_region ?_
          refine ho_val rfl rfl (ex_slice_arr rfl Try.underlying23 _ size5) ?_
          refine ho_val rfl rfl (ex_move rfl) ?_
          refine ho_pick _ (by decide) (.cons 1 rfl (.cons 0 rfl (.cons 2 rfl .nil))) ?_
          refine ho_do rfl rfl (exw_copy0 rfl rfl (fun w hw => Sl.own hw 1 rfl rfl (vrow_own _ _)) (by rw [List.length_map, hb32]; rfl) (map_vb_one _) Try.underlying28 size5 (by rw [List.length_map, hb32]; decide) (fun h => nomatch h) rfl (copy_all hb32)) (fun _ _ => ?_)
          refine ho_nil ?_
          refine hk_then_code ?_
          refine hl_seq ?_
          refine hl_region ?_
          refine ho_val rfl rfl (ex_load_row rfl 0 rfl rfl Try.underlying23 rfl (by rw [show _ = _ from size23]; simp [vbs_size, vws_size, *])) ?_
          refine ho_val rfl rfl (ex_move rfl) ?_
          refine ho_do rfl rfl (exw_store_row2 rfl rfl (by rw [show _ = _ from size23]; simp [vbs_size, vws_size, *]) (by simp [vbs_size, vws_size, *]) (vbs_one _)) (fun _ _ => ?_)
          refine ho_val rfl rfl (ex_assign rfl) ?_
          refine ho_val rfl rfl (ex_assign rfl) ?_
          refine ho_val rfl rfl (ex_assign rfl) ?_
          refine ho_nil ?_
          refine hk_then_code ?_
          refine hl_ret ?_
          exact hk_ret_row4 rfl rfl 2 rfl rfl Try.underlying23 rfl (by rw [show _ = _ from size23]; simp [vbs_size, vws_size, *]) rfl rfl rfl (fun w' hw' => ⟨by rw [rd_16ok hc0 hcolon hl64 hu]; rfl, hw'.below⟩)
        · refine hl_region ?_
          refine ho_val rfl rfl (ex_move rfl) ?_
          refine ho_do rfl rfl (exw_call_pure (v := .tuple #[.slice none 0 0, .int .i64 (e0 : Int), .int .i64 (p0 : Int)]) Try.func20 rfl (by kernel_rfl) rfl (fun w' hw' => by have h := unhex_any (L.drop 7) (by rw [List.length_drop]; omega) w'; rw [hu] at h; exact h)) (fun _ _ => ?_)
          refine ho_val rfl rfl (ex_move rfl) ?_
          refine ho_val rfl rfl (ex_extract rfl rfl) ?_
          refine ho_val rfl rfl (ex_extract rfl rfl) ?_
          refine ho_val rfl rfl (ex_extract rfl rfl) ?_
          refine ho_val rfl rfl (ex_assign rfl) ?_
          refine ho_val rfl rfl (ex_assign rfl) ?_
          refine ho_val rfl rfl (ex_assign rfl) ?_
          refine ho_nil ?_
          refine hk_block_normal ?_
          refine hk_then_code ?_
          refine hl_seq ?_
          refine hl_seq ?_
          refine hl_region ?_
          refine ho_val rfl rfl (ex_move rfl) ?_
          refine ho_val rfl rfl (ex_neq (b := true) rfl rfl (bne_iff_ne.2 (by have := (un16_err hu).1; omega))) ?_
          refine ho_nil ?_
          refine hk_then_code ?_
          refine hl_true rfl ?_
          refine hl_seq ?_
          refine hl_region ?_
          refine ho_val rfl rfl (ex_load_row rfl 0 rfl rfl Try.underlying23 rfl (by rw [show _ = _ from size23]; simp [vbs_size, vws_size, *])) ?_
          refine ho_val rfl rfl (ex_move rfl) ?_
          refine ho_val rfl rfl (ex_move rfl) ?_
          refine ho_val rfl rfl (ex_addN (q := 7) rfl rfl (by have := (un16_err hu).2; rw [List.length_drop] at this; omega)) ?_
          refine ho_do rfl rfl (exw_store_row1 rfl rfl (by rw [show _ = _ from size23]; simp [vbs_size, vws_size, *]) (by simp [vbs_size, vws_size, *]) (vbs_one _)) (fun _ _ => ?_)
          refine ho_val rfl rfl (ex_assign rfl) ?_
          refine ho_val rfl rfl (ex_assign rfl) ?_
          refine ho_val rfl rfl (ex_assign rfl) ?_
          refine ho_nil ?_
          refine hk_then_code ?_
          refine hl_ret ?_
          refine hk_then_ret ?_
          exact hk_ret_row4 rfl rfl 1 rfl rfl Try.underlying23 rfl (by rw [show _ = _ from size23]; simp [vbs_size, vws_size, *]) rfl rfl rfl (fun w' hw' => ⟨by rw [rd_16err hc0 hcolon hl64 hu]; rfl, hw'.below⟩)
      · try simp only [decide_eq_true_eq, decide_eq_false_iff_not, beq_iff_eq, beq_eq_false_iff_ne, bne_iff_ne, bne_eq_false_iff_eq, ne_eq, Int.not_lt, Int.not_le, gt_iff_lt, ge_iff_le, Bool.not_eq_true', Bool.not_eq_false'] at hc7
        have hl64 : ¬ (L.drop 7).length = 64 := by omega
        refine hl_seq ?_
        refine hl_region ?_
        refine ho_val rfl rfl (ex_move rfl) ?_
        refine ho_val rfl rfl (ex_len_str rfl Try.underlying9) ?_
        refine ho_val rfl rfl (ex_eql rfl rfl rfl) ?_
        refine ho_val rfl rfl (ex_assign rfl) ?_
        refine ho_nil ?_
        refine hk_then_code ?_
        refine hl_if rfl (fun hc9 => ?_) (fun hc9 => ?_)
        · try simp only [decide_eq_true_eq, decide_eq_false_iff_not, beq_iff_eq, beq_eq_false_iff_ne, bne_iff_ne, bne_eq_false_iff_eq, ne_eq, Int.not_lt, Int.not_le, gt_iff_lt, ge_iff_le, Bool.not_eq_true', Bool.not_eq_false'] at hc9
          have hl52 : (L.drop 7).length = 52 := by omega
          refine hl_seq ?_
          refine hl_region ?_
          refine ho_val rfl rfl (ex_assign rfl) ?_
          refine ho_nil ?_
          refine hk_then_code ?_
          rcases hu : un32 (L.drop 7) with b | ⟨e0, p0⟩
          · refine hl_region ?_
            refine ho_val rfl rfl (ex_move rfl) ?_
            refine ho_do rfl rfl (exw_call Try.func21 rfl (by kernel_rfl) rfl (val := fun q : Nat × Nat × List Value => .tuple #[slv (some ⟨q.1, 0, none⟩) b.length q.2.1, .int .i64 0, .int .i64 0]) (hs' := fun q => ⟨some q.1, vrow b q.2.2, 5, (0, 0)⟩ :: _) (pre := fun q => RowOk 1 (some q.1) b.length q.2.1 (b.map vb) q.2.2) (fun w' hw' => (unbase32_any (L.drop 7) (by rw [List.length_drop]; omega) w').mono fun e w2 h => by rw [hu] at h; obtain ⟨g, c, r, h1, h2, h3⟩ := h; exact ⟨(g, c, r), h1, h2, hw'.comp (A := []) (by simp) h3⟩)) (fun y hk => ?_)
            refine ho_val rfl rfl (ex_move rfl) ?_
            refine ho_val rfl rfl (ex_extract rfl rfl) ?_
            refine ho_val rfl rfl (ex_extract rfl rfl) ?_
            refine ho_val rfl rfl (ex_extract rfl rfl) ?_
            refine ho_val rfl rfl (ex_assign rfl) ?_
            refine ho_val rfl rfl (ex_assign rfl) ?_
            refine ho_val rfl rfl (ex_assign rfl) ?_
            refine ho_nil ?_
            refine hk_block_normal ?_
            refine hk_then_code ?_
            refine hl_seq ?_
            refine hl_seq ?_
            refine hl_region ?_
            refine ho_val rfl rfl (ex_move rfl) ?_
            refine ho_val rfl rfl (ex_neq rfl rfl rfl) ?_
            refine ho_nil ?_
            refine hk_then_code ?_
            refine hl_false rfl ?_
            refine hl_skip ?_
            refine hk_then_code ?_
            refine hl_seq ?_
            have hb32 := un32_len hu hl52
            have hp32 : (vbs (List.replicate 32 0)).size = 32 := rfl
            refine hl_region ?_
            refine ho_val rfl rfl (ex_slice_arr rfl Try.underlying23 _ size5) ?_
            refine ho_val rfl rfl (ex_move rfl) ?_
            refine ho_pick _ (by decide) (.cons 1 rfl (.cons 0 rfl (.cons 2 rfl .nil))) ?_
            refine ho_do rfl rfl (exw_copy0 rfl rfl (fun w hw => Sl.own hw 1 rfl rfl (vrow_own _ _)) (by rw [List.length_map, hb32]; rfl) (map_vb_one _) Try.underlying28 size5 (by rw [List.length_map, hb32]; decide) (fun h => nomatch h) rfl (copy_all hb32)) (fun _ _ => ?_)
            refine ho_nil ?_
            refine hk_then_code ?_
            refine hl_seq ?_
            refine hl_region ?_
            refine ho_val rfl rfl (ex_load_row rfl 0 rfl rfl Try.underlying23 rfl (by rw [show _ = _ from size23]; simp [vbs_size, vws_size, *])) ?_
            refine ho_val rfl rfl (ex_move rfl) ?_
            refine ho_do rfl rfl (exw_store_row2 rfl rfl (by rw [show _ = _ from size23]; simp [vbs_size, vws_size, *]) (by simp [vbs_size, vws_size, *]) (vbs_one _)) (fun _ _ => ?_)
            refine ho_val rfl rfl (ex_assign rfl) ?_
            refine ho_val rfl rfl (ex_assign rfl) ?_
            refine ho_val rfl rfl (ex_assign rfl) ?_
            refine ho_nil ?_
            refine hk_then_code ?_
            refine hl_ret ?_
            exact hk_ret_row4 rfl rfl 2 rfl rfl Try.underlying23 rfl (by rw [show _ = _ from size23]; simp [vbs_size, vws_size, *]) rfl rfl rfl (fun w' hw' => ⟨by rw [rd_32ok hc0 hcolon hl52 hu]; rfl, hw'.below⟩)
          · refine hl_region ?_
            refine ho_val rfl rfl (ex_move rfl) ?_
            refine ho_do rfl rfl (exw_call_pure (v := .tuple #[.slice none 0 0, .int .i64 (e0 : Int), .int .i64 (p0 : Int)]) Try.func21 rfl (by kernel_rfl) rfl (fun w' hw' => by have h := unbase32_any (L.drop 7) (by rw [List.length_drop]; omega) w'; rw [hu] at h; exact h)) (fun _ _ => ?_)
            refine ho_val rfl rfl (ex_move rfl) ?_
            refine ho_val rfl rfl (ex_extract rfl rfl) ?_
            refine ho_val rfl rfl (ex_extract rfl rfl) ?_
            refine ho_val rfl rfl (ex_extract rfl rfl) ?_
            refine ho_val rfl rfl (ex_assign rfl) ?_
            refine ho_val rfl rfl (ex_assign rfl) ?_
            refine ho_val rfl rfl (ex_assign rfl) ?_
            refine ho_nil ?_
            refine hk_block_normal ?_
            refine hk_then_code ?_
            refine hl_seq ?_
            refine hl_seq ?_
            refine hl_region ?_
            refine ho_val rfl rfl (ex_move rfl) ?_
            refine ho_val rfl rfl (ex_neq (b := true) rfl rfl (bne_iff_ne.2 (by have := (un32_err hu).1; omega))) ?_
            refine ho_nil ?_
            refine hk_then_code ?_
            refine hl_true rfl ?_
            refine hl_seq ?_
            refine hl_region ?_
            refine ho_val rfl rfl (ex_load_row rfl 0 rfl rfl Try.underlying23 rfl (by rw [show _ = _ from size23]; simp [vbs_size, vws_size, *])) ?_
            refine ho_val rfl rfl (ex_move rfl) ?_
            refine ho_val rfl rfl (ex_move rfl) ?_
            refine ho_val rfl rfl (ex_addN (q := 7) rfl rfl (by have := (un32_err hu).2; rw [List.length_drop] at this; omega)) ?_
            refine ho_do rfl rfl (exw_store_row1 rfl rfl (by rw [show _ = _ from size23]; simp [vbs_size, vws_size, *]) (by simp [vbs_size, vws_size, *]) (vbs_one _)) (fun _ _ => ?_)
            refine ho_val rfl rfl (ex_assign rfl) ?_
            refine ho_val rfl rfl (ex_assign rfl) ?_
            refine ho_val rfl rfl (ex_assign rfl) ?_
            refine ho_nil ?_
            refine hk_then_code ?_
            refine hl_ret ?_
            refine hk_then_ret ?_
            exact hk_ret_row4 rfl rfl 1 rfl rfl Try.underlying23 rfl (by rw [show _ = _ from size23]; simp [vbs_size, vws_size, *]) rfl rfl rfl (fun w' hw' => ⟨by rw [rd_32err hc0 hcolon hl52 hu]; rfl, hw'.below⟩)
        · try simp only [decide_eq_true_eq, decide_eq_false_iff_not, beq_iff_eq, beq_eq_false_iff_ne, bne_iff_ne, bne_eq_false_iff_eq, ne_eq, Int.not_lt, Int.not_le, gt_iff_lt, ge_iff_le, Bool.not_eq_true', Bool.not_eq_false'] at hc9
          have hl52 : ¬ (L.drop 7).length = 52 := by omega
          refine hl_skip ?_
          refine hk_block_normal ?_
          refine hk_then_code ?_
          refine hl_seq ?_
          refine hl_seq ?_
          refine hl_region ?_
          refine ho_val rfl rfl (ex_move rfl) ?_
          refine ho_val rfl rfl (ex_neq rfl rfl rfl) ?_
          refine ho_nil ?_
          refine hk_then_code ?_
          refine hl_true rfl ?_
          refine hl_seq ?_
          refine hl_region ?_
          refine ho_val rfl rfl (ex_load_row rfl 0 rfl rfl Try.underlying23 rfl (by rw [show _ = _ from size23]; simp [vbs_size, vws_size, *])) ?_
          refine ho_val rfl rfl (ex_move rfl) ?_
          refine ho_val rfl rfl (ex_move rfl) ?_
          refine ho_val rfl rfl (ex_addN (q := 7) rfl rfl (by decide)) ?_
          refine ho_do rfl rfl (exw_store_row1 rfl rfl (by rw [show _ = _ from size23]; simp [vbs_size, vws_size, *]) (by simp [vbs_size, vws_size, *]) (vbs_one _)) (fun _ _ => ?_)
          refine ho_val rfl rfl (ex_assign rfl) ?_
          refine ho_val rfl rfl (ex_assign rfl) ?_
          refine ho_val rfl rfl (ex_assign rfl) ?_
          refine ho_nil ?_
          refine hk_then_code ?_
          refine hl_ret ?_
          refine hk_then_ret ?_
          exact hk_ret_row4 rfl rfl 1 rfl rfl Try.underlying23 rfl (by rw [show _ = _ from size23]; simp [vbs_size, vws_size, *]) rfl rfl rfl (fun w' hw' => ⟨by rw [rd_form hc0 hcolon hl64 hl52]; rfl, hw'.below⟩)

end Go.Proofs.Ytdmagjelmhcemaa
