/- Compare, of the labels and of the document; the law LabelPrints, walked. -/
import Derived.Test.YtoegpjcekdafoaaPrints
import Derived.Test.YtoegpjcekdafoaaCmp
namespace Go.Proofs.Ytoegpjcekdafoaa
open Go.RowKit
set_option linter.unusedVariables false
set_option linter.unusedSimpArgs false

set_option maxHeartbeats 400000 in
theorem or2_any (a b : Int) (gb : Nat) (w : World) (hS : Sl w (some ⟨gb, 0, none⟩) [.int .i64 a, .int .i64 b]) :
    Calls Try.prog 38 #[slv (some ⟨gb, 0, none⟩) 2 2] w fun e w' => e = .returned (.int .i64 (if a ≠ 0 then a else b)) ∧ Below w.heap.size w w' := by
  refine calls_enter (n := 18) (hs := []) (M := []) (vs := [slv (some ⟨gb, 0, none⟩) 2 2]) Try.func38 rfl rfl rfl (Hp.start w) ?_
  refine hl_seq ?_
  refine hl_region ?_
  refine ho_val rfl rfl (ex_assign rfl) ?_
  refine ho_nil ?_
  refine hk_then_code ?_
  refine hl_seq ?_
  refine hl_region ?_
  refine ho_val rfl rfl (ex_assign rfl) ?_
  refine ho_nil ?_
  refine hk_then_code ?_
  refine hl_seq ?_
  refine hl_seq ?_
  refine hl_region ?_
  refine ho_val rfl rfl (ex_move rfl) ?_
  refine ho_val rfl rfl (ex_len_slice rfl Try.underlying66) ?_
  refine ho_val rfl rfl (ex_move rfl) ?_
  refine ho_nil ?_
  refine hk_then_code ?_
  refine hl_block ?_
  refine hl_loop (G := Nat) (fun k => 2 - k) (fun k => k ≤ 2 ∧ ∀ j, j < k → orAt a b j = 0) (fun k => [(3, .int .i64 0), (6, slv (some ⟨gb, 0, none⟩) 2 2), (7, .int .i64 (2 : Nat)), (8, .int .i64 (k : Nat))]) (fun k => []) 0 ⟨by omega, fun j h => absurd h (by omega)⟩ ⟨rfl, rfl, rfl, rfl, trivial⟩ _ (by decide) .nil (fun k hg => ?_)
  refine hl_seq ?_
  refine hl_region ?_
  refine ho_val rfl rfl (ex_lss rfl rfl rfl) ?_
  refine ho_nil ?_
  refine hk_then_code ?_
  refine hl_seq ?_
  refine hl_if rfl (fun hc0 => ?_) (fun hc0 => ?_)
  · try simp only [decide_eq_true_eq, decide_eq_false_iff_not, beq_iff_eq, beq_eq_false_iff_ne, bne_iff_ne, bne_eq_false_iff_eq, ne_eq, Int.not_lt, Int.not_le, gt_iff_lt, ge_iff_le, Bool.not_eq_true', Bool.not_eq_false'] at hc0
    have hk5 : k < 2 := by omega
    refine hl_skip ?_
    refine hk_then_code ?_
    refine hl_seq ?_
    refine hl_block ?_
    refine hl_seq ?_
    refine hl_region ?_
    refine ho_val rfl rfl (ex_addr_sl1 rfl rfl Try.underlying66 size3 (by omega) (fun h => nomatch h)) ?_
    refine ho_val rfl rfl (ex_load_sl rfl (fun w' hw' => hS.old0 hw') (or_get a b k hk5) Try.underlying3 rfl) ?_
    refine ho_val rfl rfl (ex_assign rfl) ?_
    refine ho_nil ?_
    refine hk_then_code ?_
    refine hl_seq ?_
    refine hl_region ?_
    refine ho_val rfl rfl (ex_move rfl) ?_
    refine ho_val rfl rfl (ex_move rfl) ?_
    refine ho_val rfl rfl (ex_neq rfl rfl rfl) ?_
    refine ho_nil ?_
    refine hk_then_code ?_
    refine hl_if rfl (fun hc1 => ?_) (fun hc1 => ?_)
    · try simp only [decide_eq_true_eq, decide_eq_false_iff_not, beq_iff_eq, beq_eq_false_iff_ne, bne_iff_ne, bne_eq_false_iff_eq, ne_eq, Int.not_lt, Int.not_le, gt_iff_lt, ge_iff_le, Bool.not_eq_true', Bool.not_eq_false'] at hc1
      refine hl_seq ?_
      refine hl_region ?_
      refine ho_val rfl rfl (ex_move rfl) ?_
      refine ho_val rfl rfl (ex_assign rfl) ?_
      refine ho_nil ?_
      refine hk_then_code ?_
      refine hl_ret ?_
      refine hk_block_ret ?_
      refine hk_then_ret ?_
      refine hk_then_ret ?_
      refine hk_block_ret ?_
      refine hk_then_ret ?_
      exact hk_ret rfl rfl (fun w' hw' => ⟨by rw [or_hit a b k hk5 hg.2 hc1], hw'.below⟩)
    · try simp only [decide_eq_true_eq, decide_eq_false_iff_not, beq_iff_eq, beq_eq_false_iff_ne, bne_iff_ne, bne_eq_false_iff_eq, ne_eq, Int.not_lt, Int.not_le, gt_iff_lt, ge_iff_le, Bool.not_eq_true', Bool.not_eq_false'] at hc1
      refine hl_skip ?_
      refine hk_block_normal ?_
      refine hk_then_code ?_
      refine hl_region ?_
      refine ho_val rfl rfl (ex_addN (q := 1) rfl rfl (by omega)) ?_
      refine ho_val rfl rfl (ex_move rfl) ?_
      refine ho_nil ?_
      refine hk_then_normal ?_
      exact hk_round (k + 1) ⟨by omega, fun j hj => by rcases Nat.lt_or_ge j k with h | h; exact hg.2 j h; obtain rfl : j = k := (by omega); exact hc1⟩ (by omega) ⟨rfl, rfl, rfl, rfl, trivial⟩ _ (by decide) .nil
  · try simp only [decide_eq_true_eq, decide_eq_false_iff_not, beq_iff_eq, beq_eq_false_iff_ne, bne_iff_ne, bne_eq_false_iff_eq, ne_eq, Int.not_lt, Int.not_le, gt_iff_lt, ge_iff_le, Bool.not_eq_true', Bool.not_eq_false'] at hc0
    have hk6 : k = 2 := by have := hg.1; omega
    refine hl_exit ?_
    refine hk_then_exit ?_
    refine hk_then_exit ?_
    refine hk_block_hit ?_
    refine hk_then_code ?_
    refine hl_seq ?_
    refine hl_region ?_
    refine ho_val rfl rfl (ex_move rfl) ?_
    refine ho_val rfl rfl (ex_assign rfl) ?_
    refine ho_nil ?_
    refine hk_then_code ?_
    refine hl_ret ?_
    exact hk_ret rfl rfl (fun w' hw' => ⟨by rw [or_none a b (hk6 ▸ hg.2)], hw'.below⟩)

set_option maxHeartbeats 400000 in
theorem compare_any (x nx y ny : List UInt8) (hx : x.length = 20) (hy : y.length = 20) (w : World) :
    Calls Try.prog 16 #[Value.agg (lab x nx), Value.agg (lab y ny)] w fun e w' => e = .returned (.int .i64 (cmpLab x nx y ny)) ∧ Below w.heap.size w w' := by
  refine calls_enter (n := 20) (hs := []) (M := []) (vs := [Value.agg (lab x nx), Value.agg (lab y ny)]) Try.func16 rfl rfl rfl (Hp.start w) ?_
  refine hl_seq ?_
  refine hl_region ?_
  refine ho_do rfl rfl (exw_box_agg rfl) (fun b2 hb2 => ?_)
  refine ho_do rfl rfl (exw_box_agg rfl) (fun b3 hb3 => ?_)
  refine ho_val rfl rfl (ex_assign rfl) ?_
  refine ho_nil ?_
  refine hk_then_code ?_
  refine hl_seq ?_
  refine hl_seq ?_
  refine hl_region ?_
  refine ho_val rfl rfl (ex_load_row rfl 1 rfl rfl Try.underlying29 rfl (by rw [size29]; exact congrArg some (lab_size _ _ hx).symm)) ?_
  refine ho_val rfl rfl (ex_load_row rfl 0 rfl rfl Try.underlying29 rfl (by rw [size29]; exact congrArg some (lab_size _ _ hy).symm)) ?_
  refine ho_val rfl rfl (ex_eql_lab rfl rfl Try.underlying29 (by kernel_rfl) (by decide) (by decide) rfl rfl rfl rfl Try.underlying27 Try.underlying5 size5 size27 Try.underlying9 (by kernel_rfl) hx hy rfl) ?_
  refine ho_nil ?_
  refine hk_then_code ?_
  refine hl_if rfl (fun hc0 => ?_) (fun hc0 => ?_)
  · try simp only [decide_eq_true_eq, decide_eq_false_iff_not, beq_iff_eq, beq_eq_false_iff_ne, bne_iff_ne, bne_eq_false_iff_eq, ne_eq, Int.not_lt, Int.not_le, gt_iff_lt, ge_iff_le, Bool.not_eq_true', Bool.not_eq_false'] at hc0
    refine hl_seq ?_
    refine hl_region ?_
    refine ho_val rfl rfl (ex_assign rfl) ?_
    refine ho_nil ?_
    refine hk_then_code ?_
    refine hl_ret ?_
    refine hk_then_ret ?_
    exact hk_ret rfl rfl (fun w' hw' => ⟨by rw [cmp_same_lab (by simpa using hc0)], hw'.below⟩)
  · try simp only [decide_eq_true_eq, decide_eq_false_iff_not, beq_iff_eq, beq_eq_false_iff_ne, bne_iff_ne, bne_eq_false_iff_eq, ne_eq, Int.not_lt, Int.not_le, gt_iff_lt, ge_iff_le, Bool.not_eq_true', Bool.not_eq_false'] at hc0
    refine hl_skip ?_
    refine hk_then_code ?_
    refine hl_seq ?_
    refine hl_held _ (by kernel_rfl) (by decide) (.cons 0 rfl (.cons 1 rfl .nil)) ?_
    refine ha_take 0 rfl (by kernel_rfl) (by kernel_rfl) (by kernel_rfl) (fun _ _ _ h => h) rfl rfl (ex_load_row rfl 1 rfl rfl Try.underlying29 rfl (by rw [size29]; exact congrArg some (lab_size _ _ hx).symm)) ?_
    refine ha_take 2 rfl (by kernel_rfl) (by kernel_rfl) (by kernel_rfl) (fun _ _ _ h => h) rfl rfl (ex_load_row rfl 0 rfl rfl Try.underlying29 rfl (by rw [size29]; exact congrArg some (lab_size _ _ hy).symm)) ?_
    refine ha_take 5 rfl (by kernel_rfl) (by kernel_rfl) (by kernel_rfl) (fun _ _ _ h => h) rfl rfl (ex_field_addr rfl Try.underlying29 rfl size9 rfl) ?_
    refine ha_take 6 rfl (by kernel_rfl) (by kernel_rfl) (by kernel_rfl) (fun _ _ _ h => h) rfl rfl (ex_load rfl 1 rfl rfl (lab_name hx) Try.underlying9 rfl) ?_
    refine ha_take 7 rfl (by kernel_rfl) (by kernel_rfl) (by kernel_rfl) (fun _ _ _ h => h) rfl rfl (ex_field_addr rfl Try.underlying29 rfl size9 rfl) ?_
    refine ha_take 8 rfl (by kernel_rfl) (by kernel_rfl) (by kernel_rfl) (fun _ _ _ h => h) rfl rfl (ex_load rfl 0 rfl rfl (lab_name hy) Try.underlying9 rfl) ?_
    refine ha_do 1 rfl (by kernel_rfl) (fun a _ => wanted_none rfl a) rfl (exw_call_pure Try.func36 rfl (by kernel_rfl) rfl (fun w' hw' => digits_any x nx hx w')) (by decide) (fun _ _ => (.cons 0 rfl (.cons 1 rfl .nil))) (fun _ _ => ?_)
    refine ha_do 3 rfl (by kernel_rfl) (fun a _ => wanted_none rfl a) rfl (exw_call_pure Try.func36 rfl (by kernel_rfl) rfl (fun w' hw' => digits_any y ny hy w')) (by decide) (fun _ _ => (.cons 0 rfl (.cons 1 rfl .nil))) (fun _ _ => ?_)
    refine ha_do 4 rfl (by kernel_rfl) (fun a _ => wanted_none rfl a) rfl (exw_call_pure Try.func39 rfl (by kernel_rfl) rfl (fun w' hw' => cmpstr_any _ _ w')) (by decide) (fun _ _ => (.cons 0 rfl (.cons 1 rfl .nil))) (fun _ _ => ?_)
    refine ha_do 9 rfl (by kernel_rfl) (fun a _ => wanted_none rfl a) rfl (exw_call_pure Try.func39 rfl (by kernel_rfl) rfl (fun w' hw' => cmpstr_any _ _ w')) (by decide) (fun _ _ => (.cons 0 rfl (.cons 1 rfl .nil))) (fun _ _ => ?_)
    refine ha_do 10 rfl (by kernel_rfl) (fun a _ => wanted_none rfl a) rfl (exw_list (xs := [.tmp 12, .tmp 17]) rfl rfl rfl Try.underlying66 info3 rfl rfl (by decide)) (by decide) (fun b18 hb18 => (.cons 1 rfl (.cons 2 rfl .nil))) (fun b18 hb18 => ?_)
    refine ha_do 11 rfl (by kernel_rfl) (fun a _ => wanted_none rfl a) rfl (exw_call_pure Try.func38 rfl (by kernel_rfl) rfl (fun w' hw' => or2_any _ _ b18 w' (Sl.ownAll hw' 0 rfl))) (by decide) (fun _ _ => (.cons 1 rfl (.cons 2 rfl .nil))) (fun _ _ => ?_)
    refine ha_take 12 rfl (by kernel_rfl) (by kernel_rfl) (by kernel_rfl) (fun _ _ _ h => h) rfl rfl (ex_assign rfl) ?_
    refine ha_done (by kernel_rfl) ?_
    refine hk_then_code ?_
    refine hl_ret ?_
    exact hk_ret rfl rfl (fun w' hw' => ⟨by rw [← cmp_or hx hy], hw'.below⟩)

set_option maxHeartbeats 400000 in
theorem refcompare_any (x nx y ny : List UInt8) (hx : x.length = 20) (hy : y.length = 20) (w : World) :
    Calls Try.prog 17 #[Value.agg (lab x nx), Value.agg (lab y ny)] w fun e w' => e = .returned (.int .i64 (cmpLab x nx y ny)) ∧ Below w.heap.size w w' := by
  refine calls_enter (n := 40) (hs := []) (M := []) (vs := [Value.agg (lab x nx), Value.agg (lab y ny)]) Try.func17 rfl rfl rfl (Hp.start w) ?_
  refine hl_seq ?_
  refine hl_region ?_
  refine ho_do rfl rfl (exw_box_agg rfl) (fun b2 hb2 => ?_)
  refine ho_do rfl rfl (exw_box_agg rfl) (fun b3 hb3 => ?_)
  refine ho_val rfl rfl (ex_assign rfl) ?_
  refine ho_nil ?_
  refine hk_then_code ?_
  refine hl_seq ?_
  refine hl_seq ?_
  refine hl_region ?_
  refine ho_val rfl rfl (ex_assign rfl) ?_
  refine ho_nil ?_
  refine hk_then_code ?_
  refine hl_block ?_
  refine hl_loop (G := Nat) (fun i => 20 - i) (fun i => i ≤ 20 ∧ x.drop (20 - i) = y.drop (20 - i)) (fun i => [(2, .pointer (some ⟨b2, 0, none⟩)), (3, .pointer (some ⟨b3, 0, none⟩)), (5, .int .i64 ((19 : Int) - (i : Int)))]) (fun i => [⟨some b3, lab y ny, 29, (0, 0)⟩, ⟨some b2, lab x nx, 29, (0, 0)⟩]) 0 ⟨by omega, by rw [List.drop_of_length_le (by omega), List.drop_of_length_le (by omega)]⟩ ⟨rfl, rfl, rfl, trivial⟩ _ (by decide) (.cons 0 rfl (.cons 1 rfl .nil)) (fun i hg => ?_)
  refine hl_seq ?_
  refine hl_seq ?_
  refine hl_region ?_
  refine ho_val rfl rfl (ex_move rfl) ?_
  refine ho_val rfl rfl (ex_geq rfl rfl rfl) ?_
  refine ho_nil ?_
  refine hk_then_code ?_
  refine hl_if rfl (fun hc0 => ?_) (fun hc0 => ?_)
  · try simp only [decide_eq_true_eq, decide_eq_false_iff_not, beq_iff_eq, beq_eq_false_iff_ne, bne_iff_ne, bne_eq_false_iff_eq, ne_eq, Int.not_lt, Int.not_le, gt_iff_lt, ge_iff_le, Bool.not_eq_true', Bool.not_eq_false'] at hc0
    have hi5 : i < 20 := by have := hg.1; omega
    refine hl_skip ?_
    refine hk_then_code ?_
    refine hl_seq ?_
    refine hl_block ?_
    refine hl_seq ?_
    refine hl_seq ?_
    refine hl_still 8 (by kernel_rfl) (by kernel_rfl) ?_
    refine hs_val rfl rfl (ex_move rfl) ?_
    refine hs_val rfl rfl (ex_field_addr rfl Try.underlying29 rfl size27 rfl) ?_
    refine hs_val rfl rfl (ex_addr_arr0 (k := 19 - i) rfl (by rw [show (19 : Int) - (i : Int) = ((19 - i : Nat) : Int) by omega]; rfl) Try.underlying27 size5 (by omega)) ?_
    refine hs_val rfl rfl (ex_load rfl 1 rfl rfl (lab_get (19 - i) (by rw [hx]; omega)) Try.underlying5 rfl) ?_
    refine hs_val rfl rfl (ex_move rfl) ?_
    refine hs_val rfl rfl (ex_field_addr rfl Try.underlying29 rfl size27 rfl) ?_
    refine hs_val rfl rfl (ex_addr_arr0 (k := 19 - i) rfl (by rw [show (19 : Int) - (i : Int) = ((19 - i : Nat) : Int) by omega]; rfl) Try.underlying27 size5 (by omega)) ?_
    refine hs_val rfl rfl (ex_load rfl 0 rfl rfl (lab_get (19 - i) (by rw [hy]; omega)) Try.underlying5 rfl) ?_
    refine hs_nil ?_
    refine ho_val rfl rfl (ex_lss rfl rfl rfl) ?_
    refine ho_nil ?_
    refine hk_then_code ?_
    refine hl_if rfl (fun hc1 => ?_) (fun hc1 => ?_)
    · try simp only [decide_eq_true_eq, decide_eq_false_iff_not, beq_iff_eq, beq_eq_false_iff_ne, bne_iff_ne, bne_eq_false_iff_eq, ne_eq, Int.not_lt, Int.not_le, gt_iff_lt, ge_iff_le, Bool.not_eq_true', Bool.not_eq_false'] at hc1
      refine hl_seq ?_
      refine hl_region ?_
      refine ho_val rfl rfl (ex_assign rfl) ?_
      refine ho_nil ?_
      refine hk_then_code ?_
      refine hl_ret ?_
      refine hk_then_ret ?_
      refine hk_block_ret ?_
      refine hk_then_ret ?_
      refine hk_then_ret ?_
      refine hk_block_ret ?_
      refine hk_then_ret ?_
      exact hk_ret rfl rfl (fun w' hw' => ⟨by rw [cmpLab_less (num_less (i := 19 - i) (by omega) (by omega) (show19 hg.2 hi5) (by omega))], hw'.below⟩)
    · try simp only [decide_eq_true_eq, decide_eq_false_iff_not, beq_iff_eq, beq_eq_false_iff_ne, bne_iff_ne, bne_eq_false_iff_eq, ne_eq, Int.not_lt, Int.not_le, gt_iff_lt, ge_iff_le, Bool.not_eq_true', Bool.not_eq_false'] at hc1
      refine hl_skip ?_
      refine hk_then_code ?_
      refine hl_seq ?_
      refine hl_still 8 (by kernel_rfl) (by kernel_rfl) ?_
      refine hs_val rfl rfl (ex_move rfl) ?_
      refine hs_val rfl rfl (ex_field_addr rfl Try.underlying29 rfl size27 rfl) ?_
      refine hs_val rfl rfl (ex_addr_arr0 (k := 19 - i) rfl (by rw [show (19 : Int) - (i : Int) = ((19 - i : Nat) : Int) by omega]; rfl) Try.underlying27 size5 (by omega)) ?_
      refine hs_val rfl rfl (ex_load rfl 1 rfl rfl (lab_get (19 - i) (by rw [hx]; omega)) Try.underlying5 rfl) ?_
      refine hs_val rfl rfl (ex_move rfl) ?_
      refine hs_val rfl rfl (ex_field_addr rfl Try.underlying29 rfl size27 rfl) ?_
      refine hs_val rfl rfl (ex_addr_arr0 (k := 19 - i) rfl (by rw [show (19 : Int) - (i : Int) = ((19 - i : Nat) : Int) by omega]; rfl) Try.underlying27 size5 (by omega)) ?_
      refine hs_val rfl rfl (ex_load rfl 0 rfl rfl (lab_get (19 - i) (by rw [hy]; omega)) Try.underlying5 rfl) ?_
      refine hs_nil ?_
      refine ho_val rfl rfl (ex_gtr rfl rfl rfl) ?_
      refine ho_nil ?_
      refine hk_then_code ?_
      refine hl_if rfl (fun hc2 => ?_) (fun hc2 => ?_)
      · try simp only [decide_eq_true_eq, decide_eq_false_iff_not, beq_iff_eq, beq_eq_false_iff_ne, bne_iff_ne, bne_eq_false_iff_eq, ne_eq, Int.not_lt, Int.not_le, gt_iff_lt, ge_iff_le, Bool.not_eq_true', Bool.not_eq_false'] at hc2
        refine hl_seq ?_
        refine hl_region ?_
        refine ho_val rfl rfl (ex_assign rfl) ?_
        refine ho_nil ?_
        refine hk_then_code ?_
        refine hl_ret ?_
        refine hk_block_ret ?_
        refine hk_then_ret ?_
        refine hk_then_ret ?_
        refine hk_block_ret ?_
        refine hk_then_ret ?_
        exact hk_ret rfl rfl (fun w' hw' => ⟨by rw [cmpLab_more (num_less (i := 19 - i) (by omega) (by omega) (show19 hg.2 hi5).symm (by omega))], hw'.below⟩)
      · try simp only [decide_eq_true_eq, decide_eq_false_iff_not, beq_iff_eq, beq_eq_false_iff_ne, bne_iff_ne, bne_eq_false_iff_eq, ne_eq, Int.not_lt, Int.not_le, gt_iff_lt, ge_iff_le, Bool.not_eq_true', Bool.not_eq_false'] at hc2
        refine hl_skip ?_
        refine hk_block_normal ?_
        refine hk_then_code ?_
        refine hl_region ?_
        refine ho_val rfl rfl (ex_move rfl) ?_
        refine ho_val rfl rfl (ex_sub (r := (19 : Int) - (i : Int) - 1) rfl rfl (by rw [i64_wrap _ (by omega)])) ?_
        refine ho_val rfl rfl (ex_assign rfl) ?_
        refine ho_nil ?_
        refine hk_then_normal ?_
        exact hk_round (i + 1) ⟨by omega, by rw [show 20 - (i + 1) = 19 - i by omega]; exact drop_more (by omega) (by omega) (show19 hg.2 hi5) (by omega) (by omega)⟩ (by omega) ⟨rfl, rfl, (by rw [show (19 : Int) - ((i + 1 : Nat) : Int) = (19 : Int) - (i : Int) - 1 by omega]; rfl), trivial⟩ _ (by decide) (.cons 0 rfl (.cons 1 rfl .nil))
  · try simp only [decide_eq_true_eq, decide_eq_false_iff_not, beq_iff_eq, beq_eq_false_iff_ne, bne_iff_ne, bne_eq_false_iff_eq, ne_eq, Int.not_lt, Int.not_le, gt_iff_lt, ge_iff_le, Bool.not_eq_true', Bool.not_eq_false'] at hc0
    have hsame : x = y := by have h := hg.2; rw [show 20 - i = 0 by have := hg.1; omega] at h; simpa using h
    refine hl_exit ?_
    refine hk_then_exit ?_
    refine hk_then_exit ?_
    refine hk_block_hit ?_
    refine hk_then_code ?_
    refine hl_seq ?_
    refine hl_block ?_
    refine hl_seq ?_
    refine hl_region ?_
    refine ho_val rfl rfl (ex_field_addr rfl Try.underlying29 rfl size9 rfl) ?_
    refine ho_val rfl rfl (ex_load rfl 1 rfl rfl (lab_name hx) Try.underlying9 rfl) ?_
    refine ho_val rfl rfl (ex_field_addr rfl Try.underlying29 rfl size9 rfl) ?_
    refine ho_val rfl rfl (ex_load rfl 0 rfl rfl (lab_name hy) Try.underlying9 rfl) ?_
    refine ho_val rfl rfl (ex_lss_str rfl rfl rfl) ?_
    refine ho_val rfl rfl (ex_assign rfl) ?_
    refine ho_nil ?_
    refine hk_then_code ?_
    refine hl_if rfl (fun hc3 => ?_) (fun hc3 => ?_)
    · try simp only [decide_eq_true_eq, decide_eq_false_iff_not, beq_iff_eq, beq_eq_false_iff_ne, bne_iff_ne, bne_eq_false_iff_eq, ne_eq, Int.not_lt, Int.not_le, gt_iff_lt, ge_iff_le, Bool.not_eq_true', Bool.not_eq_false'] at hc3
      refine hl_seq ?_
      refine hl_region ?_
      refine ho_val rfl rfl (ex_assign rfl) ?_
      refine ho_nil ?_
      refine hk_then_code ?_
      refine hl_ret ?_
      refine hk_block_ret ?_
      refine hk_then_ret ?_
      exact hk_ret rfl rfl (fun w' hw' => ⟨by rw [hsame, cmpLab_same, less_cmp hc3], hw'.below⟩)
    · try simp only [decide_eq_true_eq, decide_eq_false_iff_not, beq_iff_eq, beq_eq_false_iff_ne, bne_iff_ne, bne_eq_false_iff_eq, ne_eq, Int.not_lt, Int.not_le, gt_iff_lt, ge_iff_le, Bool.not_eq_true', Bool.not_eq_false'] at hc3
      refine hl_seq ?_
      refine hl_region ?_
      refine ho_val rfl rfl (ex_field_addr rfl Try.underlying29 rfl size9 rfl) ?_
      refine ho_val rfl rfl (ex_load rfl 1 rfl rfl (lab_name hx) Try.underlying9 rfl) ?_
      refine ho_val rfl rfl (ex_field_addr rfl Try.underlying29 rfl size9 rfl) ?_
      refine ho_val rfl rfl (ex_load rfl 0 rfl rfl (lab_name hy) Try.underlying9 rfl) ?_
      refine ho_val rfl rfl (ex_gtr_str rfl rfl rfl) ?_
      refine ho_val rfl rfl (ex_assign rfl) ?_
      refine ho_nil ?_
      refine hk_then_code ?_
      refine hl_if rfl (fun hc4 => ?_) (fun hc4 => ?_)
      · try simp only [decide_eq_true_eq, decide_eq_false_iff_not, beq_iff_eq, beq_eq_false_iff_ne, bne_iff_ne, bne_eq_false_iff_eq, ne_eq, Int.not_lt, Int.not_le, gt_iff_lt, ge_iff_le, Bool.not_eq_true', Bool.not_eq_false'] at hc4
        refine hl_seq ?_
        refine hl_region ?_
        refine ho_val rfl rfl (ex_assign rfl) ?_
        refine ho_nil ?_
        refine hk_then_code ?_
        refine hl_ret ?_
        refine hk_block_ret ?_
        refine hk_then_ret ?_
        exact hk_ret rfl rfl (fun w' hw' => ⟨by rw [hsame, cmpLab_same, more_cmp hc4], hw'.below⟩)
      · try simp only [decide_eq_true_eq, decide_eq_false_iff_not, beq_iff_eq, beq_eq_false_iff_ne, bne_iff_ne, bne_eq_false_iff_eq, ne_eq, Int.not_lt, Int.not_le, gt_iff_lt, ge_iff_le, Bool.not_eq_true', Bool.not_eq_false'] at hc4
        refine hl_skip ?_
        refine hk_block_normal ?_
        refine hk_then_code ?_
        refine hl_seq ?_
        refine hl_region ?_
        refine ho_val rfl rfl (ex_assign rfl) ?_
        refine ho_nil ?_
        refine hk_then_code ?_
        refine hl_ret ?_
        exact hk_ret rfl rfl (fun w' hw' => ⟨by rw [hsame, cmpLab_same, same_cmp hc3 hc4], hw'.below⟩)

set_option maxHeartbeats 400000 in
theorem prints_law (x nx y ny : List UInt8) (hx : x.length = 20) (hy : y.length = 20) (w : World) :
    Calls Try.prog 4 #[Value.agg (lab x nx), Value.agg (lab y ny)] w fun e w' => e = .returned (.bool true) ∧ Below w.heap.size w w' := by
  refine calls_enter (n := 54) (hs := []) (M := []) (vs := [Value.agg (lab x nx), Value.agg (lab y ny)]) Try.func4 rfl rfl rfl (Hp.start w) ?_
  refine hl_seq ?_
  refine hl_region ?_
  refine ho_do rfl rfl (exw_box_agg rfl) (fun b2 hb2 => ?_)
  refine ho_do rfl rfl (exw_box_agg rfl) (fun b3 hb3 => ?_)
  refine ho_val rfl rfl (ex_assign rfl) ?_
  refine ho_nil ?_
  refine hk_then_code ?_
  refine hl_seq ?_
  refine hl_region ?_
  refine ho_val rfl rfl (ex_load_row rfl 1 rfl rfl Try.underlying29 rfl (by rw [size29]; exact congrArg some (lab_size _ _ hx).symm)) ?_
  refine ho_do rfl rfl (exw_call_pure Try.func12 rfl (by kernel_rfl) rfl (fun w' hw' => print_any x nx hx w')) (fun _ _ => ?_)
  refine ho_val rfl rfl (ex_move rfl) ?_
  refine ho_val rfl rfl (ex_extract rfl rfl) ?_
  refine ho_val rfl rfl (ex_extract rfl rfl) ?_
  refine ho_val rfl rfl (ex_assign rfl) ?_
  refine ho_val rfl rfl (ex_assign rfl) ?_
  refine ho_nil ?_
  refine hk_then_code ?_
  refine hl_seq ?_
  refine hl_region ?_
  refine ho_val rfl rfl (ex_load_row rfl 1 rfl rfl Try.underlying29 rfl (by rw [size29]; exact congrArg some (lab_size _ _ hx).symm)) ?_
  refine ho_do rfl rfl (exw_call_pure Try.func13 rfl (by kernel_rfl) rfl (fun w' hw' => refprint_any x nx hx w')) (fun _ _ => ?_)
  refine ho_val rfl rfl (ex_move rfl) ?_
  refine ho_val rfl rfl (ex_extract rfl rfl) ?_
  refine ho_val rfl rfl (ex_extract rfl rfl) ?_
  refine ho_val rfl rfl (ex_assign rfl) ?_
  refine ho_val rfl rfl (ex_assign rfl) ?_
  refine ho_nil ?_
  refine hk_then_code ?_
  refine hl_seq ?_
  refine hl_seq ?_
  refine hl_region ?_
  refine ho_val rfl rfl (ex_move rfl) ?_
  refine ho_val rfl rfl (ex_move rfl) ?_
  refine ho_val rfl rfl (ex_neq_str (b := false) rfl rfl (neq_false_of_eq rfl)) ?_
  refine ho_val rfl rfl (ex_move rfl) ?_
  refine ho_want rfl rfl rfl rfl rfl (ex_move rfl) ?_
  refine ho_want rfl rfl rfl rfl rfl (ex_move rfl) ?_
  refine ho_want rfl rfl rfl rfl rfl (ex_neq (b := false) rfl rfl (bne_self_eq_false _)) ?_
  refine ho_val rfl rfl (ex_pick_false rfl rfl) ?_
  refine ho_nil ?_
  refine hk_then_code ?_
  refine hl_false rfl ?_
  refine hl_skip ?_
  refine hk_then_code ?_
  refine hl_seq ?_
  refine hl_region ?_
  refine ho_val rfl rfl (ex_load_row rfl 1 rfl rfl Try.underlying29 rfl (by rw [size29]; exact congrArg some (lab_size _ _ hx).symm)) ?_
  refine ho_do rfl rfl (exw_call_pure Try.func14 rfl (by kernel_rfl) rfl (fun w' hw' => base_any x nx hx w')) (fun _ _ => ?_)
  refine ho_val rfl rfl (ex_move rfl) ?_
  refine ho_val rfl rfl (ex_extract rfl rfl) ?_
  refine ho_val rfl rfl (ex_extract rfl rfl) ?_
  refine ho_val rfl rfl (ex_assign rfl) ?_
  refine ho_val rfl rfl (ex_assign rfl) ?_
  refine ho_nil ?_
  refine hk_then_code ?_
  refine hl_seq ?_
  refine hl_region ?_
  refine ho_val rfl rfl (ex_load_row rfl 1 rfl rfl Try.underlying29 rfl (by rw [size29]; exact congrArg some (lab_size _ _ hx).symm)) ?_
  refine ho_do rfl rfl (exw_call_pure Try.func15 rfl (by kernel_rfl) rfl (fun w' hw' => refbase_any x nx hx w')) (fun _ _ => ?_)
  refine ho_val rfl rfl (ex_move rfl) ?_
  refine ho_val rfl rfl (ex_extract rfl rfl) ?_
  refine ho_val rfl rfl (ex_extract rfl rfl) ?_
  refine ho_val rfl rfl (ex_assign rfl) ?_
  refine ho_val rfl rfl (ex_assign rfl) ?_
  refine ho_nil ?_
  refine hk_then_code ?_
  refine hl_seq ?_
  refine hl_held _ (by kernel_rfl) (by decide) (.cons 0 rfl (.cons 1 rfl .nil)) ?_
  refine ha_take 0 rfl (by kernel_rfl) (by kernel_rfl) (by kernel_rfl) (fun _ _ _ h => h) rfl rfl (ex_move rfl) ?_
  refine ha_take 1 rfl (by kernel_rfl) (by kernel_rfl) (by kernel_rfl) (fun _ _ _ h => h) rfl rfl (ex_move rfl) ?_
  refine ha_take 2 rfl (by kernel_rfl) (by kernel_rfl) (by kernel_rfl) (fun _ _ _ h => h) rfl rfl (ex_eql_str (b := true) rfl rfl (eql_true_of_eq rfl)) ?_
  refine ha_take 3 rfl (by kernel_rfl) (by kernel_rfl) (by kernel_rfl) (fun _ _ _ h => h) rfl rfl (ex_move rfl) ?_
  refine ha_want 4 rfl (by kernel_rfl) (by kernel_rfl) (by kernel_rfl) (fun _ _ _ h => h) rfl rfl rfl rfl rfl (ex_move rfl) ?_
  refine ha_want 5 rfl (by kernel_rfl) (by kernel_rfl) (by kernel_rfl) (fun _ _ _ h => h) rfl rfl rfl rfl rfl (ex_move rfl) ?_
  refine ha_want 6 rfl (by kernel_rfl) (by kernel_rfl) (by kernel_rfl) (fun _ _ _ h => h) rfl rfl rfl rfl rfl (ex_eql (b := true) rfl rfl (beq_self_eq_true _)) ?_
  refine ha_take 7 rfl (by kernel_rfl) (by kernel_rfl) (by kernel_rfl) (fun _ _ _ h => h) rfl rfl (ex_pick_true rfl rfl) ?_
  refine ha_take 8 rfl (by kernel_rfl) (by kernel_rfl) (by kernel_rfl) (fun _ _ _ h => h) rfl rfl (ex_move rfl) ?_
  refine ha_want 9 rfl (by kernel_rfl) (by kernel_rfl) (by kernel_rfl) (fun _ _ _ h => h) rfl rfl rfl rfl rfl (ex_load_row rfl 1 rfl rfl Try.underlying29 rfl (by rw [size29]; exact congrArg some (lab_size _ _ hx).symm)) ?_
  refine ha_want 10 rfl (by kernel_rfl) (by kernel_rfl) (by kernel_rfl) (fun _ _ _ h => h) rfl rfl rfl rfl rfl (ex_load_row rfl 0 rfl rfl Try.underlying29 rfl (by rw [size29]; exact congrArg some (lab_size _ _ hy).symm)) ?_
  refine ha_want 12 rfl (by kernel_rfl) (by kernel_rfl) (by kernel_rfl) (fun _ _ _ h => h) rfl rfl rfl rfl rfl (ex_load_row rfl 1 rfl rfl Try.underlying29 rfl (by rw [size29]; exact congrArg some (lab_size _ _ hx).symm)) ?_
  refine ha_want 13 rfl (by kernel_rfl) (by kernel_rfl) (by kernel_rfl) (fun _ _ _ h => h) rfl rfl rfl rfl rfl (ex_load_row rfl 0 rfl rfl Try.underlying29 rfl (by rw [size29]; exact congrArg some (lab_size _ _ hy).symm)) ?_
  refine ha_do 11 rfl (by kernel_rfl) (want_of rfl rfl rfl rfl) rfl (exw_call_pure Try.func16 rfl (by kernel_rfl) rfl (fun w' hw' => compare_any x nx y ny hx hy w')) (by decide) (fun _ _ => (.cons 0 rfl (.cons 1 rfl .nil))) (fun _ _ => ?_)
  refine ha_do 14 rfl (by kernel_rfl) (want_of rfl rfl rfl rfl) rfl (exw_call_pure Try.func17 rfl (by kernel_rfl) rfl (fun w' hw' => refcompare_any x nx y ny hx hy w')) (by decide) (fun _ _ => (.cons 0 rfl (.cons 1 rfl .nil))) (fun _ _ => ?_)
  refine ha_want 15 rfl (by kernel_rfl) (by kernel_rfl) (by kernel_rfl) (fun _ _ _ h => h) rfl rfl rfl rfl rfl (ex_eql (b := true) rfl rfl (beq_self_eq_true _)) ?_
  refine ha_take 16 rfl (by kernel_rfl) (by kernel_rfl) (by kernel_rfl) (fun _ _ _ h => h) rfl rfl (ex_pick_true rfl rfl) ?_
  refine ha_take 17 rfl (by kernel_rfl) (by kernel_rfl) (by kernel_rfl) (fun _ _ _ h => h) rfl rfl (ex_assign rfl) ?_
  refine ha_done (by kernel_rfl) ?_
  refine hk_then_code ?_
  refine hl_ret ?_
  exact hk_ret rfl rfl (fun w' hw' => ⟨rfl, hw'.below⟩)

end Go.Proofs.Ytoegpjcekdafoaa
