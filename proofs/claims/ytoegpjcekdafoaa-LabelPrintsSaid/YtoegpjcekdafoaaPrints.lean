/- Print and Base, of the labels and of the document. -/
import Derived.Test.YtoegpjcekdafoaaRows
import Derived.Test.YtoegpjcekdafoaaFacts
import Derived.Test.YtoegpjcekdafoaaB
import Derived.Test.YtoegpjcekdafoaaP
import Derived.Test.YtoegpjcekdafoaaLabel
import Derived.Test.YtoegpjcekdafoaaLabel2
import Derived.Test.YtoegpjcekdafoaaCheck
import Derived.Test.YtoegpjcekdafoaaBases
import Derived.Test.YtoegpjcekdafoaaD
import Derived.KernelRfl
namespace Go.Proofs.Ytoegpjcekdafoaa
open Go.RowKit
set_option linter.unusedVariables false
set_option linter.unusedSimpArgs false

set_option maxHeartbeats 400000 in
theorem digits_any (x nx : List UInt8) (hx : x.length = 20) (w : World) :
    Calls Try.prog 36 #[Value.agg (lab x nx)] w fun e w' => e = .returned (.string (bs (base32Of x))) ∧ Below w.heap.size w w' := by
  refine calls_enter (n := 6) (hs := []) (M := []) (vs := [Value.agg (lab x nx)]) Try.func36 rfl rfl rfl (Hp.start w) ?_
  refine hl_seq ?_
  refine hl_region ?_
  refine ho_do rfl rfl (exw_box_agg rfl) (fun b1 hb1 => ?_)
  refine ho_val rfl rfl (ex_assign rfl) ?_
  refine ho_nil ?_
  refine hk_then_code ?_
  refine hl_seq ?_
  refine hl_region ?_
  refine ho_val rfl rfl (ex_field_addr rfl Try.underlying29 rfl size27 rfl) ?_
  refine ho_val rfl rfl (ex_slice_arr rfl Try.underlying27 _ size5) ?_
  refine ho_do rfl rfl (exw_call_pure Try.func54 rfl (by kernel_rfl) rfl (fun w' hw' => base32_any x 20 hx (some ⟨b1, 0, none⟩) 20 (fun h => nomatch h) (by omega) w' (Sl.own hw' 0 rfl rfl lab_hash))) (fun _ _ => ?_)
  refine ho_val rfl rfl (ex_assign rfl) ?_
  refine ho_nil ?_
  refine hk_then_code ?_
  refine hl_ret ?_
  exact hk_ret rfl rfl (fun w' hw' => ⟨rfl, hw'.below⟩)

set_option maxHeartbeats 400000 in
theorem refhash_any (x : List UInt8) (hx : x.length = 20) (w : World) :
    Calls Try.prog 37 #[Value.agg (vbs x)] w fun e w' => e = .returned (.string (bs (base32Of x))) ∧ Below w.heap.size w w' := by
  refine calls_enter (n := 5) (hs := []) (M := []) (vs := [Value.agg (vbs x)]) Try.func37 rfl rfl rfl (Hp.start w) ?_
  refine hl_seq ?_
  refine hl_region ?_
  refine ho_do rfl rfl (exw_box_agg rfl) (fun b1 hb1 => ?_)
  refine ho_val rfl rfl (ex_assign rfl) ?_
  refine ho_nil ?_
  refine hk_then_code ?_
  refine hl_seq ?_
  refine hl_region ?_
  refine ho_val rfl rfl (ex_slice_arr rfl Try.underlying27 _ size5) ?_
  refine ho_do rfl rfl (exw_call_pure Try.func55 rfl (by kernel_rfl) rfl (fun w' hw' => refbase32_any x 20 hx (some ⟨b1, 0, none⟩) 20 (fun h => nomatch h) (by omega) w' (Sl.own hw' 0 rfl rfl vbs_get'))) (fun _ _ => ?_)
  refine ho_val rfl rfl (ex_assign rfl) ?_
  refine ho_nil ?_
  refine hk_then_code ?_
  refine hl_ret ?_
  exact hk_ret rfl rfl (fun w' hw' => ⟨rfl, hw'.below⟩)

set_option maxHeartbeats 400000 in
theorem base_any (x nx : List UInt8) (hx : x.length = 20) (w : World) :
    Calls Try.prog 14 #[Value.agg (lab x nx)] w fun e w' => e = .returned (.tuple #[.string (bs (baseOf x nx).1), .int .i64 (baseOf x nx).2]) ∧ Below w.heap.size w w' := by
  refine calls_enter (n := 21) (hs := []) (M := []) (vs := [Value.agg (lab x nx)]) Try.func14 rfl rfl rfl (Hp.start w) ?_
  refine hl_seq ?_
  refine hl_region ?_
  refine ho_do rfl rfl (exw_box_agg rfl) (fun b1 hb1 => ?_)
  refine ho_val rfl rfl (ex_assign rfl) ?_
  refine ho_val rfl rfl (ex_assign rfl) ?_
  refine ho_nil ?_
  refine hk_then_code ?_
  refine hl_seq ?_
  refine hl_seq ?_
  refine hl_region ?_
  refine ho_val rfl rfl (ex_field_addr rfl Try.underlying29 rfl size9 rfl) ?_
  refine ho_val rfl rfl (ex_load rfl 0 rfl rfl (lab_name hx) Try.underlying9 rfl) ?_
  refine ho_do rfl rfl (exw_call_pure Try.func10 rfl (by kernel_rfl) rfl (fun w' hw' => check_any nx w')) (fun _ _ => ?_)
  refine ho_val rfl rfl (ex_move rfl) ?_
  refine ho_val rfl rfl (ex_extract rfl rfl) ?_
  refine ho_val rfl rfl (ex_extract rfl rfl) ?_
  refine ho_val rfl rfl (ex_assign rfl) ?_
  refine ho_val rfl rfl (ex_assign rfl) ?_
  refine ho_nil ?_
  refine hk_then_code ?_
  refine hl_seq ?_
  refine hl_region ?_
  refine ho_val rfl rfl (ex_move rfl) ?_
  refine ho_val rfl rfl (ex_neq rfl rfl rfl) ?_
  refine ho_nil ?_
  refine hk_then_code ?_
  refine hl_if rfl (fun hc0 => ?_) (fun hc0 => ?_)
  · try simp only [decide_eq_true_eq, decide_eq_false_iff_not, beq_iff_eq, beq_eq_false_iff_ne, bne_iff_ne, bne_eq_false_iff_eq, ne_eq, Int.not_lt, Int.not_le, gt_iff_lt, ge_iff_le, Bool.not_eq_true', Bool.not_eq_false'] at hc0
    refine hl_seq ?_
    refine hl_region ?_
    refine ho_val rfl rfl (ex_move rfl) ?_
    refine ho_val rfl rfl (ex_assign rfl) ?_
    refine ho_val rfl rfl (ex_assign rfl) ?_
    refine ho_nil ?_
    refine hk_then_code ?_
    refine hl_ret ?_
    refine hk_then_ret ?_
    exact hk_ret2 rfl rfl rfl (fun w' hw' => ⟨by rw [baseOf, if_neg hc0] <;> rfl, hw'.below⟩)
  · try simp only [decide_eq_true_eq, decide_eq_false_iff_not, beq_iff_eq, beq_eq_false_iff_ne, bne_iff_ne, bne_eq_false_iff_eq, ne_eq, Int.not_lt, Int.not_le, gt_iff_lt, ge_iff_le, Bool.not_eq_true', Bool.not_eq_false'] at hc0
    refine hl_skip ?_
    refine hk_then_code ?_
    refine hl_seq ?_
    refine hl_held _ (by kernel_rfl) (by decide) (.cons 0 rfl .nil) ?_
    refine ha_take 0 rfl (by kernel_rfl) (by kernel_rfl) (by kernel_rfl) (fun _ _ _ h => h) rfl rfl (ex_load_row rfl 0 rfl rfl Try.underlying29 rfl (by rw [size29]; exact congrArg some (lab_size _ _ hx).symm)) ?_
    refine ha_take 3 rfl (by kernel_rfl) (by kernel_rfl) (by kernel_rfl) (fun _ _ _ h => h) rfl rfl (ex_field_addr rfl Try.underlying29 rfl size9 rfl) ?_
    refine ha_take 4 rfl (by kernel_rfl) (by kernel_rfl) (by kernel_rfl) (fun _ _ _ h => h) rfl rfl (ex_load rfl 0 rfl rfl (lab_name hx) Try.underlying9 rfl) ?_
    refine ha_do 1 rfl (by kernel_rfl) (fun a _ => wanted_none rfl a) rfl (exw_call_pure Try.func36 rfl (by kernel_rfl) rfl (fun w' hw' => digits_any x nx hx w')) (by decide) (fun _ _ => (.cons 0 rfl .nil)) (fun _ _ => ?_)
    refine ha_take 2 rfl (by kernel_rfl) (by kernel_rfl) (by kernel_rfl) (fun _ _ _ h => h) rfl rfl (ex_cat rfl rfl (by rw [base32Of_length, hx]; decide)) ?_
    refine ha_take 5 rfl (by kernel_rfl) (by kernel_rfl) (by kernel_rfl) (fun _ _ _ h => h) rfl rfl (ex_cat rfl rfl (by have := check_ok_len hc0; rw [List.length_append, base32Of_length, hx, List.length_singleton]; omega)) ?_
    refine ha_take 6 rfl (by kernel_rfl) (by kernel_rfl) (by kernel_rfl) (fun _ _ _ h => h) rfl rfl (ex_assign rfl) ?_
    refine ha_take 7 rfl (by kernel_rfl) (by kernel_rfl) (by kernel_rfl) (fun _ _ _ h => h) rfl rfl (ex_assign rfl) ?_
    refine ha_done (by kernel_rfl) ?_
    refine hk_then_code ?_
    refine hl_ret ?_
    exact hk_ret2 rfl rfl rfl (fun w' hw' => ⟨by rw [baseOf, if_pos hc0] <;> rfl, hw'.below⟩)

set_option maxHeartbeats 400000 in
theorem refbase_any (x nx : List UInt8) (hx : x.length = 20) (w : World) :
    Calls Try.prog 15 #[Value.agg (lab x nx)] w fun e w' => e = .returned (.tuple #[.string (bs (baseOf x nx).1), .int .i64 (baseOf x nx).2]) ∧ Below w.heap.size w w' := by
  refine calls_enter (n := 24) (hs := []) (M := []) (vs := [Value.agg (lab x nx)]) Try.func15 rfl rfl rfl (Hp.start w) ?_
  refine hl_seq ?_
  refine hl_region ?_
  refine ho_do rfl rfl (exw_box_agg rfl) (fun b1 hb1 => ?_)
  refine ho_val rfl rfl (ex_assign rfl) ?_
  refine ho_val rfl rfl (ex_assign rfl) ?_
  refine ho_nil ?_
  refine hk_then_code ?_
  refine hl_seq ?_
  refine hl_region ?_
  refine ho_val rfl rfl (ex_field_addr rfl Try.underlying29 rfl size9 rfl) ?_
  refine ho_val rfl rfl (ex_load rfl 0 rfl rfl (lab_name hx) Try.underlying9 rfl) ?_
  refine ho_do rfl rfl (exw_call_pure Try.func11 rfl (by kernel_rfl) rfl (fun w' hw' => refcheck_any nx w')) (fun _ _ => ?_)
  refine ho_val rfl rfl (ex_move rfl) ?_
  refine ho_val rfl rfl (ex_extract rfl rfl) ?_
  refine ho_val rfl rfl (ex_extract rfl rfl) ?_
  refine ho_val rfl rfl (ex_assign rfl) ?_
  refine ho_val rfl rfl (ex_assign rfl) ?_
  refine ho_nil ?_
  refine hk_then_code ?_
  refine hl_seq ?_
  refine hl_seq ?_
  refine hl_region ?_
  refine ho_val rfl rfl (ex_move rfl) ?_
  refine ho_val rfl rfl (ex_neq rfl rfl rfl) ?_
  refine ho_nil ?_
  refine hk_then_code ?_
  refine hl_if rfl (fun hc0 => ?_) (fun hc0 => ?_)
  · try simp only [decide_eq_true_eq, decide_eq_false_iff_not, beq_iff_eq, beq_eq_false_iff_ne, bne_iff_ne, bne_eq_false_iff_eq, ne_eq, Int.not_lt, Int.not_le, gt_iff_lt, ge_iff_le, Bool.not_eq_true', Bool.not_eq_false'] at hc0
    refine hl_seq ?_
    refine hl_region ?_
    refine ho_val rfl rfl (ex_move rfl) ?_
    refine ho_val rfl rfl (ex_assign rfl) ?_
    refine ho_val rfl rfl (ex_assign rfl) ?_
    refine ho_nil ?_
    refine hk_then_code ?_
    refine hl_ret ?_
    refine hk_then_ret ?_
    exact hk_ret2 rfl rfl rfl (fun w' hw' => ⟨by rw [baseOf, if_neg hc0] <;> rfl, hw'.below⟩)
  · try simp only [decide_eq_true_eq, decide_eq_false_iff_not, beq_iff_eq, beq_eq_false_iff_ne, bne_iff_ne, bne_eq_false_iff_eq, ne_eq, Int.not_lt, Int.not_le, gt_iff_lt, ge_iff_le, Bool.not_eq_true', Bool.not_eq_false'] at hc0
    refine hl_skip ?_
    refine hk_then_code ?_
    refine hl_seq ?_
    refine hl_region ?_
    refine ho_val rfl rfl (ex_field_addr rfl Try.underlying29 rfl size27 rfl) ?_
    refine ho_val rfl rfl (ex_load_agg (xs := x.map vb) rfl (fun w' hw' => Sl.own hw' 0 rfl rfl lab_hash) Try.underlying27 rfl (by rw [size27, List.length_map, hx])) ?_
    refine ho_do rfl rfl (exw_call_pure Try.func37 rfl (by kernel_rfl) rfl (fun w' hw' => refhash_any x hx w')) (fun _ _ => ?_)
    refine ho_val rfl rfl (ex_assign rfl) ?_
    refine ho_nil ?_
    refine hk_then_code ?_
    refine hl_seq ?_
    refine hl_region ?_
    refine ho_val rfl rfl (ex_move rfl) ?_
    refine ho_val rfl rfl (ex_cat rfl rfl (by rw [base32Of_length, hx]; decide)) ?_
    refine ho_val rfl rfl (ex_field_addr rfl Try.underlying29 rfl size9 rfl) ?_
    refine ho_val rfl rfl (ex_load rfl 0 rfl rfl (lab_name hx) Try.underlying9 rfl) ?_
    refine ho_val rfl rfl (ex_cat rfl rfl (by have := check_ok_len hc0; rw [List.length_append, base32Of_length, hx, List.length_singleton]; omega)) ?_
    refine ho_val rfl rfl (ex_assign rfl) ?_
    refine ho_val rfl rfl (ex_assign rfl) ?_
    refine ho_nil ?_
    refine hk_then_code ?_
    refine hl_ret ?_
    exact hk_ret2 rfl rfl rfl (fun w' hw' => ⟨by rw [baseOf, if_pos hc0] <;> rfl, hw'.below⟩)

set_option maxHeartbeats 400000 in
theorem print_any (x nx : List UInt8) (hx : x.length = 20) (w : World) :
    Calls Try.prog 12 #[Value.agg (lab x nx)] w fun e w' => e = .returned (.tuple #[.string (bs (printOf x nx).1), .int .i64 (printOf x nx).2]) ∧ Below w.heap.size w w' := by
  refine calls_enter (n := 16) (hs := []) (M := []) (vs := [Value.agg (lab x nx)]) Try.func12 rfl rfl rfl (Hp.start w) ?_
  refine hl_seq ?_
  refine hl_region ?_
  refine ho_do rfl rfl (exw_box_agg rfl) (fun b1 hb1 => ?_)
  refine ho_val rfl rfl (ex_assign rfl) ?_
  refine ho_val rfl rfl (ex_assign rfl) ?_
  refine ho_nil ?_
  refine hk_then_code ?_
  refine hl_seq ?_
  refine hl_region ?_
  refine ho_val rfl rfl (ex_load_row rfl 0 rfl rfl Try.underlying29 rfl (by rw [size29]; exact congrArg some (lab_size _ _ hx).symm)) ?_
  refine ho_do rfl rfl (exw_call_pure Try.func14 rfl (by kernel_rfl) rfl (fun w' hw' => base_any x nx hx w')) (fun _ _ => ?_)
  refine ho_val rfl rfl (ex_move rfl) ?_
  refine ho_val rfl rfl (ex_extract rfl rfl) ?_
  refine ho_val rfl rfl (ex_extract rfl rfl) ?_
  refine ho_val rfl rfl (ex_assign rfl) ?_
  refine ho_val rfl rfl (ex_assign rfl) ?_
  refine ho_nil ?_
  refine hk_then_code ?_
  refine hl_seq ?_
  refine hl_seq ?_
  refine hl_region ?_
  refine ho_val rfl rfl (ex_move rfl) ?_
  refine ho_val rfl rfl (ex_neq rfl rfl rfl) ?_
  refine ho_nil ?_
  refine hk_then_code ?_
  refine hl_if rfl (fun hc0 => ?_) (fun hc0 => ?_)
  · try simp only [decide_eq_true_eq, decide_eq_false_iff_not, beq_iff_eq, beq_eq_false_iff_ne, bne_iff_ne, bne_eq_false_iff_eq, ne_eq, Int.not_lt, Int.not_le, gt_iff_lt, ge_iff_le, Bool.not_eq_true', Bool.not_eq_false'] at hc0
    refine hl_seq ?_
    refine hl_region ?_
    refine ho_val rfl rfl (ex_move rfl) ?_
    refine ho_val rfl rfl (ex_assign rfl) ?_
    refine ho_val rfl rfl (ex_assign rfl) ?_
    refine ho_nil ?_
    refine hk_then_code ?_
    refine hl_ret ?_
    refine hk_then_ret ?_
    exact hk_ret2 rfl rfl rfl (fun w' hw' => ⟨by rw [printOf, if_neg hc0] <;> rfl, hw'.below⟩)
  · try simp only [decide_eq_true_eq, decide_eq_false_iff_not, beq_iff_eq, beq_eq_false_iff_ne, bne_iff_ne, bne_eq_false_iff_eq, ne_eq, Int.not_lt, Int.not_le, gt_iff_lt, ge_iff_le, Bool.not_eq_true', Bool.not_eq_false'] at hc0
    refine hl_skip ?_
    refine hk_then_code ?_
    refine hl_seq ?_
    refine hl_region ?_
    refine ho_val rfl rfl (ex_move rfl) ?_
    refine ho_val rfl rfl (ex_cat rfl rfl (by have := baseOf_len hx hc0; simp only [List.length_cons, List.length_nil]; omega)) ?_
    refine ho_val rfl rfl (ex_assign rfl) ?_
    refine ho_val rfl rfl (ex_assign rfl) ?_
    refine ho_nil ?_
    refine hk_then_code ?_
    refine hl_ret ?_
    exact hk_ret2 rfl rfl rfl (fun w' hw' => ⟨by rw [printOf, if_pos hc0] <;> rfl, hw'.below⟩)

set_option maxHeartbeats 400000 in
theorem refprint_any (x nx : List UInt8) (hx : x.length = 20) (w : World) :
    Calls Try.prog 13 #[Value.agg (lab x nx)] w fun e w' => e = .returned (.tuple #[.string (bs (printOf x nx).1), .int .i64 (printOf x nx).2]) ∧ Below w.heap.size w w' := by
  refine calls_enter (n := 16) (hs := []) (M := []) (vs := [Value.agg (lab x nx)]) Try.func13 rfl rfl rfl (Hp.start w) ?_
  refine hl_seq ?_
  refine hl_region ?_
  refine ho_do rfl rfl (exw_box_agg rfl) (fun b1 hb1 => ?_)
  refine ho_val rfl rfl (ex_assign rfl) ?_
  refine ho_val rfl rfl (ex_assign rfl) ?_
  refine ho_nil ?_
  refine hk_then_code ?_
  refine hl_seq ?_
  refine hl_region ?_
  refine ho_val rfl rfl (ex_load_row rfl 0 rfl rfl Try.underlying29 rfl (by rw [size29]; exact congrArg some (lab_size _ _ hx).symm)) ?_
  refine ho_do rfl rfl (exw_call_pure Try.func15 rfl (by kernel_rfl) rfl (fun w' hw' => refbase_any x nx hx w')) (fun _ _ => ?_)
  refine ho_val rfl rfl (ex_move rfl) ?_
  refine ho_val rfl rfl (ex_extract rfl rfl) ?_
  refine ho_val rfl rfl (ex_extract rfl rfl) ?_
  refine ho_val rfl rfl (ex_assign rfl) ?_
  refine ho_val rfl rfl (ex_assign rfl) ?_
  refine ho_nil ?_
  refine hk_then_code ?_
  refine hl_seq ?_
  refine hl_seq ?_
  refine hl_region ?_
  refine ho_val rfl rfl (ex_move rfl) ?_
  refine ho_val rfl rfl (ex_neq rfl rfl rfl) ?_
  refine ho_nil ?_
  refine hk_then_code ?_
  refine hl_if rfl (fun hc0 => ?_) (fun hc0 => ?_)
  · try simp only [decide_eq_true_eq, decide_eq_false_iff_not, beq_iff_eq, beq_eq_false_iff_ne, bne_iff_ne, bne_eq_false_iff_eq, ne_eq, Int.not_lt, Int.not_le, gt_iff_lt, ge_iff_le, Bool.not_eq_true', Bool.not_eq_false'] at hc0
    refine hl_seq ?_
    refine hl_region ?_
    refine ho_val rfl rfl (ex_move rfl) ?_
    refine ho_val rfl rfl (ex_assign rfl) ?_
    refine ho_val rfl rfl (ex_assign rfl) ?_
    refine ho_nil ?_
    refine hk_then_code ?_
    refine hl_ret ?_
    refine hk_then_ret ?_
    exact hk_ret2 rfl rfl rfl (fun w' hw' => ⟨by rw [printOf, if_neg hc0] <;> rfl, hw'.below⟩)
  · try simp only [decide_eq_true_eq, decide_eq_false_iff_not, beq_iff_eq, beq_eq_false_iff_ne, bne_iff_ne, bne_eq_false_iff_eq, ne_eq, Int.not_lt, Int.not_le, gt_iff_lt, ge_iff_le, Bool.not_eq_true', Bool.not_eq_false'] at hc0
    refine hl_skip ?_
    refine hk_then_code ?_
    refine hl_seq ?_
    refine hl_region ?_
    refine ho_val rfl rfl (ex_move rfl) ?_
    refine ho_val rfl rfl (ex_cat rfl rfl (by have := baseOf_len hx hc0; simp only [List.length_cons, List.length_nil]; omega)) ?_
    refine ho_val rfl rfl (ex_assign rfl) ?_
    refine ho_val rfl rfl (ex_assign rfl) ?_
    refine ho_nil ?_
    refine hk_then_code ?_
    refine hl_ret ?_
    exact hk_ret2 rfl rfl rfl (fun w' hw' => ⟨by rw [printOf, if_pos hc0] <;> rfl, hw'.below⟩)

end Go.Proofs.Ytoegpjcekdafoaa
