/- The letters that a name may hold. -/
import Derived.Test.YtoegpjcekdafoaaRows
import Derived.Test.YtoegpjcekdafoaaFacts
import Derived.Test.YtoegpjcekdafoaaB
import Derived.Test.YtoegpjcekdafoaaName
import Derived.Test.YtoegpjcekdafoaaIdx
import Derived.KernelRfl
namespace Go.Proofs.Ytoegpjcekdafoaa
open Go.RowKit
set_option linter.unusedVariables false
set_option linter.unusedSimpArgs false

set_option maxHeartbeats 400000 in
theorem indexrune_any (D : List UInt8) (r : Nat) (hr : r < 128) (w : World) :
    Calls Try.prog 62 #[Value.string (bs D), Value.int .i32 (r : Int)] w fun e w' => e = .returned (.int .i64 (Lib.indexByte D (UInt8.ofNat r))) ∧ Below w.heap.size w w' := by
  refine calls_enter (n := 187) (hs := []) (M := []) (vs := [Value.string (bs D), Value.int .i32 (r : Int)]) Try.func62 rfl rfl rfl (Hp.start w) ?_
  refine hl_seq ?_
  refine hl_region ?_
  refine ho_val rfl rfl (ex_assign rfl) ?_
  refine ho_nil ?_
  refine hk_then_code ?_
  refine hl_block ?_
  refine hl_seq ?_
  refine hl_region ?_
  refine ho_val rfl rfl (ex_move rfl) ?_
  refine ho_val rfl rfl (ex_leq (p := 0) (q := (r : Int)) (b := true) rfl rfl (decide_eq_true (by omega))) ?_
  refine ho_val rfl rfl (ex_move rfl) ?_
  refine ho_want rfl rfl rfl rfl rfl (ex_move rfl) ?_
  refine ho_want rfl rfl rfl rfl rfl (ex_lss (p := (r : Int)) (q := 128) (b := true) rfl rfl (decide_eq_true (by omega))) ?_
  refine ho_val rfl rfl (ex_pick_true rfl rfl) ?_
  refine ho_val rfl rfl (ex_assign rfl) ?_
  refine ho_nil ?_
  refine hk_then_code ?_
  refine hl_true rfl ?_
  refine hl_seq ?_
  refine hl_region ?_
  refine ho_val rfl rfl (ex_move rfl) ?_
  refine ho_val rfl rfl (ex_move rfl) ?_
  refine ho_val rfl rfl (ex_conv8 rfl Try.underlying21 Try.underlying5) ?_
  refine ho_do rfl rfl (exw_call_pure Try.func45 rfl (by kernel_rfl) rfl (fun w' hw' => idx_any D (UInt8.ofNat r) w')) (fun _ _ => ?_)
  refine ho_val rfl rfl (ex_assign rfl) ?_
  refine ho_nil ?_
  refine hk_then_code ?_
  refine hl_ret ?_
  refine hk_block_ret ?_
  exact hk_ret rfl rfl (fun w' hw' => ⟨rfl, hw'.below⟩)

set_option maxHeartbeats 400000 in
theorem containsrune_any (D : List UInt8) (r : Nat) (hr : r < 128) (w : World) :
    Calls Try.prog 53 #[Value.string (bs D), Value.int .i32 (r : Int)] w fun e w' => e = .returned (.bool (decide (0 ≤ Lib.indexByte D (UInt8.ofNat r)))) ∧ Below w.heap.size w w' := by
  refine calls_enter (n := 9) (hs := []) (M := []) (vs := [Value.string (bs D), Value.int .i32 (r : Int)]) Try.func53 rfl rfl rfl (Hp.start w) ?_
  refine hl_seq ?_
  refine hl_region ?_
  refine ho_val rfl rfl (ex_assign rfl) ?_
  refine ho_nil ?_
  refine hk_then_code ?_
  refine hl_seq ?_
  refine hl_region ?_
  refine ho_val rfl rfl (ex_move rfl) ?_
  refine ho_val rfl rfl (ex_move rfl) ?_
  refine ho_do rfl rfl (exw_call_pure Try.func62 rfl (by kernel_rfl) rfl (fun w' hw' => indexrune_any D r hr w')) (fun _ _ => ?_)
  refine ho_val rfl rfl (ex_geq rfl rfl rfl) ?_
  refine ho_val rfl rfl (ex_assign rfl) ?_
  refine ho_nil ?_
  refine hk_then_code ?_
  refine hl_ret ?_
  exact hk_ret rfl rfl (fun w' hw' => ⟨rfl, hw'.below⟩)

set_option maxHeartbeats 400000 in
theorem may_any (r : Nat) (w : World) :
    Calls Try.prog 34 #[Value.int .i32 (r : Int)] w fun e w' => e = .returned (.bool (mayI r)) ∧ Below w.heap.size w w' := by
  refine calls_enter (n := 33) (hs := []) (M := []) (vs := [Value.int .i32 (r : Int)]) Try.func34 rfl rfl rfl (Hp.start w) ?_
  refine hl_seq ?_
  refine hl_region ?_
  refine ho_val rfl rfl (ex_assign rfl) ?_
  refine ho_nil ?_
  refine hk_then_code ?_
  refine hl_seq ?_
  refine hl_region ?_
  refine ho_val rfl rfl (ex_move rfl) ?_
  refine ho_val rfl rfl (ex_geq rfl rfl rfl) ?_
  refine ho_val rfl rfl (ex_move rfl) ?_
  refine ho_bool 5 rfl (fun hb1_2 => ?_) (fun hb1_2 => ?_)
  · try simp only [decide_eq_true_eq, decide_eq_false_iff_not, beq_iff_eq, beq_eq_false_iff_ne, bne_iff_ne, bne_eq_false_iff_eq, ne_eq, Int.not_lt, Int.not_le, gt_iff_lt, ge_iff_le, Bool.not_eq_true', Bool.not_eq_false'] at hb1_2
    refine ho_want rfl rfl rfl rfl rfl (ex_move rfl) ?_
    refine ho_want rfl rfl rfl rfl rfl (ex_leq rfl rfl rfl) ?_
    refine ho_val rfl rfl (ex_pick_true rfl rfl) ?_
    refine ho_val rfl rfl (ex_move rfl) ?_
    refine ho_bool 9 rfl (fun hb1_6 => ?_) (fun hb1_6 => ?_)
    · try simp only [decide_eq_true_eq, decide_eq_false_iff_not, beq_iff_eq, beq_eq_false_iff_ne, bne_iff_ne, bne_eq_false_iff_eq, ne_eq, Int.not_lt, Int.not_le, gt_iff_lt, ge_iff_le, Bool.not_eq_true', Bool.not_eq_false'] at hb1_6
      refine ho_skip rfl rfl rfl rfl rfl rfl ?_
      refine ho_skip rfl rfl rfl rfl rfl rfl ?_
      refine ho_skip rfl rfl rfl rfl rfl rfl ?_
      refine ho_skipu rfl rfl rfl rfl rfl ?_
      refine ho_skipu rfl rfl rfl rfl rfl ?_
      refine ho_skip rfl rfl rfl rfl rfl rfl ?_
      refine ho_val rfl rfl (ex_pick_true rfl rfl) ?_
      refine ho_val rfl rfl (ex_move rfl) ?_
      refine ho_skip rfl rfl rfl rfl rfl rfl ?_
      refine ho_skip rfl rfl rfl rfl rfl rfl ?_
      refine ho_skip rfl rfl rfl rfl rfl rfl ?_
      refine ho_skipu rfl rfl rfl rfl rfl ?_
      refine ho_skipu rfl rfl rfl rfl rfl ?_
      refine ho_skip rfl rfl rfl rfl rfl rfl ?_
      refine ho_val rfl rfl (ex_pick_true rfl rfl) ?_
      refine ho_val rfl rfl (ex_move rfl) ?_
      refine ho_skip rfl rfl rfl rfl rfl rfl ?_
      refine ho_skip rfl rfl rfl rfl rfl rfl ?_
      refine ho_skip rfl rfl rfl rfl rfl rfl ?_
      refine ho_skipu rfl rfl rfl rfl rfl ?_
      refine ho_skipu rfl rfl rfl rfl rfl ?_
      refine ho_skip rfl rfl rfl rfl rfl rfl ?_
      refine ho_val rfl rfl (ex_pick_true rfl rfl) ?_
      refine ho_val rfl rfl (ex_assign rfl) ?_
      refine ho_nil ?_
      refine hk_then_code ?_
      refine hl_ret ?_
      exact hk_ret rfl rfl (fun w' hw' => ⟨ret_bool (by first | (exact absurd hc0 (by decide)) | (rw [Bool.eq_iff_iff]; simp only [mayI, decide_eq_true_eq, true_iff, false_iff, Bool.false_eq_true, beq_iff_eq, Bool.not_eq_true, decide_eq_false_iff_not]; omega)), hw'.below⟩)
    · try simp only [decide_eq_true_eq, decide_eq_false_iff_not, beq_iff_eq, beq_eq_false_iff_ne, bne_iff_ne, bne_eq_false_iff_eq, ne_eq, Int.not_lt, Int.not_le, gt_iff_lt, ge_iff_le, Bool.not_eq_true', Bool.not_eq_false'] at hb1_6
      refine ho_want rfl rfl rfl rfl rfl (ex_move rfl) ?_
      refine ho_want rfl rfl rfl rfl rfl (ex_geq rfl rfl rfl) ?_
      refine ho_want rfl rfl rfl rfl rfl (ex_move rfl) ?_
      refine ho_bool 12 rfl (fun hb1_9 => ?_) (fun hb1_9 => ?_)
      · try simp only [decide_eq_true_eq, decide_eq_false_iff_not, beq_iff_eq, beq_eq_false_iff_ne, bne_iff_ne, bne_eq_false_iff_eq, ne_eq, Int.not_lt, Int.not_le, gt_iff_lt, ge_iff_le, Bool.not_eq_true', Bool.not_eq_false'] at hb1_9
        refine ho_want rfl rfl rfl rfl rfl (ex_move rfl) ?_
        refine ho_want rfl rfl rfl rfl rfl (ex_leq rfl rfl rfl) ?_
        refine ho_want rfl rfl rfl rfl rfl (ex_pick_true rfl rfl) ?_
        refine ho_val rfl rfl (ex_pick_false rfl rfl) ?_
        refine ho_val rfl rfl (ex_move rfl) ?_
        refine ho_bool 17 rfl (fun hb1_14 => ?_) (fun hb1_14 => ?_)
        · try simp only [decide_eq_true_eq, decide_eq_false_iff_not, beq_iff_eq, beq_eq_false_iff_ne, bne_iff_ne, bne_eq_false_iff_eq, ne_eq, Int.not_lt, Int.not_le, gt_iff_lt, ge_iff_le, Bool.not_eq_true', Bool.not_eq_false'] at hb1_14
          refine ho_skip rfl rfl rfl rfl rfl rfl ?_
          refine ho_skip rfl rfl rfl rfl rfl rfl ?_
          refine ho_skip rfl rfl rfl rfl rfl rfl ?_
          refine ho_skipu rfl rfl rfl rfl rfl ?_
          refine ho_skipu rfl rfl rfl rfl rfl ?_
          refine ho_skip rfl rfl rfl rfl rfl rfl ?_
          refine ho_val rfl rfl (ex_pick_true rfl rfl) ?_
          refine ho_val rfl rfl (ex_move rfl) ?_
          refine ho_skip rfl rfl rfl rfl rfl rfl ?_
          refine ho_skip rfl rfl rfl rfl rfl rfl ?_
          refine ho_skip rfl rfl rfl rfl rfl rfl ?_
          refine ho_skipu rfl rfl rfl rfl rfl ?_
          refine ho_skipu rfl rfl rfl rfl rfl ?_
          refine ho_skip rfl rfl rfl rfl rfl rfl ?_
          refine ho_val rfl rfl (ex_pick_true rfl rfl) ?_
          refine ho_val rfl rfl (ex_assign rfl) ?_
          refine ho_nil ?_
          refine hk_then_code ?_
          refine hl_ret ?_
          exact hk_ret rfl rfl (fun w' hw' => ⟨ret_bool (by first | (exact absurd hc0 (by decide)) | (rw [Bool.eq_iff_iff]; simp only [mayI, decide_eq_true_eq, true_iff, false_iff, Bool.false_eq_true, beq_iff_eq, Bool.not_eq_true, decide_eq_false_iff_not]; omega)), hw'.below⟩)
        · try simp only [decide_eq_true_eq, decide_eq_false_iff_not, beq_iff_eq, beq_eq_false_iff_ne, bne_iff_ne, bne_eq_false_iff_eq, ne_eq, Int.not_lt, Int.not_le, gt_iff_lt, ge_iff_le, Bool.not_eq_true', Bool.not_eq_false'] at hb1_14
          refine ho_want rfl rfl rfl rfl rfl (ex_move rfl) ?_
          refine ho_want rfl rfl rfl rfl rfl (ex_geq rfl rfl rfl) ?_
          refine ho_want rfl rfl rfl rfl rfl (ex_move rfl) ?_
          refine ho_bool 20 rfl (fun hb1_17 => ?_) (fun hb1_17 => ?_)
          · try simp only [decide_eq_true_eq, decide_eq_false_iff_not, beq_iff_eq, beq_eq_false_iff_ne, bne_iff_ne, bne_eq_false_iff_eq, ne_eq, Int.not_lt, Int.not_le, gt_iff_lt, ge_iff_le, Bool.not_eq_true', Bool.not_eq_false'] at hb1_17
            refine ho_want rfl rfl rfl rfl rfl (ex_move rfl) ?_
            refine ho_want rfl rfl rfl rfl rfl (ex_leq rfl rfl rfl) ?_
            refine ho_want rfl rfl rfl rfl rfl (ex_pick_true rfl rfl) ?_
            refine ho_val rfl rfl (ex_pick_false rfl rfl) ?_
            refine ho_val rfl rfl (ex_move rfl) ?_
            refine ho_bool 25 rfl (fun hb1_22 => ?_) (fun hb1_22 => ?_)
            · try simp only [decide_eq_true_eq, decide_eq_false_iff_not, beq_iff_eq, beq_eq_false_iff_ne, bne_iff_ne, bne_eq_false_iff_eq, ne_eq, Int.not_lt, Int.not_le, gt_iff_lt, ge_iff_le, Bool.not_eq_true', Bool.not_eq_false'] at hb1_22
              refine ho_skip rfl rfl rfl rfl rfl rfl ?_
              refine ho_skip rfl rfl rfl rfl rfl rfl ?_
              refine ho_skip rfl rfl rfl rfl rfl rfl ?_
              refine ho_skipu rfl rfl rfl rfl rfl ?_
              refine ho_skipu rfl rfl rfl rfl rfl ?_
              refine ho_skip rfl rfl rfl rfl rfl rfl ?_
              refine ho_val rfl rfl (ex_pick_true rfl rfl) ?_
              refine ho_val rfl rfl (ex_assign rfl) ?_
              refine ho_nil ?_
              refine hk_then_code ?_
              refine hl_ret ?_
              exact hk_ret rfl rfl (fun w' hw' => ⟨ret_bool (by first | (exact absurd hc0 (by decide)) | (rw [Bool.eq_iff_iff]; simp only [mayI, decide_eq_true_eq, true_iff, false_iff, Bool.false_eq_true, beq_iff_eq, Bool.not_eq_true, decide_eq_false_iff_not]; omega)), hw'.below⟩)
            · try simp only [decide_eq_true_eq, decide_eq_false_iff_not, beq_iff_eq, beq_eq_false_iff_ne, bne_iff_ne, bne_eq_false_iff_eq, ne_eq, Int.not_lt, Int.not_le, gt_iff_lt, ge_iff_le, Bool.not_eq_true', Bool.not_eq_false'] at hb1_22
              refine ho_want rfl rfl rfl rfl rfl (ex_move rfl) ?_
              refine ho_want rfl rfl rfl rfl rfl (ex_lss rfl rfl rfl) ?_
              refine ho_want rfl rfl rfl rfl rfl (ex_move rfl) ?_
              refine ho_bool 28 rfl (fun hb1_25 => ?_) (fun hb1_25 => ?_)
              · try simp only [decide_eq_true_eq, decide_eq_false_iff_not, beq_iff_eq, beq_eq_false_iff_ne, bne_iff_ne, bne_eq_false_iff_eq, ne_eq, Int.not_lt, Int.not_le, gt_iff_lt, ge_iff_le, Bool.not_eq_true', Bool.not_eq_false'] at hb1_25
                refine ho_want rfl rfl rfl rfl rfl (ex_move rfl) ?_
                refine ho_do_want rfl rfl rfl rfl rfl (exw_call_pure Try.func53 rfl (by kernel_rfl) rfl (fun w' hw' => containsrune_any [43, 45, 46, 95, 63, 61] r (by omega) w')) (fun _ _ => ?_)
                refine ho_want rfl rfl rfl rfl rfl (ex_pick_true rfl rfl) ?_
                refine ho_val rfl rfl (ex_pick_false rfl rfl) ?_
                refine ho_val rfl rfl (ex_assign rfl) ?_
                refine ho_nil ?_
                refine hk_then_code ?_
                refine hl_ret ?_
                exact hk_ret rfl rfl (fun w' hw' => ⟨ret_bool (by rw [marks_may r (by omega), Bool.eq_iff_iff]; simp only [mayI, decide_eq_true_eq, true_iff, false_iff, Bool.false_eq_true, beq_iff_eq, Bool.not_eq_true, decide_eq_false_iff_not]; omega), hw'.below⟩)
              · try simp only [decide_eq_true_eq, decide_eq_false_iff_not, beq_iff_eq, beq_eq_false_iff_ne, bne_iff_ne, bne_eq_false_iff_eq, ne_eq, Int.not_lt, Int.not_le, gt_iff_lt, ge_iff_le, Bool.not_eq_true', Bool.not_eq_false'] at hb1_25
                refine ho_skip rfl rfl rfl rfl rfl rfl ?_
                refine ho_skip rfl rfl rfl rfl rfl rfl ?_
                refine ho_want rfl rfl rfl rfl rfl (ex_pick_false rfl rfl) ?_
                refine ho_val rfl rfl (ex_pick_false rfl rfl) ?_
                refine ho_val rfl rfl (ex_assign rfl) ?_
                refine ho_nil ?_
                refine hk_then_code ?_
                refine hl_ret ?_
                exact hk_ret rfl rfl (fun w' hw' => ⟨ret_bool (by first | (exact absurd hc0 (by decide)) | (rw [Bool.eq_iff_iff]; simp only [mayI, decide_eq_true_eq, true_iff, false_iff, Bool.false_eq_true, beq_iff_eq, Bool.not_eq_true, decide_eq_false_iff_not]; omega)), hw'.below⟩)
          · try simp only [decide_eq_true_eq, decide_eq_false_iff_not, beq_iff_eq, beq_eq_false_iff_ne, bne_iff_ne, bne_eq_false_iff_eq, ne_eq, Int.not_lt, Int.not_le, gt_iff_lt, ge_iff_le, Bool.not_eq_true', Bool.not_eq_false'] at hb1_17
            refine ho_skip rfl rfl rfl rfl rfl rfl ?_
            refine ho_skip rfl rfl rfl rfl rfl rfl ?_
            refine ho_want rfl rfl rfl rfl rfl (ex_pick_false rfl rfl) ?_
            refine ho_val rfl rfl (ex_pick_false rfl rfl) ?_
            refine ho_val rfl rfl (ex_move rfl) ?_
            refine ho_want rfl rfl rfl rfl rfl (ex_move rfl) ?_
            refine ho_want rfl rfl rfl rfl rfl (ex_lss rfl rfl rfl) ?_
            refine ho_want rfl rfl rfl rfl rfl (ex_move rfl) ?_
            refine ho_bool 28 rfl (fun hb1_25 => ?_) (fun hb1_25 => ?_)
            · try simp only [decide_eq_true_eq, decide_eq_false_iff_not, beq_iff_eq, beq_eq_false_iff_ne, bne_iff_ne, bne_eq_false_iff_eq, ne_eq, Int.not_lt, Int.not_le, gt_iff_lt, ge_iff_le, Bool.not_eq_true', Bool.not_eq_false'] at hb1_25
              refine ho_want rfl rfl rfl rfl rfl (ex_move rfl) ?_
              refine ho_do_want rfl rfl rfl rfl rfl (exw_call_pure Try.func53 rfl (by kernel_rfl) rfl (fun w' hw' => containsrune_any [43, 45, 46, 95, 63, 61] r (by omega) w')) (fun _ _ => ?_)
              refine ho_want rfl rfl rfl rfl rfl (ex_pick_true rfl rfl) ?_
              refine ho_val rfl rfl (ex_pick_false rfl rfl) ?_
              refine ho_val rfl rfl (ex_assign rfl) ?_
              refine ho_nil ?_
              refine hk_then_code ?_
              refine hl_ret ?_
              exact hk_ret rfl rfl (fun w' hw' => ⟨ret_bool (by rw [marks_may r (by omega), Bool.eq_iff_iff]; simp only [mayI, decide_eq_true_eq, true_iff, false_iff, Bool.false_eq_true, beq_iff_eq, Bool.not_eq_true, decide_eq_false_iff_not]; omega), hw'.below⟩)
            · try simp only [decide_eq_true_eq, decide_eq_false_iff_not, beq_iff_eq, beq_eq_false_iff_ne, bne_iff_ne, bne_eq_false_iff_eq, ne_eq, Int.not_lt, Int.not_le, gt_iff_lt, ge_iff_le, Bool.not_eq_true', Bool.not_eq_false'] at hb1_25
              refine ho_skip rfl rfl rfl rfl rfl rfl ?_
              refine ho_skip rfl rfl rfl rfl rfl rfl ?_
              refine ho_want rfl rfl rfl rfl rfl (ex_pick_false rfl rfl) ?_
              refine ho_val rfl rfl (ex_pick_false rfl rfl) ?_
              refine ho_val rfl rfl (ex_assign rfl) ?_
              refine ho_nil ?_
              refine hk_then_code ?_
              refine hl_ret ?_
              exact hk_ret rfl rfl (fun w' hw' => ⟨ret_bool (by first | (exact absurd hc0 (by decide)) | (rw [Bool.eq_iff_iff]; simp only [mayI, decide_eq_true_eq, true_iff, false_iff, Bool.false_eq_true, beq_iff_eq, Bool.not_eq_true, decide_eq_false_iff_not]; omega)), hw'.below⟩)
      · try simp only [decide_eq_true_eq, decide_eq_false_iff_not, beq_iff_eq, beq_eq_false_iff_ne, bne_iff_ne, bne_eq_false_iff_eq, ne_eq, Int.not_lt, Int.not_le, gt_iff_lt, ge_iff_le, Bool.not_eq_true', Bool.not_eq_false'] at hb1_9
        refine ho_skip rfl rfl rfl rfl rfl rfl ?_
        refine ho_skip rfl rfl rfl rfl rfl rfl ?_
        refine ho_want rfl rfl rfl rfl rfl (ex_pick_false rfl rfl) ?_
        refine ho_val rfl rfl (ex_pick_false rfl rfl) ?_
        refine ho_val rfl rfl (ex_move rfl) ?_
        refine ho_want rfl rfl rfl rfl rfl (ex_move rfl) ?_
        refine ho_want rfl rfl rfl rfl rfl (ex_geq rfl rfl rfl) ?_
        refine ho_want rfl rfl rfl rfl rfl (ex_move rfl) ?_
        refine ho_bool 20 rfl (fun hb1_17 => ?_) (fun hb1_17 => ?_)
        · try simp only [decide_eq_true_eq, decide_eq_false_iff_not, beq_iff_eq, beq_eq_false_iff_ne, bne_iff_ne, bne_eq_false_iff_eq, ne_eq, Int.not_lt, Int.not_le, gt_iff_lt, ge_iff_le, Bool.not_eq_true', Bool.not_eq_false'] at hb1_17
          refine ho_want rfl rfl rfl rfl rfl (ex_move rfl) ?_
          refine ho_want rfl rfl rfl rfl rfl (ex_leq rfl rfl rfl) ?_
          refine ho_want rfl rfl rfl rfl rfl (ex_pick_true rfl rfl) ?_
          refine ho_val rfl rfl (ex_pick_false rfl rfl) ?_
          refine ho_val rfl rfl (ex_move rfl) ?_
          refine ho_bool 25 rfl (fun hb1_22 => ?_) (fun hb1_22 => ?_)
          · try simp only [decide_eq_true_eq, decide_eq_false_iff_not, beq_iff_eq, beq_eq_false_iff_ne, bne_iff_ne, bne_eq_false_iff_eq, ne_eq, Int.not_lt, Int.not_le, gt_iff_lt, ge_iff_le, Bool.not_eq_true', Bool.not_eq_false'] at hb1_22
            refine ho_skip rfl rfl rfl rfl rfl rfl ?_
            refine ho_skip rfl rfl rfl rfl rfl rfl ?_
            refine ho_skip rfl rfl rfl rfl rfl rfl ?_
            refine ho_skipu rfl rfl rfl rfl rfl ?_
            refine ho_skipu rfl rfl rfl rfl rfl ?_
            refine ho_skip rfl rfl rfl rfl rfl rfl ?_
            refine ho_val rfl rfl (ex_pick_true rfl rfl) ?_
            refine ho_val rfl rfl (ex_assign rfl) ?_
            refine ho_nil ?_
            refine hk_then_code ?_
            refine hl_ret ?_
            exact hk_ret rfl rfl (fun w' hw' => ⟨ret_bool (by first | (exact absurd hc0 (by decide)) | (rw [Bool.eq_iff_iff]; simp only [mayI, decide_eq_true_eq, true_iff, false_iff, Bool.false_eq_true, beq_iff_eq, Bool.not_eq_true, decide_eq_false_iff_not]; omega)), hw'.below⟩)
          · try simp only [decide_eq_true_eq, decide_eq_false_iff_not, beq_iff_eq, beq_eq_false_iff_ne, bne_iff_ne, bne_eq_false_iff_eq, ne_eq, Int.not_lt, Int.not_le, gt_iff_lt, ge_iff_le, Bool.not_eq_true', Bool.not_eq_false'] at hb1_22
            refine ho_want rfl rfl rfl rfl rfl (ex_move rfl) ?_
            refine ho_want rfl rfl rfl rfl rfl (ex_lss rfl rfl rfl) ?_
            refine ho_want rfl rfl rfl rfl rfl (ex_move rfl) ?_
            refine ho_bool 28 rfl (fun hb1_25 => ?_) (fun hb1_25 => ?_)
            · try simp only [decide_eq_true_eq, decide_eq_false_iff_not, beq_iff_eq, beq_eq_false_iff_ne, bne_iff_ne, bne_eq_false_iff_eq, ne_eq, Int.not_lt, Int.not_le, gt_iff_lt, ge_iff_le, Bool.not_eq_true', Bool.not_eq_false'] at hb1_25
              refine ho_want rfl rfl rfl rfl rfl (ex_move rfl) ?_
              refine ho_do_want rfl rfl rfl rfl rfl (exw_call_pure Try.func53 rfl (by kernel_rfl) rfl (fun w' hw' => containsrune_any [43, 45, 46, 95, 63, 61] r (by omega) w')) (fun _ _ => ?_)
              refine ho_want rfl rfl rfl rfl rfl (ex_pick_true rfl rfl) ?_
              refine ho_val rfl rfl (ex_pick_false rfl rfl) ?_
              refine ho_val rfl rfl (ex_assign rfl) ?_
              refine ho_nil ?_
              refine hk_then_code ?_
              refine hl_ret ?_
              exact hk_ret rfl rfl (fun w' hw' => ⟨ret_bool (by rw [marks_may r (by omega), Bool.eq_iff_iff]; simp only [mayI, decide_eq_true_eq, true_iff, false_iff, Bool.false_eq_true, beq_iff_eq, Bool.not_eq_true, decide_eq_false_iff_not]; omega), hw'.below⟩)
            · try simp only [decide_eq_true_eq, decide_eq_false_iff_not, beq_iff_eq, beq_eq_false_iff_ne, bne_iff_ne, bne_eq_false_iff_eq, ne_eq, Int.not_lt, Int.not_le, gt_iff_lt, ge_iff_le, Bool.not_eq_true', Bool.not_eq_false'] at hb1_25
              refine ho_skip rfl rfl rfl rfl rfl rfl ?_
              refine ho_skip rfl rfl rfl rfl rfl rfl ?_
              refine ho_want rfl rfl rfl rfl rfl (ex_pick_false rfl rfl) ?_
              refine ho_val rfl rfl (ex_pick_false rfl rfl) ?_
              refine ho_val rfl rfl (ex_assign rfl) ?_
              refine ho_nil ?_
              refine hk_then_code ?_
              refine hl_ret ?_
              exact hk_ret rfl rfl (fun w' hw' => ⟨ret_bool (by first | (exact absurd hc0 (by decide)) | (rw [Bool.eq_iff_iff]; simp only [mayI, decide_eq_true_eq, true_iff, false_iff, Bool.false_eq_true, beq_iff_eq, Bool.not_eq_true, decide_eq_false_iff_not]; omega)), hw'.below⟩)
        · try simp only [decide_eq_true_eq, decide_eq_false_iff_not, beq_iff_eq, beq_eq_false_iff_ne, bne_iff_ne, bne_eq_false_iff_eq, ne_eq, Int.not_lt, Int.not_le, gt_iff_lt, ge_iff_le, Bool.not_eq_true', Bool.not_eq_false'] at hb1_17
          refine ho_skip rfl rfl rfl rfl rfl rfl ?_
          refine ho_skip rfl rfl rfl rfl rfl rfl ?_
          refine ho_want rfl rfl rfl rfl rfl (ex_pick_false rfl rfl) ?_
          refine ho_val rfl rfl (ex_pick_false rfl rfl) ?_
          refine ho_val rfl rfl (ex_move rfl) ?_
          refine ho_want rfl rfl rfl rfl rfl (ex_move rfl) ?_
          refine ho_want rfl rfl rfl rfl rfl (ex_lss rfl rfl rfl) ?_
          refine ho_want rfl rfl rfl rfl rfl (ex_move rfl) ?_
          refine ho_bool 28 rfl (fun hb1_25 => ?_) (fun hb1_25 => ?_)
          · try simp only [decide_eq_true_eq, decide_eq_false_iff_not, beq_iff_eq, beq_eq_false_iff_ne, bne_iff_ne, bne_eq_false_iff_eq, ne_eq, Int.not_lt, Int.not_le, gt_iff_lt, ge_iff_le, Bool.not_eq_true', Bool.not_eq_false'] at hb1_25
            refine ho_want rfl rfl rfl rfl rfl (ex_move rfl) ?_
            refine ho_do_want rfl rfl rfl rfl rfl (exw_call_pure Try.func53 rfl (by kernel_rfl) rfl (fun w' hw' => containsrune_any [43, 45, 46, 95, 63, 61] r (by omega) w')) (fun _ _ => ?_)
            refine ho_want rfl rfl rfl rfl rfl (ex_pick_true rfl rfl) ?_
            refine ho_val rfl rfl (ex_pick_false rfl rfl) ?_
            refine ho_val rfl rfl (ex_assign rfl) ?_
            refine ho_nil ?_
            refine hk_then_code ?_
            refine hl_ret ?_
            exact hk_ret rfl rfl (fun w' hw' => ⟨ret_bool (by rw [marks_may r (by omega), Bool.eq_iff_iff]; simp only [mayI, decide_eq_true_eq, true_iff, false_iff, Bool.false_eq_true, beq_iff_eq, Bool.not_eq_true, decide_eq_false_iff_not]; omega), hw'.below⟩)
          · try simp only [decide_eq_true_eq, decide_eq_false_iff_not, beq_iff_eq, beq_eq_false_iff_ne, bne_iff_ne, bne_eq_false_iff_eq, ne_eq, Int.not_lt, Int.not_le, gt_iff_lt, ge_iff_le, Bool.not_eq_true', Bool.not_eq_false'] at hb1_25
            refine ho_skip rfl rfl rfl rfl rfl rfl ?_
            refine ho_skip rfl rfl rfl rfl rfl rfl ?_
            refine ho_want rfl rfl rfl rfl rfl (ex_pick_false rfl rfl) ?_
            refine ho_val rfl rfl (ex_pick_false rfl rfl) ?_
            refine ho_val rfl rfl (ex_assign rfl) ?_
            refine ho_nil ?_
            refine hk_then_code ?_
            refine hl_ret ?_
            exact hk_ret rfl rfl (fun w' hw' => ⟨ret_bool (by first | (exact absurd hc0 (by decide)) | (rw [Bool.eq_iff_iff]; simp only [mayI, decide_eq_true_eq, true_iff, false_iff, Bool.false_eq_true, beq_iff_eq, Bool.not_eq_true, decide_eq_false_iff_not]; omega)), hw'.below⟩)
  · try simp only [decide_eq_true_eq, decide_eq_false_iff_not, beq_iff_eq, beq_eq_false_iff_ne, bne_iff_ne, bne_eq_false_iff_eq, ne_eq, Int.not_lt, Int.not_le, gt_iff_lt, ge_iff_le, Bool.not_eq_true', Bool.not_eq_false'] at hb1_2
    refine ho_skip rfl rfl rfl rfl rfl rfl ?_
    refine ho_skip rfl rfl rfl rfl rfl rfl ?_
    refine ho_val rfl rfl (ex_pick_false rfl rfl) ?_
    refine ho_val rfl rfl (ex_move rfl) ?_
    refine ho_want rfl rfl rfl rfl rfl (ex_move rfl) ?_
    refine ho_want rfl rfl rfl rfl rfl (ex_geq rfl rfl rfl) ?_
    refine ho_want rfl rfl rfl rfl rfl (ex_move rfl) ?_
    refine ho_bool 12 rfl (fun hb1_9 => ?_) (fun hb1_9 => ?_)
    · try simp only [decide_eq_true_eq, decide_eq_false_iff_not, beq_iff_eq, beq_eq_false_iff_ne, bne_iff_ne, bne_eq_false_iff_eq, ne_eq, Int.not_lt, Int.not_le, gt_iff_lt, ge_iff_le, Bool.not_eq_true', Bool.not_eq_false'] at hb1_9
      refine ho_want rfl rfl rfl rfl rfl (ex_move rfl) ?_
      refine ho_want rfl rfl rfl rfl rfl (ex_leq rfl rfl rfl) ?_
      refine ho_want rfl rfl rfl rfl rfl (ex_pick_true rfl rfl) ?_
      refine ho_val rfl rfl (ex_pick_false rfl rfl) ?_
      refine ho_val rfl rfl (ex_move rfl) ?_
      refine ho_bool 17 rfl (fun hb1_14 => ?_) (fun hb1_14 => ?_)
      · try simp only [decide_eq_true_eq, decide_eq_false_iff_not, beq_iff_eq, beq_eq_false_iff_ne, bne_iff_ne, bne_eq_false_iff_eq, ne_eq, Int.not_lt, Int.not_le, gt_iff_lt, ge_iff_le, Bool.not_eq_true', Bool.not_eq_false'] at hb1_14
        refine ho_skip rfl rfl rfl rfl rfl rfl ?_
        refine ho_skip rfl rfl rfl rfl rfl rfl ?_
        refine ho_skip rfl rfl rfl rfl rfl rfl ?_
        refine ho_skipu rfl rfl rfl rfl rfl ?_
        refine ho_skipu rfl rfl rfl rfl rfl ?_
        refine ho_skip rfl rfl rfl rfl rfl rfl ?_
        refine ho_val rfl rfl (ex_pick_true rfl rfl) ?_
        refine ho_val rfl rfl (ex_move rfl) ?_
        refine ho_skip rfl rfl rfl rfl rfl rfl ?_
        refine ho_skip rfl rfl rfl rfl rfl rfl ?_
        refine ho_skip rfl rfl rfl rfl rfl rfl ?_
        refine ho_skipu rfl rfl rfl rfl rfl ?_
        refine ho_skipu rfl rfl rfl rfl rfl ?_
        refine ho_skip rfl rfl rfl rfl rfl rfl ?_
        refine ho_val rfl rfl (ex_pick_true rfl rfl) ?_
        refine ho_val rfl rfl (ex_assign rfl) ?_
        refine ho_nil ?_
        refine hk_then_code ?_
        refine hl_ret ?_
        exact hk_ret rfl rfl (fun w' hw' => ⟨ret_bool (by first | (exact absurd hc0 (by decide)) | (rw [Bool.eq_iff_iff]; simp only [mayI, decide_eq_true_eq, true_iff, false_iff, Bool.false_eq_true, beq_iff_eq, Bool.not_eq_true, decide_eq_false_iff_not]; omega)), hw'.below⟩)
      · try simp only [decide_eq_true_eq, decide_eq_false_iff_not, beq_iff_eq, beq_eq_false_iff_ne, bne_iff_ne, bne_eq_false_iff_eq, ne_eq, Int.not_lt, Int.not_le, gt_iff_lt, ge_iff_le, Bool.not_eq_true', Bool.not_eq_false'] at hb1_14
        refine ho_want rfl rfl rfl rfl rfl (ex_move rfl) ?_
        refine ho_want rfl rfl rfl rfl rfl (ex_geq rfl rfl rfl) ?_
        refine ho_want rfl rfl rfl rfl rfl (ex_move rfl) ?_
        refine ho_bool 20 rfl (fun hb1_17 => ?_) (fun hb1_17 => ?_)
        · try simp only [decide_eq_true_eq, decide_eq_false_iff_not, beq_iff_eq, beq_eq_false_iff_ne, bne_iff_ne, bne_eq_false_iff_eq, ne_eq, Int.not_lt, Int.not_le, gt_iff_lt, ge_iff_le, Bool.not_eq_true', Bool.not_eq_false'] at hb1_17
          refine ho_want rfl rfl rfl rfl rfl (ex_move rfl) ?_
          refine ho_want rfl rfl rfl rfl rfl (ex_leq rfl rfl rfl) ?_
          refine ho_want rfl rfl rfl rfl rfl (ex_pick_true rfl rfl) ?_
          refine ho_val rfl rfl (ex_pick_false rfl rfl) ?_
          refine ho_val rfl rfl (ex_move rfl) ?_
          refine ho_bool 25 rfl (fun hb1_22 => ?_) (fun hb1_22 => ?_)
          · try simp only [decide_eq_true_eq, decide_eq_false_iff_not, beq_iff_eq, beq_eq_false_iff_ne, bne_iff_ne, bne_eq_false_iff_eq, ne_eq, Int.not_lt, Int.not_le, gt_iff_lt, ge_iff_le, Bool.not_eq_true', Bool.not_eq_false'] at hb1_22
            refine ho_skip rfl rfl rfl rfl rfl rfl ?_
            refine ho_skip rfl rfl rfl rfl rfl rfl ?_
            refine ho_skip rfl rfl rfl rfl rfl rfl ?_
            refine ho_skipu rfl rfl rfl rfl rfl ?_
            refine ho_skipu rfl rfl rfl rfl rfl ?_
            refine ho_skip rfl rfl rfl rfl rfl rfl ?_
            refine ho_val rfl rfl (ex_pick_true rfl rfl) ?_
            refine ho_val rfl rfl (ex_assign rfl) ?_
            refine ho_nil ?_
            refine hk_then_code ?_
            refine hl_ret ?_
            exact hk_ret rfl rfl (fun w' hw' => ⟨ret_bool (by first | (exact absurd hc0 (by decide)) | (rw [Bool.eq_iff_iff]; simp only [mayI, decide_eq_true_eq, true_iff, false_iff, Bool.false_eq_true, beq_iff_eq, Bool.not_eq_true, decide_eq_false_iff_not]; omega)), hw'.below⟩)
          · try simp only [decide_eq_true_eq, decide_eq_false_iff_not, beq_iff_eq, beq_eq_false_iff_ne, bne_iff_ne, bne_eq_false_iff_eq, ne_eq, Int.not_lt, Int.not_le, gt_iff_lt, ge_iff_le, Bool.not_eq_true', Bool.not_eq_false'] at hb1_22
            refine ho_want rfl rfl rfl rfl rfl (ex_move rfl) ?_
            refine ho_want rfl rfl rfl rfl rfl (ex_lss rfl rfl rfl) ?_
            refine ho_want rfl rfl rfl rfl rfl (ex_move rfl) ?_
            refine ho_bool 28 rfl (fun hb1_25 => ?_) (fun hb1_25 => ?_)
            · try simp only [decide_eq_true_eq, decide_eq_false_iff_not, beq_iff_eq, beq_eq_false_iff_ne, bne_iff_ne, bne_eq_false_iff_eq, ne_eq, Int.not_lt, Int.not_le, gt_iff_lt, ge_iff_le, Bool.not_eq_true', Bool.not_eq_false'] at hb1_25
              refine ho_want rfl rfl rfl rfl rfl (ex_move rfl) ?_
              refine ho_do_want rfl rfl rfl rfl rfl (exw_call_pure Try.func53 rfl (by kernel_rfl) rfl (fun w' hw' => containsrune_any [43, 45, 46, 95, 63, 61] r (by omega) w')) (fun _ _ => ?_)
              refine ho_want rfl rfl rfl rfl rfl (ex_pick_true rfl rfl) ?_
              refine ho_val rfl rfl (ex_pick_false rfl rfl) ?_
              refine ho_val rfl rfl (ex_assign rfl) ?_
              refine ho_nil ?_
              refine hk_then_code ?_
              refine hl_ret ?_
              exact hk_ret rfl rfl (fun w' hw' => ⟨ret_bool (by rw [marks_may r (by omega), Bool.eq_iff_iff]; simp only [mayI, decide_eq_true_eq, true_iff, false_iff, Bool.false_eq_true, beq_iff_eq, Bool.not_eq_true, decide_eq_false_iff_not]; omega), hw'.below⟩)
            · try simp only [decide_eq_true_eq, decide_eq_false_iff_not, beq_iff_eq, beq_eq_false_iff_ne, bne_iff_ne, bne_eq_false_iff_eq, ne_eq, Int.not_lt, Int.not_le, gt_iff_lt, ge_iff_le, Bool.not_eq_true', Bool.not_eq_false'] at hb1_25
              refine ho_skip rfl rfl rfl rfl rfl rfl ?_
              refine ho_skip rfl rfl rfl rfl rfl rfl ?_
              refine ho_want rfl rfl rfl rfl rfl (ex_pick_false rfl rfl) ?_
              refine ho_val rfl rfl (ex_pick_false rfl rfl) ?_
              refine ho_val rfl rfl (ex_assign rfl) ?_
              refine ho_nil ?_
              refine hk_then_code ?_
              refine hl_ret ?_
              exact hk_ret rfl rfl (fun w' hw' => ⟨ret_bool (by first | (exact absurd hc0 (by decide)) | (rw [Bool.eq_iff_iff]; simp only [mayI, decide_eq_true_eq, true_iff, false_iff, Bool.false_eq_true, beq_iff_eq, Bool.not_eq_true, decide_eq_false_iff_not]; omega)), hw'.below⟩)
        · try simp only [decide_eq_true_eq, decide_eq_false_iff_not, beq_iff_eq, beq_eq_false_iff_ne, bne_iff_ne, bne_eq_false_iff_eq, ne_eq, Int.not_lt, Int.not_le, gt_iff_lt, ge_iff_le, Bool.not_eq_true', Bool.not_eq_false'] at hb1_17
          refine ho_skip rfl rfl rfl rfl rfl rfl ?_
          refine ho_skip rfl rfl rfl rfl rfl rfl ?_
          refine ho_want rfl rfl rfl rfl rfl (ex_pick_false rfl rfl) ?_
          refine ho_val rfl rfl (ex_pick_false rfl rfl) ?_
          refine ho_val rfl rfl (ex_move rfl) ?_
          refine ho_want rfl rfl rfl rfl rfl (ex_move rfl) ?_
          refine ho_want rfl rfl rfl rfl rfl (ex_lss rfl rfl rfl) ?_
          refine ho_want rfl rfl rfl rfl rfl (ex_move rfl) ?_
          refine ho_bool 28 rfl (fun hb1_25 => ?_) (fun hb1_25 => ?_)
          · try simp only [decide_eq_true_eq, decide_eq_false_iff_not, beq_iff_eq, beq_eq_false_iff_ne, bne_iff_ne, bne_eq_false_iff_eq, ne_eq, Int.not_lt, Int.not_le, gt_iff_lt, ge_iff_le, Bool.not_eq_true', Bool.not_eq_false'] at hb1_25
            refine ho_want rfl rfl rfl rfl rfl (ex_move rfl) ?_
            refine ho_do_want rfl rfl rfl rfl rfl (exw_call_pure Try.func53 rfl (by kernel_rfl) rfl (fun w' hw' => containsrune_any [43, 45, 46, 95, 63, 61] r (by omega) w')) (fun _ _ => ?_)
            refine ho_want rfl rfl rfl rfl rfl (ex_pick_true rfl rfl) ?_
            refine ho_val rfl rfl (ex_pick_false rfl rfl) ?_
            refine ho_val rfl rfl (ex_assign rfl) ?_
            refine ho_nil ?_
            refine hk_then_code ?_
            refine hl_ret ?_
            exact hk_ret rfl rfl (fun w' hw' => ⟨ret_bool (by rw [marks_may r (by omega), Bool.eq_iff_iff]; simp only [mayI, decide_eq_true_eq, true_iff, false_iff, Bool.false_eq_true, beq_iff_eq, Bool.not_eq_true, decide_eq_false_iff_not]; omega), hw'.below⟩)
          · try simp only [decide_eq_true_eq, decide_eq_false_iff_not, beq_iff_eq, beq_eq_false_iff_ne, bne_iff_ne, bne_eq_false_iff_eq, ne_eq, Int.not_lt, Int.not_le, gt_iff_lt, ge_iff_le, Bool.not_eq_true', Bool.not_eq_false'] at hb1_25
            refine ho_skip rfl rfl rfl rfl rfl rfl ?_
            refine ho_skip rfl rfl rfl rfl rfl rfl ?_
            refine ho_want rfl rfl rfl rfl rfl (ex_pick_false rfl rfl) ?_
            refine ho_val rfl rfl (ex_pick_false rfl rfl) ?_
            refine ho_val rfl rfl (ex_assign rfl) ?_
            refine ho_nil ?_
            refine hk_then_code ?_
            refine hl_ret ?_
            exact hk_ret rfl rfl (fun w' hw' => ⟨ret_bool (by first | (exact absurd hc0 (by decide)) | (rw [Bool.eq_iff_iff]; simp only [mayI, decide_eq_true_eq, true_iff, false_iff, Bool.false_eq_true, beq_iff_eq, Bool.not_eq_true, decide_eq_false_iff_not]; omega)), hw'.below⟩)
    · try simp only [decide_eq_true_eq, decide_eq_false_iff_not, beq_iff_eq, beq_eq_false_iff_ne, bne_iff_ne, bne_eq_false_iff_eq, ne_eq, Int.not_lt, Int.not_le, gt_iff_lt, ge_iff_le, Bool.not_eq_true', Bool.not_eq_false'] at hb1_9
      refine ho_skip rfl rfl rfl rfl rfl rfl ?_
      refine ho_skip rfl rfl rfl rfl rfl rfl ?_
      refine ho_want rfl rfl rfl rfl rfl (ex_pick_false rfl rfl) ?_
      refine ho_val rfl rfl (ex_pick_false rfl rfl) ?_
      refine ho_val rfl rfl (ex_move rfl) ?_
      refine ho_want rfl rfl rfl rfl rfl (ex_move rfl) ?_
      refine ho_want rfl rfl rfl rfl rfl (ex_geq rfl rfl rfl) ?_
      refine ho_want rfl rfl rfl rfl rfl (ex_move rfl) ?_
      refine ho_bool 20 rfl (fun hb1_17 => ?_) (fun hb1_17 => ?_)
      · try simp only [decide_eq_true_eq, decide_eq_false_iff_not, beq_iff_eq, beq_eq_false_iff_ne, bne_iff_ne, bne_eq_false_iff_eq, ne_eq, Int.not_lt, Int.not_le, gt_iff_lt, ge_iff_le, Bool.not_eq_true', Bool.not_eq_false'] at hb1_17
        refine ho_want rfl rfl rfl rfl rfl (ex_move rfl) ?_
        refine ho_want rfl rfl rfl rfl rfl (ex_leq rfl rfl rfl) ?_
        refine ho_want rfl rfl rfl rfl rfl (ex_pick_true rfl rfl) ?_
        refine ho_val rfl rfl (ex_pick_false rfl rfl) ?_
        refine ho_val rfl rfl (ex_move rfl) ?_
        refine ho_bool 25 rfl (fun hb1_22 => ?_) (fun hb1_22 => ?_)
        · try simp only [decide_eq_true_eq, decide_eq_false_iff_not, beq_iff_eq, beq_eq_false_iff_ne, bne_iff_ne, bne_eq_false_iff_eq, ne_eq, Int.not_lt, Int.not_le, gt_iff_lt, ge_iff_le, Bool.not_eq_true', Bool.not_eq_false'] at hb1_22
          refine ho_skip rfl rfl rfl rfl rfl rfl ?_
          refine ho_skip rfl rfl rfl rfl rfl rfl ?_
          refine ho_skip rfl rfl rfl rfl rfl rfl ?_
          refine ho_skipu rfl rfl rfl rfl rfl ?_
          refine ho_skipu rfl rfl rfl rfl rfl ?_
          refine ho_skip rfl rfl rfl rfl rfl rfl ?_
          refine ho_val rfl rfl (ex_pick_true rfl rfl) ?_
          refine ho_val rfl rfl (ex_assign rfl) ?_
          refine ho_nil ?_
          refine hk_then_code ?_
          refine hl_ret ?_
          exact hk_ret rfl rfl (fun w' hw' => ⟨ret_bool (by first | (exact absurd hc0 (by decide)) | (rw [Bool.eq_iff_iff]; simp only [mayI, decide_eq_true_eq, true_iff, false_iff, Bool.false_eq_true, beq_iff_eq, Bool.not_eq_true, decide_eq_false_iff_not]; omega)), hw'.below⟩)
        · try simp only [decide_eq_true_eq, decide_eq_false_iff_not, beq_iff_eq, beq_eq_false_iff_ne, bne_iff_ne, bne_eq_false_iff_eq, ne_eq, Int.not_lt, Int.not_le, gt_iff_lt, ge_iff_le, Bool.not_eq_true', Bool.not_eq_false'] at hb1_22
          refine ho_want rfl rfl rfl rfl rfl (ex_move rfl) ?_
          refine ho_want rfl rfl rfl rfl rfl (ex_lss rfl rfl rfl) ?_
          refine ho_want rfl rfl rfl rfl rfl (ex_move rfl) ?_
          refine ho_bool 28 rfl (fun hb1_25 => ?_) (fun hb1_25 => ?_)
          · try simp only [decide_eq_true_eq, decide_eq_false_iff_not, beq_iff_eq, beq_eq_false_iff_ne, bne_iff_ne, bne_eq_false_iff_eq, ne_eq, Int.not_lt, Int.not_le, gt_iff_lt, ge_iff_le, Bool.not_eq_true', Bool.not_eq_false'] at hb1_25
            refine ho_want rfl rfl rfl rfl rfl (ex_move rfl) ?_
            refine ho_do_want rfl rfl rfl rfl rfl (exw_call_pure Try.func53 rfl (by kernel_rfl) rfl (fun w' hw' => containsrune_any [43, 45, 46, 95, 63, 61] r (by omega) w')) (fun _ _ => ?_)
            refine ho_want rfl rfl rfl rfl rfl (ex_pick_true rfl rfl) ?_
            refine ho_val rfl rfl (ex_pick_false rfl rfl) ?_
            refine ho_val rfl rfl (ex_assign rfl) ?_
            refine ho_nil ?_
            refine hk_then_code ?_
            refine hl_ret ?_
            exact hk_ret rfl rfl (fun w' hw' => ⟨ret_bool (by rw [marks_may r (by omega), Bool.eq_iff_iff]; simp only [mayI, decide_eq_true_eq, true_iff, false_iff, Bool.false_eq_true, beq_iff_eq, Bool.not_eq_true, decide_eq_false_iff_not]; omega), hw'.below⟩)
          · try simp only [decide_eq_true_eq, decide_eq_false_iff_not, beq_iff_eq, beq_eq_false_iff_ne, bne_iff_ne, bne_eq_false_iff_eq, ne_eq, Int.not_lt, Int.not_le, gt_iff_lt, ge_iff_le, Bool.not_eq_true', Bool.not_eq_false'] at hb1_25
            refine ho_skip rfl rfl rfl rfl rfl rfl ?_
            refine ho_skip rfl rfl rfl rfl rfl rfl ?_
            refine ho_want rfl rfl rfl rfl rfl (ex_pick_false rfl rfl) ?_
            refine ho_val rfl rfl (ex_pick_false rfl rfl) ?_
            refine ho_val rfl rfl (ex_assign rfl) ?_
            refine ho_nil ?_
            refine hk_then_code ?_
            refine hl_ret ?_
            exact hk_ret rfl rfl (fun w' hw' => ⟨ret_bool (by first | (exact absurd hc0 (by decide)) | (rw [Bool.eq_iff_iff]; simp only [mayI, decide_eq_true_eq, true_iff, false_iff, Bool.false_eq_true, beq_iff_eq, Bool.not_eq_true, decide_eq_false_iff_not]; omega)), hw'.below⟩)
      · try simp only [decide_eq_true_eq, decide_eq_false_iff_not, beq_iff_eq, beq_eq_false_iff_ne, bne_iff_ne, bne_eq_false_iff_eq, ne_eq, Int.not_lt, Int.not_le, gt_iff_lt, ge_iff_le, Bool.not_eq_true', Bool.not_eq_false'] at hb1_17
        refine ho_skip rfl rfl rfl rfl rfl rfl ?_
        refine ho_skip rfl rfl rfl rfl rfl rfl ?_
        refine ho_want rfl rfl rfl rfl rfl (ex_pick_false rfl rfl) ?_
        refine ho_val rfl rfl (ex_pick_false rfl rfl) ?_
        refine ho_val rfl rfl (ex_move rfl) ?_
        refine ho_want rfl rfl rfl rfl rfl (ex_move rfl) ?_
        refine ho_want rfl rfl rfl rfl rfl (ex_lss rfl rfl rfl) ?_
        refine ho_want rfl rfl rfl rfl rfl (ex_move rfl) ?_
        refine ho_bool 28 rfl (fun hb1_25 => ?_) (fun hb1_25 => ?_)
        · try simp only [decide_eq_true_eq, decide_eq_false_iff_not, beq_iff_eq, beq_eq_false_iff_ne, bne_iff_ne, bne_eq_false_iff_eq, ne_eq, Int.not_lt, Int.not_le, gt_iff_lt, ge_iff_le, Bool.not_eq_true', Bool.not_eq_false'] at hb1_25
          refine ho_want rfl rfl rfl rfl rfl (ex_move rfl) ?_
          refine ho_do_want rfl rfl rfl rfl rfl (exw_call_pure Try.func53 rfl (by kernel_rfl) rfl (fun w' hw' => containsrune_any [43, 45, 46, 95, 63, 61] r (by omega) w')) (fun _ _ => ?_)
          refine ho_want rfl rfl rfl rfl rfl (ex_pick_true rfl rfl) ?_
          refine ho_val rfl rfl (ex_pick_false rfl rfl) ?_
          refine ho_val rfl rfl (ex_assign rfl) ?_
          refine ho_nil ?_
          refine hk_then_code ?_
          refine hl_ret ?_
          exact hk_ret rfl rfl (fun w' hw' => ⟨ret_bool (by rw [marks_may r (by omega), Bool.eq_iff_iff]; simp only [mayI, decide_eq_true_eq, true_iff, false_iff, Bool.false_eq_true, beq_iff_eq, Bool.not_eq_true, decide_eq_false_iff_not]; omega), hw'.below⟩)
        · try simp only [decide_eq_true_eq, decide_eq_false_iff_not, beq_iff_eq, beq_eq_false_iff_ne, bne_iff_ne, bne_eq_false_iff_eq, ne_eq, Int.not_lt, Int.not_le, gt_iff_lt, ge_iff_le, Bool.not_eq_true', Bool.not_eq_false'] at hb1_25
          refine ho_skip rfl rfl rfl rfl rfl rfl ?_
          refine ho_skip rfl rfl rfl rfl rfl rfl ?_
          refine ho_want rfl rfl rfl rfl rfl (ex_pick_false rfl rfl) ?_
          refine ho_val rfl rfl (ex_pick_false rfl rfl) ?_
          refine ho_val rfl rfl (ex_assign rfl) ?_
          refine ho_nil ?_
          refine hk_then_code ?_
          refine hl_ret ?_
          exact hk_ret rfl rfl (fun w' hw' => ⟨ret_bool (by first | (exact absurd hc0 (by decide)) | (rw [Bool.eq_iff_iff]; simp only [mayI, decide_eq_true_eq, true_iff, false_iff, Bool.false_eq_true, beq_iff_eq, Bool.not_eq_true, decide_eq_false_iff_not]; omega)), hw'.below⟩)

set_option maxHeartbeats 400000 in
theorem refmay_any (c : UInt8) (w : World) :
    Calls Try.prog 35 #[Value.int .u8 (c.toNat : Int)] w fun e w' => e = .returned (.bool (mayI c.toNat)) ∧ Below w.heap.size w w' := by
  refine calls_enter (n := 47) (hs := []) (M := []) (vs := [Value.int .u8 (c.toNat : Int)]) Try.func35 rfl rfl rfl (Hp.start w) ?_
  refine hl_seq ?_
  refine hl_region ?_
  refine ho_val rfl rfl (ex_assign rfl) ?_
  refine ho_nil ?_
  refine hk_then_code ?_
  refine hl_seq ?_
  refine hl_seq ?_
  refine hl_region ?_
  refine ho_val rfl rfl (ex_move rfl) ?_
  refine ho_val rfl rfl (ex_geq rfl rfl rfl) ?_
  refine ho_val rfl rfl (ex_move rfl) ?_
  refine ho_bool 5 rfl (fun hb1_2 => ?_) (fun hb1_2 => ?_)
  · try simp only [decide_eq_true_eq, decide_eq_false_iff_not, beq_iff_eq, beq_eq_false_iff_ne, bne_iff_ne, bne_eq_false_iff_eq, ne_eq, Int.not_lt, Int.not_le, gt_iff_lt, ge_iff_le, Bool.not_eq_true', Bool.not_eq_false'] at hb1_2
    refine ho_want rfl rfl rfl rfl rfl (ex_move rfl) ?_
    refine ho_want rfl rfl rfl rfl rfl (ex_leq rfl rfl rfl) ?_
    refine ho_val rfl rfl (ex_pick_true rfl rfl) ?_
    refine ho_val rfl rfl (ex_move rfl) ?_
    refine ho_bool 9 rfl (fun hb1_6 => ?_) (fun hb1_6 => ?_)
    · try simp only [decide_eq_true_eq, decide_eq_false_iff_not, beq_iff_eq, beq_eq_false_iff_ne, bne_iff_ne, bne_eq_false_iff_eq, ne_eq, Int.not_lt, Int.not_le, gt_iff_lt, ge_iff_le, Bool.not_eq_true', Bool.not_eq_false'] at hb1_6
      refine ho_skip rfl rfl rfl rfl rfl rfl ?_
      refine ho_skip rfl rfl rfl rfl rfl rfl ?_
      refine ho_skip rfl rfl rfl rfl rfl rfl ?_
      refine ho_skipu rfl rfl rfl rfl rfl ?_
      refine ho_skipu rfl rfl rfl rfl rfl ?_
      refine ho_skip rfl rfl rfl rfl rfl rfl ?_
      refine ho_val rfl rfl (ex_pick_true rfl rfl) ?_
      refine ho_val rfl rfl (ex_move rfl) ?_
      refine ho_skip rfl rfl rfl rfl rfl rfl ?_
      refine ho_skip rfl rfl rfl rfl rfl rfl ?_
      refine ho_skip rfl rfl rfl rfl rfl rfl ?_
      refine ho_skipu rfl rfl rfl rfl rfl ?_
      refine ho_skipu rfl rfl rfl rfl rfl ?_
      refine ho_skip rfl rfl rfl rfl rfl rfl ?_
      refine ho_val rfl rfl (ex_pick_true rfl rfl) ?_
      refine ho_nil ?_
      refine hk_then_code ?_
      refine hl_true rfl ?_
      refine hl_seq ?_
      refine hl_region ?_
      refine ho_val rfl rfl (ex_assign rfl) ?_
      refine ho_nil ?_
      refine hk_then_code ?_
      refine hl_ret ?_
      refine hk_then_ret ?_
      exact hk_ret rfl rfl (fun w' hw' => ⟨ret_bool (by first | (exact absurd hc0 (by decide)) | (rw [Bool.eq_iff_iff]; simp only [mayI, decide_eq_true_eq, true_iff, false_iff, Bool.false_eq_true, beq_iff_eq, Bool.not_eq_true, decide_eq_false_iff_not]; omega)), hw'.below⟩)
    · try simp only [decide_eq_true_eq, decide_eq_false_iff_not, beq_iff_eq, beq_eq_false_iff_ne, bne_iff_ne, bne_eq_false_iff_eq, ne_eq, Int.not_lt, Int.not_le, gt_iff_lt, ge_iff_le, Bool.not_eq_true', Bool.not_eq_false'] at hb1_6
      refine ho_want rfl rfl rfl rfl rfl (ex_move rfl) ?_
      refine ho_want rfl rfl rfl rfl rfl (ex_geq rfl rfl rfl) ?_
      refine ho_want rfl rfl rfl rfl rfl (ex_move rfl) ?_
      refine ho_bool 12 rfl (fun hb1_9 => ?_) (fun hb1_9 => ?_)
      · try simp only [decide_eq_true_eq, decide_eq_false_iff_not, beq_iff_eq, beq_eq_false_iff_ne, bne_iff_ne, bne_eq_false_iff_eq, ne_eq, Int.not_lt, Int.not_le, gt_iff_lt, ge_iff_le, Bool.not_eq_true', Bool.not_eq_false'] at hb1_9
        refine ho_want rfl rfl rfl rfl rfl (ex_move rfl) ?_
        refine ho_want rfl rfl rfl rfl rfl (ex_leq rfl rfl rfl) ?_
        refine ho_want rfl rfl rfl rfl rfl (ex_pick_true rfl rfl) ?_
        refine ho_val rfl rfl (ex_pick_false rfl rfl) ?_
        refine ho_val rfl rfl (ex_move rfl) ?_
        refine ho_bool 17 rfl (fun hb1_14 => ?_) (fun hb1_14 => ?_)
        · try simp only [decide_eq_true_eq, decide_eq_false_iff_not, beq_iff_eq, beq_eq_false_iff_ne, bne_iff_ne, bne_eq_false_iff_eq, ne_eq, Int.not_lt, Int.not_le, gt_iff_lt, ge_iff_le, Bool.not_eq_true', Bool.not_eq_false'] at hb1_14
          refine ho_skip rfl rfl rfl rfl rfl rfl ?_
          refine ho_skip rfl rfl rfl rfl rfl rfl ?_
          refine ho_skip rfl rfl rfl rfl rfl rfl ?_
          refine ho_skipu rfl rfl rfl rfl rfl ?_
          refine ho_skipu rfl rfl rfl rfl rfl ?_
          refine ho_skip rfl rfl rfl rfl rfl rfl ?_
          refine ho_val rfl rfl (ex_pick_true rfl rfl) ?_
          refine ho_nil ?_
          refine hk_then_code ?_
          refine hl_true rfl ?_
          refine hl_seq ?_
          refine hl_region ?_
          refine ho_val rfl rfl (ex_assign rfl) ?_
          refine ho_nil ?_
          refine hk_then_code ?_
          refine hl_ret ?_
          refine hk_then_ret ?_
          exact hk_ret rfl rfl (fun w' hw' => ⟨ret_bool (by first | (exact absurd hc0 (by decide)) | (rw [Bool.eq_iff_iff]; simp only [mayI, decide_eq_true_eq, true_iff, false_iff, Bool.false_eq_true, beq_iff_eq, Bool.not_eq_true, decide_eq_false_iff_not]; omega)), hw'.below⟩)
        · try simp only [decide_eq_true_eq, decide_eq_false_iff_not, beq_iff_eq, beq_eq_false_iff_ne, bne_iff_ne, bne_eq_false_iff_eq, ne_eq, Int.not_lt, Int.not_le, gt_iff_lt, ge_iff_le, Bool.not_eq_true', Bool.not_eq_false'] at hb1_14
          refine ho_want rfl rfl rfl rfl rfl (ex_move rfl) ?_
          refine ho_want rfl rfl rfl rfl rfl (ex_geq rfl rfl rfl) ?_
          refine ho_want rfl rfl rfl rfl rfl (ex_move rfl) ?_
          refine ho_bool 20 rfl (fun hb1_17 => ?_) (fun hb1_17 => ?_)
          · try simp only [decide_eq_true_eq, decide_eq_false_iff_not, beq_iff_eq, beq_eq_false_iff_ne, bne_iff_ne, bne_eq_false_iff_eq, ne_eq, Int.not_lt, Int.not_le, gt_iff_lt, ge_iff_le, Bool.not_eq_true', Bool.not_eq_false'] at hb1_17
            refine ho_want rfl rfl rfl rfl rfl (ex_move rfl) ?_
            refine ho_want rfl rfl rfl rfl rfl (ex_leq rfl rfl rfl) ?_
            refine ho_want rfl rfl rfl rfl rfl (ex_pick_true rfl rfl) ?_
            refine ho_val rfl rfl (ex_pick_false rfl rfl) ?_
            refine ho_nil ?_
            refine hk_then_code ?_
            refine hl_if rfl (fun hc0 => ?_) (fun hc0 => ?_)
            · try simp only [decide_eq_true_eq, decide_eq_false_iff_not, beq_iff_eq, beq_eq_false_iff_ne, bne_iff_ne, bne_eq_false_iff_eq, ne_eq, Int.not_lt, Int.not_le, gt_iff_lt, ge_iff_le, Bool.not_eq_true', Bool.not_eq_false'] at hc0
              refine hl_seq ?_
              refine hl_region ?_
              refine ho_val rfl rfl (ex_assign rfl) ?_
              refine ho_nil ?_
              refine hk_then_code ?_
              refine hl_ret ?_
              refine hk_then_ret ?_
              exact hk_ret rfl rfl (fun w' hw' => ⟨ret_bool (by first | (exact absurd hc0 (by decide)) | (rw [Bool.eq_iff_iff]; simp only [mayI, decide_eq_true_eq, true_iff, false_iff, Bool.false_eq_true, beq_iff_eq, Bool.not_eq_true, decide_eq_false_iff_not]; omega)), hw'.below⟩)
            · try simp only [decide_eq_true_eq, decide_eq_false_iff_not, beq_iff_eq, beq_eq_false_iff_ne, bne_iff_ne, bne_eq_false_iff_eq, ne_eq, Int.not_lt, Int.not_le, gt_iff_lt, ge_iff_le, Bool.not_eq_true', Bool.not_eq_false'] at hc0
              refine hl_skip ?_
              refine hk_then_code ?_
              refine hl_seq ?_
              refine hl_region ?_
              refine ho_val rfl rfl (ex_move rfl) ?_
              refine ho_val rfl rfl (ex_eql rfl rfl rfl) ?_
              refine ho_val rfl rfl (ex_move rfl) ?_
              refine ho_bool 27 rfl (fun hb3_2 => ?_) (fun hb3_2 => ?_)
              · try simp only [decide_eq_true_eq, decide_eq_false_iff_not, beq_iff_eq, beq_eq_false_iff_ne, bne_iff_ne, bne_eq_false_iff_eq, ne_eq, Int.not_lt, Int.not_le, gt_iff_lt, ge_iff_le, Bool.not_eq_true', Bool.not_eq_false'] at hb3_2
                refine ho_skip rfl rfl rfl rfl rfl rfl ?_
                refine ho_skip rfl rfl rfl rfl rfl rfl ?_
                refine ho_val rfl rfl (ex_pick_true rfl rfl) ?_
                refine ho_val rfl rfl (ex_move rfl) ?_
                refine ho_skip rfl rfl rfl rfl rfl rfl ?_
                refine ho_skip rfl rfl rfl rfl rfl rfl ?_
                refine ho_val rfl rfl (ex_pick_true rfl rfl) ?_
                refine ho_val rfl rfl (ex_move rfl) ?_
                refine ho_skip rfl rfl rfl rfl rfl rfl ?_
                refine ho_skip rfl rfl rfl rfl rfl rfl ?_
                refine ho_val rfl rfl (ex_pick_true rfl rfl) ?_
                refine ho_val rfl rfl (ex_move rfl) ?_
                refine ho_skip rfl rfl rfl rfl rfl rfl ?_
                refine ho_skip rfl rfl rfl rfl rfl rfl ?_
                refine ho_val rfl rfl (ex_pick_true rfl rfl) ?_
                refine ho_val rfl rfl (ex_move rfl) ?_
                refine ho_skip rfl rfl rfl rfl rfl rfl ?_
                refine ho_skip rfl rfl rfl rfl rfl rfl ?_
                refine ho_val rfl rfl (ex_pick_true rfl rfl) ?_
                refine ho_val rfl rfl (ex_assign rfl) ?_
                refine ho_nil ?_
                refine hk_then_code ?_
                refine hl_ret ?_
                exact hk_ret rfl rfl (fun w' hw' => ⟨ret_bool (by first | (exact absurd hc0 (by decide)) | (rw [Bool.eq_iff_iff]; simp only [mayI, decide_eq_true_eq, true_iff, false_iff, Bool.false_eq_true, beq_iff_eq, Bool.not_eq_true, decide_eq_false_iff_not]; omega)), hw'.below⟩)
              · try simp only [decide_eq_true_eq, decide_eq_false_iff_not, beq_iff_eq, beq_eq_false_iff_ne, bne_iff_ne, bne_eq_false_iff_eq, ne_eq, Int.not_lt, Int.not_le, gt_iff_lt, ge_iff_le, Bool.not_eq_true', Bool.not_eq_false'] at hb3_2
                refine ho_want rfl rfl rfl rfl rfl (ex_move rfl) ?_
                refine ho_want rfl rfl rfl rfl rfl (ex_eql rfl rfl rfl) ?_
                refine ho_val rfl rfl (ex_pick_false rfl rfl) ?_
                refine ho_val rfl rfl (ex_move rfl) ?_
                refine ho_bool 31 rfl (fun hb3_6 => ?_) (fun hb3_6 => ?_)
                · try simp only [decide_eq_true_eq, decide_eq_false_iff_not, beq_iff_eq, beq_eq_false_iff_ne, bne_iff_ne, bne_eq_false_iff_eq, ne_eq, Int.not_lt, Int.not_le, gt_iff_lt, ge_iff_le, Bool.not_eq_true', Bool.not_eq_false'] at hb3_6
                  refine ho_skip rfl rfl rfl rfl rfl rfl ?_
                  refine ho_skip rfl rfl rfl rfl rfl rfl ?_
                  refine ho_val rfl rfl (ex_pick_true rfl rfl) ?_
                  refine ho_val rfl rfl (ex_move rfl) ?_
                  refine ho_skip rfl rfl rfl rfl rfl rfl ?_
                  refine ho_skip rfl rfl rfl rfl rfl rfl ?_
                  refine ho_val rfl rfl (ex_pick_true rfl rfl) ?_
                  refine ho_val rfl rfl (ex_move rfl) ?_
                  refine ho_skip rfl rfl rfl rfl rfl rfl ?_
                  refine ho_skip rfl rfl rfl rfl rfl rfl ?_
                  refine ho_val rfl rfl (ex_pick_true rfl rfl) ?_
                  refine ho_val rfl rfl (ex_move rfl) ?_
                  refine ho_skip rfl rfl rfl rfl rfl rfl ?_
                  refine ho_skip rfl rfl rfl rfl rfl rfl ?_
                  refine ho_val rfl rfl (ex_pick_true rfl rfl) ?_
                  refine ho_val rfl rfl (ex_assign rfl) ?_
                  refine ho_nil ?_
                  refine hk_then_code ?_
                  refine hl_ret ?_
                  exact hk_ret rfl rfl (fun w' hw' => ⟨ret_bool (by first | (exact absurd hc0 (by decide)) | (rw [Bool.eq_iff_iff]; simp only [mayI, decide_eq_true_eq, true_iff, false_iff, Bool.false_eq_true, beq_iff_eq, Bool.not_eq_true, decide_eq_false_iff_not]; omega)), hw'.below⟩)
                · try simp only [decide_eq_true_eq, decide_eq_false_iff_not, beq_iff_eq, beq_eq_false_iff_ne, bne_iff_ne, bne_eq_false_iff_eq, ne_eq, Int.not_lt, Int.not_le, gt_iff_lt, ge_iff_le, Bool.not_eq_true', Bool.not_eq_false'] at hb3_6
                  refine ho_want rfl rfl rfl rfl rfl (ex_move rfl) ?_
                  refine ho_want rfl rfl rfl rfl rfl (ex_eql rfl rfl rfl) ?_
                  refine ho_val rfl rfl (ex_pick_false rfl rfl) ?_
                  refine ho_val rfl rfl (ex_move rfl) ?_
                  refine ho_bool 35 rfl (fun hb3_10 => ?_) (fun hb3_10 => ?_)
                  · try simp only [decide_eq_true_eq, decide_eq_false_iff_not, beq_iff_eq, beq_eq_false_iff_ne, bne_iff_ne, bne_eq_false_iff_eq, ne_eq, Int.not_lt, Int.not_le, gt_iff_lt, ge_iff_le, Bool.not_eq_true', Bool.not_eq_false'] at hb3_10
                    refine ho_skip rfl rfl rfl rfl rfl rfl ?_
                    refine ho_skip rfl rfl rfl rfl rfl rfl ?_
                    refine ho_val rfl rfl (ex_pick_true rfl rfl) ?_
                    refine ho_val rfl rfl (ex_move rfl) ?_
                    refine ho_skip rfl rfl rfl rfl rfl rfl ?_
                    refine ho_skip rfl rfl rfl rfl rfl rfl ?_
                    refine ho_val rfl rfl (ex_pick_true rfl rfl) ?_
                    refine ho_val rfl rfl (ex_move rfl) ?_
                    refine ho_skip rfl rfl rfl rfl rfl rfl ?_
                    refine ho_skip rfl rfl rfl rfl rfl rfl ?_
                    refine ho_val rfl rfl (ex_pick_true rfl rfl) ?_
                    refine ho_val rfl rfl (ex_assign rfl) ?_
                    refine ho_nil ?_
                    refine hk_then_code ?_
                    refine hl_ret ?_
                    exact hk_ret rfl rfl (fun w' hw' => ⟨ret_bool (by first | (exact absurd hc0 (by decide)) | (rw [Bool.eq_iff_iff]; simp only [mayI, decide_eq_true_eq, true_iff, false_iff, Bool.false_eq_true, beq_iff_eq, Bool.not_eq_true, decide_eq_false_iff_not]; omega)), hw'.below⟩)
                  · try simp only [decide_eq_true_eq, decide_eq_false_iff_not, beq_iff_eq, beq_eq_false_iff_ne, bne_iff_ne, bne_eq_false_iff_eq, ne_eq, Int.not_lt, Int.not_le, gt_iff_lt, ge_iff_le, Bool.not_eq_true', Bool.not_eq_false'] at hb3_10
                    refine ho_want rfl rfl rfl rfl rfl (ex_move rfl) ?_
                    refine ho_want rfl rfl rfl rfl rfl (ex_eql rfl rfl rfl) ?_
                    refine ho_val rfl rfl (ex_pick_false rfl rfl) ?_
                    refine ho_val rfl rfl (ex_move rfl) ?_
                    refine ho_bool 39 rfl (fun hb3_14 => ?_) (fun hb3_14 => ?_)
                    · try simp only [decide_eq_true_eq, decide_eq_false_iff_not, beq_iff_eq, beq_eq_false_iff_ne, bne_iff_ne, bne_eq_false_iff_eq, ne_eq, Int.not_lt, Int.not_le, gt_iff_lt, ge_iff_le, Bool.not_eq_true', Bool.not_eq_false'] at hb3_14
                      refine ho_skip rfl rfl rfl rfl rfl rfl ?_
                      refine ho_skip rfl rfl rfl rfl rfl rfl ?_
                      refine ho_val rfl rfl (ex_pick_true rfl rfl) ?_
                      refine ho_val rfl rfl (ex_move rfl) ?_
                      refine ho_skip rfl rfl rfl rfl rfl rfl ?_
                      refine ho_skip rfl rfl rfl rfl rfl rfl ?_
                      refine ho_val rfl rfl (ex_pick_true rfl rfl) ?_
                      refine ho_val rfl rfl (ex_assign rfl) ?_
                      refine ho_nil ?_
                      refine hk_then_code ?_
                      refine hl_ret ?_
                      exact hk_ret rfl rfl (fun w' hw' => ⟨ret_bool (by first | (exact absurd hc0 (by decide)) | (rw [Bool.eq_iff_iff]; simp only [mayI, decide_eq_true_eq, true_iff, false_iff, Bool.false_eq_true, beq_iff_eq, Bool.not_eq_true, decide_eq_false_iff_not]; omega)), hw'.below⟩)
                    · try simp only [decide_eq_true_eq, decide_eq_false_iff_not, beq_iff_eq, beq_eq_false_iff_ne, bne_iff_ne, bne_eq_false_iff_eq, ne_eq, Int.not_lt, Int.not_le, gt_iff_lt, ge_iff_le, Bool.not_eq_true', Bool.not_eq_false'] at hb3_14
                      refine ho_want rfl rfl rfl rfl rfl (ex_move rfl) ?_
                      refine ho_want rfl rfl rfl rfl rfl (ex_eql rfl rfl rfl) ?_
                      refine ho_val rfl rfl (ex_pick_false rfl rfl) ?_
                      refine ho_val rfl rfl (ex_move rfl) ?_
                      refine ho_bool 43 rfl (fun hb3_18 => ?_) (fun hb3_18 => ?_)
                      · try simp only [decide_eq_true_eq, decide_eq_false_iff_not, beq_iff_eq, beq_eq_false_iff_ne, bne_iff_ne, bne_eq_false_iff_eq, ne_eq, Int.not_lt, Int.not_le, gt_iff_lt, ge_iff_le, Bool.not_eq_true', Bool.not_eq_false'] at hb3_18
                        refine ho_skip rfl rfl rfl rfl rfl rfl ?_
                        refine ho_skip rfl rfl rfl rfl rfl rfl ?_
                        refine ho_val rfl rfl (ex_pick_true rfl rfl) ?_
                        refine ho_val rfl rfl (ex_assign rfl) ?_
                        refine ho_nil ?_
                        refine hk_then_code ?_
                        refine hl_ret ?_
                        exact hk_ret rfl rfl (fun w' hw' => ⟨ret_bool (by first | (exact absurd hc0 (by decide)) | (rw [Bool.eq_iff_iff]; simp only [mayI, decide_eq_true_eq, true_iff, false_iff, Bool.false_eq_true, beq_iff_eq, Bool.not_eq_true, decide_eq_false_iff_not]; omega)), hw'.below⟩)
                      · try simp only [decide_eq_true_eq, decide_eq_false_iff_not, beq_iff_eq, beq_eq_false_iff_ne, bne_iff_ne, bne_eq_false_iff_eq, ne_eq, Int.not_lt, Int.not_le, gt_iff_lt, ge_iff_le, Bool.not_eq_true', Bool.not_eq_false'] at hb3_18
                        refine ho_want rfl rfl rfl rfl rfl (ex_move rfl) ?_
                        refine ho_want rfl rfl rfl rfl rfl (ex_eql rfl rfl rfl) ?_
                        refine ho_val rfl rfl (ex_pick_false rfl rfl) ?_
                        refine ho_val rfl rfl (ex_assign rfl) ?_
                        refine ho_nil ?_
                        refine hk_then_code ?_
                        refine hl_ret ?_
                        exact hk_ret rfl rfl (fun w' hw' => ⟨ret_bool (by first | (exact absurd hc0 (by decide)) | (rw [Bool.eq_iff_iff]; simp only [mayI, decide_eq_true_eq, true_iff, false_iff, Bool.false_eq_true, beq_iff_eq, Bool.not_eq_true, decide_eq_false_iff_not]; omega)), hw'.below⟩)
          · try simp only [decide_eq_true_eq, decide_eq_false_iff_not, beq_iff_eq, beq_eq_false_iff_ne, bne_iff_ne, bne_eq_false_iff_eq, ne_eq, Int.not_lt, Int.not_le, gt_iff_lt, ge_iff_le, Bool.not_eq_true', Bool.not_eq_false'] at hb1_17
            refine ho_skip rfl rfl rfl rfl rfl rfl ?_
            refine ho_skip rfl rfl rfl rfl rfl rfl ?_
            refine ho_want rfl rfl rfl rfl rfl (ex_pick_false rfl rfl) ?_
            refine ho_val rfl rfl (ex_pick_false rfl rfl) ?_
            refine ho_nil ?_
            refine hk_then_code ?_
            refine hl_false rfl ?_
            refine hl_skip ?_
            refine hk_then_code ?_
            refine hl_seq ?_
            refine hl_region ?_
            refine ho_val rfl rfl (ex_move rfl) ?_
            refine ho_val rfl rfl (ex_eql rfl rfl rfl) ?_
            refine ho_val rfl rfl (ex_move rfl) ?_
            refine ho_bool 27 rfl (fun hb3_2 => ?_) (fun hb3_2 => ?_)
            · try simp only [decide_eq_true_eq, decide_eq_false_iff_not, beq_iff_eq, beq_eq_false_iff_ne, bne_iff_ne, bne_eq_false_iff_eq, ne_eq, Int.not_lt, Int.not_le, gt_iff_lt, ge_iff_le, Bool.not_eq_true', Bool.not_eq_false'] at hb3_2
              refine ho_skip rfl rfl rfl rfl rfl rfl ?_
              refine ho_skip rfl rfl rfl rfl rfl rfl ?_
              refine ho_val rfl rfl (ex_pick_true rfl rfl) ?_
              refine ho_val rfl rfl (ex_move rfl) ?_
              refine ho_skip rfl rfl rfl rfl rfl rfl ?_
              refine ho_skip rfl rfl rfl rfl rfl rfl ?_
              refine ho_val rfl rfl (ex_pick_true rfl rfl) ?_
              refine ho_val rfl rfl (ex_move rfl) ?_
              refine ho_skip rfl rfl rfl rfl rfl rfl ?_
              refine ho_skip rfl rfl rfl rfl rfl rfl ?_
              refine ho_val rfl rfl (ex_pick_true rfl rfl) ?_
              refine ho_val rfl rfl (ex_move rfl) ?_
              refine ho_skip rfl rfl rfl rfl rfl rfl ?_
              refine ho_skip rfl rfl rfl rfl rfl rfl ?_
              refine ho_val rfl rfl (ex_pick_true rfl rfl) ?_
              refine ho_val rfl rfl (ex_move rfl) ?_
              refine ho_skip rfl rfl rfl rfl rfl rfl ?_
              refine ho_skip rfl rfl rfl rfl rfl rfl ?_
              refine ho_val rfl rfl (ex_pick_true rfl rfl) ?_
              refine ho_val rfl rfl (ex_assign rfl) ?_
              refine ho_nil ?_
              refine hk_then_code ?_
              refine hl_ret ?_
              exact hk_ret rfl rfl (fun w' hw' => ⟨ret_bool (by first | (exact absurd hc0 (by decide)) | (rw [Bool.eq_iff_iff]; simp only [mayI, decide_eq_true_eq, true_iff, false_iff, Bool.false_eq_true, beq_iff_eq, Bool.not_eq_true, decide_eq_false_iff_not]; omega)), hw'.below⟩)
            · try simp only [decide_eq_true_eq, decide_eq_false_iff_not, beq_iff_eq, beq_eq_false_iff_ne, bne_iff_ne, bne_eq_false_iff_eq, ne_eq, Int.not_lt, Int.not_le, gt_iff_lt, ge_iff_le, Bool.not_eq_true', Bool.not_eq_false'] at hb3_2
              refine ho_want rfl rfl rfl rfl rfl (ex_move rfl) ?_
              refine ho_want rfl rfl rfl rfl rfl (ex_eql rfl rfl rfl) ?_
              refine ho_val rfl rfl (ex_pick_false rfl rfl) ?_
              refine ho_val rfl rfl (ex_move rfl) ?_
              refine ho_bool 31 rfl (fun hb3_6 => ?_) (fun hb3_6 => ?_)
              · try simp only [decide_eq_true_eq, decide_eq_false_iff_not, beq_iff_eq, beq_eq_false_iff_ne, bne_iff_ne, bne_eq_false_iff_eq, ne_eq, Int.not_lt, Int.not_le, gt_iff_lt, ge_iff_le, Bool.not_eq_true', Bool.not_eq_false'] at hb3_6
                refine ho_skip rfl rfl rfl rfl rfl rfl ?_
                refine ho_skip rfl rfl rfl rfl rfl rfl ?_
                refine ho_val rfl rfl (ex_pick_true rfl rfl) ?_
                refine ho_val rfl rfl (ex_move rfl) ?_
                refine ho_skip rfl rfl rfl rfl rfl rfl ?_
                refine ho_skip rfl rfl rfl rfl rfl rfl ?_
                refine ho_val rfl rfl (ex_pick_true rfl rfl) ?_
                refine ho_val rfl rfl (ex_move rfl) ?_
                refine ho_skip rfl rfl rfl rfl rfl rfl ?_
                refine ho_skip rfl rfl rfl rfl rfl rfl ?_
                refine ho_val rfl rfl (ex_pick_true rfl rfl) ?_
                refine ho_val rfl rfl (ex_move rfl) ?_
                refine ho_skip rfl rfl rfl rfl rfl rfl ?_
                refine ho_skip rfl rfl rfl rfl rfl rfl ?_
                refine ho_val rfl rfl (ex_pick_true rfl rfl) ?_
                refine ho_val rfl rfl (ex_assign rfl) ?_
                refine ho_nil ?_
                refine hk_then_code ?_
                refine hl_ret ?_
                exact hk_ret rfl rfl (fun w' hw' => ⟨ret_bool (by first | (exact absurd hc0 (by decide)) | (rw [Bool.eq_iff_iff]; simp only [mayI, decide_eq_true_eq, true_iff, false_iff, Bool.false_eq_true, beq_iff_eq, Bool.not_eq_true, decide_eq_false_iff_not]; omega)), hw'.below⟩)
              · try simp only [decide_eq_true_eq, decide_eq_false_iff_not, beq_iff_eq, beq_eq_false_iff_ne, bne_iff_ne, bne_eq_false_iff_eq, ne_eq, Int.not_lt, Int.not_le, gt_iff_lt, ge_iff_le, Bool.not_eq_true', Bool.not_eq_false'] at hb3_6
                refine ho_want rfl rfl rfl rfl rfl (ex_move rfl) ?_
                refine ho_want rfl rfl rfl rfl rfl (ex_eql rfl rfl rfl) ?_
                refine ho_val rfl rfl (ex_pick_false rfl rfl) ?_
                refine ho_val rfl rfl (ex_move rfl) ?_
                refine ho_bool 35 rfl (fun hb3_10 => ?_) (fun hb3_10 => ?_)
                · try simp only [decide_eq_true_eq, decide_eq_false_iff_not, beq_iff_eq, beq_eq_false_iff_ne, bne_iff_ne, bne_eq_false_iff_eq, ne_eq, Int.not_lt, Int.not_le, gt_iff_lt, ge_iff_le, Bool.not_eq_true', Bool.not_eq_false'] at hb3_10
                  refine ho_skip rfl rfl rfl rfl rfl rfl ?_
                  refine ho_skip rfl rfl rfl rfl rfl rfl ?_
                  refine ho_val rfl rfl (ex_pick_true rfl rfl) ?_
                  refine ho_val rfl rfl (ex_move rfl) ?_
                  refine ho_skip rfl rfl rfl rfl rfl rfl ?_
                  refine ho_skip rfl rfl rfl rfl rfl rfl ?_
                  refine ho_val rfl rfl (ex_pick_true rfl rfl) ?_
                  refine ho_val rfl rfl (ex_move rfl) ?_
                  refine ho_skip rfl rfl rfl rfl rfl rfl ?_
                  refine ho_skip rfl rfl rfl rfl rfl rfl ?_
                  refine ho_val rfl rfl (ex_pick_true rfl rfl) ?_
                  refine ho_val rfl rfl (ex_assign rfl) ?_
                  refine ho_nil ?_
                  refine hk_then_code ?_
                  refine hl_ret ?_
                  exact hk_ret rfl rfl (fun w' hw' => ⟨ret_bool (by first | (exact absurd hc0 (by decide)) | (rw [Bool.eq_iff_iff]; simp only [mayI, decide_eq_true_eq, true_iff, false_iff, Bool.false_eq_true, beq_iff_eq, Bool.not_eq_true, decide_eq_false_iff_not]; omega)), hw'.below⟩)
                · try simp only [decide_eq_true_eq, decide_eq_false_iff_not, beq_iff_eq, beq_eq_false_iff_ne, bne_iff_ne, bne_eq_false_iff_eq, ne_eq, Int.not_lt, Int.not_le, gt_iff_lt, ge_iff_le, Bool.not_eq_true', Bool.not_eq_false'] at hb3_10
                  refine ho_want rfl rfl rfl rfl rfl (ex_move rfl) ?_
                  refine ho_want rfl rfl rfl rfl rfl (ex_eql rfl rfl rfl) ?_
                  refine ho_val rfl rfl (ex_pick_false rfl rfl) ?_
                  refine ho_val rfl rfl (ex_move rfl) ?_
                  refine ho_bool 39 rfl (fun hb3_14 => ?_) (fun hb3_14 => ?_)
                  · try simp only [decide_eq_true_eq, decide_eq_false_iff_not, beq_iff_eq, beq_eq_false_iff_ne, bne_iff_ne, bne_eq_false_iff_eq, ne_eq, Int.not_lt, Int.not_le, gt_iff_lt, ge_iff_le, Bool.not_eq_true', Bool.not_eq_false'] at hb3_14
                    refine ho_skip rfl rfl rfl rfl rfl rfl ?_
                    refine ho_skip rfl rfl rfl rfl rfl rfl ?_
                    refine ho_val rfl rfl (ex_pick_true rfl rfl) ?_
                    refine ho_val rfl rfl (ex_move rfl) ?_
                    refine ho_skip rfl rfl rfl rfl rfl rfl ?_
                    refine ho_skip rfl rfl rfl rfl rfl rfl ?_
                    refine ho_val rfl rfl (ex_pick_true rfl rfl) ?_
                    refine ho_val rfl rfl (ex_assign rfl) ?_
                    refine ho_nil ?_
                    refine hk_then_code ?_
                    refine hl_ret ?_
                    exact hk_ret rfl rfl (fun w' hw' => ⟨ret_bool (by first | (exact absurd hc0 (by decide)) | (rw [Bool.eq_iff_iff]; simp only [mayI, decide_eq_true_eq, true_iff, false_iff, Bool.false_eq_true, beq_iff_eq, Bool.not_eq_true, decide_eq_false_iff_not]; omega)), hw'.below⟩)
                  · try simp only [decide_eq_true_eq, decide_eq_false_iff_not, beq_iff_eq, beq_eq_false_iff_ne, bne_iff_ne, bne_eq_false_iff_eq, ne_eq, Int.not_lt, Int.not_le, gt_iff_lt, ge_iff_le, Bool.not_eq_true', Bool.not_eq_false'] at hb3_14
                    refine ho_want rfl rfl rfl rfl rfl (ex_move rfl) ?_
                    refine ho_want rfl rfl rfl rfl rfl (ex_eql rfl rfl rfl) ?_
                    refine ho_val rfl rfl (ex_pick_false rfl rfl) ?_
                    refine ho_val rfl rfl (ex_move rfl) ?_
                    refine ho_bool 43 rfl (fun hb3_18 => ?_) (fun hb3_18 => ?_)
                    · try simp only [decide_eq_true_eq, decide_eq_false_iff_not, beq_iff_eq, beq_eq_false_iff_ne, bne_iff_ne, bne_eq_false_iff_eq, ne_eq, Int.not_lt, Int.not_le, gt_iff_lt, ge_iff_le, Bool.not_eq_true', Bool.not_eq_false'] at hb3_18
                      refine ho_skip rfl rfl rfl rfl rfl rfl ?_
                      refine ho_skip rfl rfl rfl rfl rfl rfl ?_
                      refine ho_val rfl rfl (ex_pick_true rfl rfl) ?_
                      refine ho_val rfl rfl (ex_assign rfl) ?_
                      refine ho_nil ?_
                      refine hk_then_code ?_
                      refine hl_ret ?_
                      exact hk_ret rfl rfl (fun w' hw' => ⟨ret_bool (by first | (exact absurd hc0 (by decide)) | (rw [Bool.eq_iff_iff]; simp only [mayI, decide_eq_true_eq, true_iff, false_iff, Bool.false_eq_true, beq_iff_eq, Bool.not_eq_true, decide_eq_false_iff_not]; omega)), hw'.below⟩)
                    · try simp only [decide_eq_true_eq, decide_eq_false_iff_not, beq_iff_eq, beq_eq_false_iff_ne, bne_iff_ne, bne_eq_false_iff_eq, ne_eq, Int.not_lt, Int.not_le, gt_iff_lt, ge_iff_le, Bool.not_eq_true', Bool.not_eq_false'] at hb3_18
                      refine ho_want rfl rfl rfl rfl rfl (ex_move rfl) ?_
                      refine ho_want rfl rfl rfl rfl rfl (ex_eql rfl rfl rfl) ?_
                      refine ho_val rfl rfl (ex_pick_false rfl rfl) ?_
                      refine ho_val rfl rfl (ex_assign rfl) ?_
                      refine ho_nil ?_
                      refine hk_then_code ?_
                      refine hl_ret ?_
                      exact hk_ret rfl rfl (fun w' hw' => ⟨ret_bool (by first | (exact absurd hc0 (by decide)) | (rw [Bool.eq_iff_iff]; simp only [mayI, decide_eq_true_eq, true_iff, false_iff, Bool.false_eq_true, beq_iff_eq, Bool.not_eq_true, decide_eq_false_iff_not]; omega)), hw'.below⟩)
      · try simp only [decide_eq_true_eq, decide_eq_false_iff_not, beq_iff_eq, beq_eq_false_iff_ne, bne_iff_ne, bne_eq_false_iff_eq, ne_eq, Int.not_lt, Int.not_le, gt_iff_lt, ge_iff_le, Bool.not_eq_true', Bool.not_eq_false'] at hb1_9
        refine ho_skip rfl rfl rfl rfl rfl rfl ?_
        refine ho_skip rfl rfl rfl rfl rfl rfl ?_
        refine ho_want rfl rfl rfl rfl rfl (ex_pick_false rfl rfl) ?_
        refine ho_val rfl rfl (ex_pick_false rfl rfl) ?_
        refine ho_val rfl rfl (ex_move rfl) ?_
        refine ho_want rfl rfl rfl rfl rfl (ex_move rfl) ?_
        refine ho_want rfl rfl rfl rfl rfl (ex_geq rfl rfl rfl) ?_
        refine ho_want rfl rfl rfl rfl rfl (ex_move rfl) ?_
        refine ho_bool 20 rfl (fun hb1_17 => ?_) (fun hb1_17 => ?_)
        · try simp only [decide_eq_true_eq, decide_eq_false_iff_not, beq_iff_eq, beq_eq_false_iff_ne, bne_iff_ne, bne_eq_false_iff_eq, ne_eq, Int.not_lt, Int.not_le, gt_iff_lt, ge_iff_le, Bool.not_eq_true', Bool.not_eq_false'] at hb1_17
          refine ho_want rfl rfl rfl rfl rfl (ex_move rfl) ?_
          refine ho_want rfl rfl rfl rfl rfl (ex_leq rfl rfl rfl) ?_
          refine ho_want rfl rfl rfl rfl rfl (ex_pick_true rfl rfl) ?_
          refine ho_val rfl rfl (ex_pick_false rfl rfl) ?_
          refine ho_nil ?_
          refine hk_then_code ?_
          refine hl_if rfl (fun hc0 => ?_) (fun hc0 => ?_)
          · try simp only [decide_eq_true_eq, decide_eq_false_iff_not, beq_iff_eq, beq_eq_false_iff_ne, bne_iff_ne, bne_eq_false_iff_eq, ne_eq, Int.not_lt, Int.not_le, gt_iff_lt, ge_iff_le, Bool.not_eq_true', Bool.not_eq_false'] at hc0
            refine hl_seq ?_
            refine hl_region ?_
            refine ho_val rfl rfl (ex_assign rfl) ?_
            refine ho_nil ?_
            refine hk_then_code ?_
            refine hl_ret ?_
            refine hk_then_ret ?_
            exact hk_ret rfl rfl (fun w' hw' => ⟨ret_bool (by first | (exact absurd hc0 (by decide)) | (rw [Bool.eq_iff_iff]; simp only [mayI, decide_eq_true_eq, true_iff, false_iff, Bool.false_eq_true, beq_iff_eq, Bool.not_eq_true, decide_eq_false_iff_not]; omega)), hw'.below⟩)
          · try simp only [decide_eq_true_eq, decide_eq_false_iff_not, beq_iff_eq, beq_eq_false_iff_ne, bne_iff_ne, bne_eq_false_iff_eq, ne_eq, Int.not_lt, Int.not_le, gt_iff_lt, ge_iff_le, Bool.not_eq_true', Bool.not_eq_false'] at hc0
            refine hl_skip ?_
            refine hk_then_code ?_
            refine hl_seq ?_
            refine hl_region ?_
            refine ho_val rfl rfl (ex_move rfl) ?_
            refine ho_val rfl rfl (ex_eql rfl rfl rfl) ?_
            refine ho_val rfl rfl (ex_move rfl) ?_
            refine ho_bool 27 rfl (fun hb3_2 => ?_) (fun hb3_2 => ?_)
            · try simp only [decide_eq_true_eq, decide_eq_false_iff_not, beq_iff_eq, beq_eq_false_iff_ne, bne_iff_ne, bne_eq_false_iff_eq, ne_eq, Int.not_lt, Int.not_le, gt_iff_lt, ge_iff_le, Bool.not_eq_true', Bool.not_eq_false'] at hb3_2
              refine ho_skip rfl rfl rfl rfl rfl rfl ?_
              refine ho_skip rfl rfl rfl rfl rfl rfl ?_
              refine ho_val rfl rfl (ex_pick_true rfl rfl) ?_
              refine ho_val rfl rfl (ex_move rfl) ?_
              refine ho_skip rfl rfl rfl rfl rfl rfl ?_
              refine ho_skip rfl rfl rfl rfl rfl rfl ?_
              refine ho_val rfl rfl (ex_pick_true rfl rfl) ?_
              refine ho_val rfl rfl (ex_move rfl) ?_
              refine ho_skip rfl rfl rfl rfl rfl rfl ?_
              refine ho_skip rfl rfl rfl rfl rfl rfl ?_
              refine ho_val rfl rfl (ex_pick_true rfl rfl) ?_
              refine ho_val rfl rfl (ex_move rfl) ?_
              refine ho_skip rfl rfl rfl rfl rfl rfl ?_
              refine ho_skip rfl rfl rfl rfl rfl rfl ?_
              refine ho_val rfl rfl (ex_pick_true rfl rfl) ?_
              refine ho_val rfl rfl (ex_move rfl) ?_
              refine ho_skip rfl rfl rfl rfl rfl rfl ?_
              refine ho_skip rfl rfl rfl rfl rfl rfl ?_
              refine ho_val rfl rfl (ex_pick_true rfl rfl) ?_
              refine ho_val rfl rfl (ex_assign rfl) ?_
              refine ho_nil ?_
              refine hk_then_code ?_
              refine hl_ret ?_
              exact hk_ret rfl rfl (fun w' hw' => ⟨ret_bool (by first | (exact absurd hc0 (by decide)) | (rw [Bool.eq_iff_iff]; simp only [mayI, decide_eq_true_eq, true_iff, false_iff, Bool.false_eq_true, beq_iff_eq, Bool.not_eq_true, decide_eq_false_iff_not]; omega)), hw'.below⟩)
            · try simp only [decide_eq_true_eq, decide_eq_false_iff_not, beq_iff_eq, beq_eq_false_iff_ne, bne_iff_ne, bne_eq_false_iff_eq, ne_eq, Int.not_lt, Int.not_le, gt_iff_lt, ge_iff_le, Bool.not_eq_true', Bool.not_eq_false'] at hb3_2
              refine ho_want rfl rfl rfl rfl rfl (ex_move rfl) ?_
              refine ho_want rfl rfl rfl rfl rfl (ex_eql rfl rfl rfl) ?_
              refine ho_val rfl rfl (ex_pick_false rfl rfl) ?_
              refine ho_val rfl rfl (ex_move rfl) ?_
              refine ho_bool 31 rfl (fun hb3_6 => ?_) (fun hb3_6 => ?_)
              · try simp only [decide_eq_true_eq, decide_eq_false_iff_not, beq_iff_eq, beq_eq_false_iff_ne, bne_iff_ne, bne_eq_false_iff_eq, ne_eq, Int.not_lt, Int.not_le, gt_iff_lt, ge_iff_le, Bool.not_eq_true', Bool.not_eq_false'] at hb3_6
                refine ho_skip rfl rfl rfl rfl rfl rfl ?_
                refine ho_skip rfl rfl rfl rfl rfl rfl ?_
                refine ho_val rfl rfl (ex_pick_true rfl rfl) ?_
                refine ho_val rfl rfl (ex_move rfl) ?_
                refine ho_skip rfl rfl rfl rfl rfl rfl ?_
                refine ho_skip rfl rfl rfl rfl rfl rfl ?_
                refine ho_val rfl rfl (ex_pick_true rfl rfl) ?_
                refine ho_val rfl rfl (ex_move rfl) ?_
                refine ho_skip rfl rfl rfl rfl rfl rfl ?_
                refine ho_skip rfl rfl rfl rfl rfl rfl ?_
                refine ho_val rfl rfl (ex_pick_true rfl rfl) ?_
                refine ho_val rfl rfl (ex_move rfl) ?_
                refine ho_skip rfl rfl rfl rfl rfl rfl ?_
                refine ho_skip rfl rfl rfl rfl rfl rfl ?_
                refine ho_val rfl rfl (ex_pick_true rfl rfl) ?_
                refine ho_val rfl rfl (ex_assign rfl) ?_
                refine ho_nil ?_
                refine hk_then_code ?_
                refine hl_ret ?_
                exact hk_ret rfl rfl (fun w' hw' => ⟨ret_bool (by first | (exact absurd hc0 (by decide)) | (rw [Bool.eq_iff_iff]; simp only [mayI, decide_eq_true_eq, true_iff, false_iff, Bool.false_eq_true, beq_iff_eq, Bool.not_eq_true, decide_eq_false_iff_not]; omega)), hw'.below⟩)
              · try simp only [decide_eq_true_eq, decide_eq_false_iff_not, beq_iff_eq, beq_eq_false_iff_ne, bne_iff_ne, bne_eq_false_iff_eq, ne_eq, Int.not_lt, Int.not_le, gt_iff_lt, ge_iff_le, Bool.not_eq_true', Bool.not_eq_false'] at hb3_6
                refine ho_want rfl rfl rfl rfl rfl (ex_move rfl) ?_
                refine ho_want rfl rfl rfl rfl rfl (ex_eql rfl rfl rfl) ?_
                refine ho_val rfl rfl (ex_pick_false rfl rfl) ?_
                refine ho_val rfl rfl (ex_move rfl) ?_
                refine ho_bool 35 rfl (fun hb3_10 => ?_) (fun hb3_10 => ?_)
                · try simp only [decide_eq_true_eq, decide_eq_false_iff_not, beq_iff_eq, beq_eq_false_iff_ne, bne_iff_ne, bne_eq_false_iff_eq, ne_eq, Int.not_lt, Int.not_le, gt_iff_lt, ge_iff_le, Bool.not_eq_true', Bool.not_eq_false'] at hb3_10
                  refine ho_skip rfl rfl rfl rfl rfl rfl ?_
                  refine ho_skip rfl rfl rfl rfl rfl rfl ?_
                  refine ho_val rfl rfl (ex_pick_true rfl rfl) ?_
                  refine ho_val rfl rfl (ex_move rfl) ?_
                  refine ho_skip rfl rfl rfl rfl rfl rfl ?_
                  refine ho_skip rfl rfl rfl rfl rfl rfl ?_
                  refine ho_val rfl rfl (ex_pick_true rfl rfl) ?_
                  refine ho_val rfl rfl (ex_move rfl) ?_
                  refine ho_skip rfl rfl rfl rfl rfl rfl ?_
                  refine ho_skip rfl rfl rfl rfl rfl rfl ?_
                  refine ho_val rfl rfl (ex_pick_true rfl rfl) ?_
                  refine ho_val rfl rfl (ex_assign rfl) ?_
                  refine ho_nil ?_
                  refine hk_then_code ?_
                  refine hl_ret ?_
                  exact hk_ret rfl rfl (fun w' hw' => ⟨ret_bool (by first | (exact absurd hc0 (by decide)) | (rw [Bool.eq_iff_iff]; simp only [mayI, decide_eq_true_eq, true_iff, false_iff, Bool.false_eq_true, beq_iff_eq, Bool.not_eq_true, decide_eq_false_iff_not]; omega)), hw'.below⟩)
                · try simp only [decide_eq_true_eq, decide_eq_false_iff_not, beq_iff_eq, beq_eq_false_iff_ne, bne_iff_ne, bne_eq_false_iff_eq, ne_eq, Int.not_lt, Int.not_le, gt_iff_lt, ge_iff_le, Bool.not_eq_true', Bool.not_eq_false'] at hb3_10
                  refine ho_want rfl rfl rfl rfl rfl (ex_move rfl) ?_
                  refine ho_want rfl rfl rfl rfl rfl (ex_eql rfl rfl rfl) ?_
                  refine ho_val rfl rfl (ex_pick_false rfl rfl) ?_
                  refine ho_val rfl rfl (ex_move rfl) ?_
                  refine ho_bool 39 rfl (fun hb3_14 => ?_) (fun hb3_14 => ?_)
                  · try simp only [decide_eq_true_eq, decide_eq_false_iff_not, beq_iff_eq, beq_eq_false_iff_ne, bne_iff_ne, bne_eq_false_iff_eq, ne_eq, Int.not_lt, Int.not_le, gt_iff_lt, ge_iff_le, Bool.not_eq_true', Bool.not_eq_false'] at hb3_14
                    refine ho_skip rfl rfl rfl rfl rfl rfl ?_
                    refine ho_skip rfl rfl rfl rfl rfl rfl ?_
                    refine ho_val rfl rfl (ex_pick_true rfl rfl) ?_
                    refine ho_val rfl rfl (ex_move rfl) ?_
                    refine ho_skip rfl rfl rfl rfl rfl rfl ?_
                    refine ho_skip rfl rfl rfl rfl rfl rfl ?_
                    refine ho_val rfl rfl (ex_pick_true rfl rfl) ?_
                    refine ho_val rfl rfl (ex_assign rfl) ?_
                    refine ho_nil ?_
                    refine hk_then_code ?_
                    refine hl_ret ?_
                    exact hk_ret rfl rfl (fun w' hw' => ⟨ret_bool (by first | (exact absurd hc0 (by decide)) | (rw [Bool.eq_iff_iff]; simp only [mayI, decide_eq_true_eq, true_iff, false_iff, Bool.false_eq_true, beq_iff_eq, Bool.not_eq_true, decide_eq_false_iff_not]; omega)), hw'.below⟩)
                  · try simp only [decide_eq_true_eq, decide_eq_false_iff_not, beq_iff_eq, beq_eq_false_iff_ne, bne_iff_ne, bne_eq_false_iff_eq, ne_eq, Int.not_lt, Int.not_le, gt_iff_lt, ge_iff_le, Bool.not_eq_true', Bool.not_eq_false'] at hb3_14
                    refine ho_want rfl rfl rfl rfl rfl (ex_move rfl) ?_
                    refine ho_want rfl rfl rfl rfl rfl (ex_eql rfl rfl rfl) ?_
                    refine ho_val rfl rfl (ex_pick_false rfl rfl) ?_
                    refine ho_val rfl rfl (ex_move rfl) ?_
                    refine ho_bool 43 rfl (fun hb3_18 => ?_) (fun hb3_18 => ?_)
                    · try simp only [decide_eq_true_eq, decide_eq_false_iff_not, beq_iff_eq, beq_eq_false_iff_ne, bne_iff_ne, bne_eq_false_iff_eq, ne_eq, Int.not_lt, Int.not_le, gt_iff_lt, ge_iff_le, Bool.not_eq_true', Bool.not_eq_false'] at hb3_18
                      refine ho_skip rfl rfl rfl rfl rfl rfl ?_
                      refine ho_skip rfl rfl rfl rfl rfl rfl ?_
                      refine ho_val rfl rfl (ex_pick_true rfl rfl) ?_
                      refine ho_val rfl rfl (ex_assign rfl) ?_
                      refine ho_nil ?_
                      refine hk_then_code ?_
                      refine hl_ret ?_
                      exact hk_ret rfl rfl (fun w' hw' => ⟨ret_bool (by first | (exact absurd hc0 (by decide)) | (rw [Bool.eq_iff_iff]; simp only [mayI, decide_eq_true_eq, true_iff, false_iff, Bool.false_eq_true, beq_iff_eq, Bool.not_eq_true, decide_eq_false_iff_not]; omega)), hw'.below⟩)
                    · try simp only [decide_eq_true_eq, decide_eq_false_iff_not, beq_iff_eq, beq_eq_false_iff_ne, bne_iff_ne, bne_eq_false_iff_eq, ne_eq, Int.not_lt, Int.not_le, gt_iff_lt, ge_iff_le, Bool.not_eq_true', Bool.not_eq_false'] at hb3_18
                      refine ho_want rfl rfl rfl rfl rfl (ex_move rfl) ?_
                      refine ho_want rfl rfl rfl rfl rfl (ex_eql rfl rfl rfl) ?_
                      refine ho_val rfl rfl (ex_pick_false rfl rfl) ?_
                      refine ho_val rfl rfl (ex_assign rfl) ?_
                      refine ho_nil ?_
                      refine hk_then_code ?_
                      refine hl_ret ?_
                      exact hk_ret rfl rfl (fun w' hw' => ⟨ret_bool (by first | (exact absurd hc0 (by decide)) | (rw [Bool.eq_iff_iff]; simp only [mayI, decide_eq_true_eq, true_iff, false_iff, Bool.false_eq_true, beq_iff_eq, Bool.not_eq_true, decide_eq_false_iff_not]; omega)), hw'.below⟩)
        · try simp only [decide_eq_true_eq, decide_eq_false_iff_not, beq_iff_eq, beq_eq_false_iff_ne, bne_iff_ne, bne_eq_false_iff_eq, ne_eq, Int.not_lt, Int.not_le, gt_iff_lt, ge_iff_le, Bool.not_eq_true', Bool.not_eq_false'] at hb1_17
          refine ho_skip rfl rfl rfl rfl rfl rfl ?_
          refine ho_skip rfl rfl rfl rfl rfl rfl ?_
          refine ho_want rfl rfl rfl rfl rfl (ex_pick_false rfl rfl) ?_
          refine ho_val rfl rfl (ex_pick_false rfl rfl) ?_
          refine ho_nil ?_
          refine hk_then_code ?_
          refine hl_false rfl ?_
          refine hl_skip ?_
          refine hk_then_code ?_
          refine hl_seq ?_
          refine hl_region ?_
          refine ho_val rfl rfl (ex_move rfl) ?_
          refine ho_val rfl rfl (ex_eql rfl rfl rfl) ?_
          refine ho_val rfl rfl (ex_move rfl) ?_
          refine ho_bool 27 rfl (fun hb3_2 => ?_) (fun hb3_2 => ?_)
          · try simp only [decide_eq_true_eq, decide_eq_false_iff_not, beq_iff_eq, beq_eq_false_iff_ne, bne_iff_ne, bne_eq_false_iff_eq, ne_eq, Int.not_lt, Int.not_le, gt_iff_lt, ge_iff_le, Bool.not_eq_true', Bool.not_eq_false'] at hb3_2
            refine ho_skip rfl rfl rfl rfl rfl rfl ?_
            refine ho_skip rfl rfl rfl rfl rfl rfl ?_
            refine ho_val rfl rfl (ex_pick_true rfl rfl) ?_
            refine ho_val rfl rfl (ex_move rfl) ?_
            refine ho_skip rfl rfl rfl rfl rfl rfl ?_
            refine ho_skip rfl rfl rfl rfl rfl rfl ?_
            refine ho_val rfl rfl (ex_pick_true rfl rfl) ?_
            refine ho_val rfl rfl (ex_move rfl) ?_
            refine ho_skip rfl rfl rfl rfl rfl rfl ?_
            refine ho_skip rfl rfl rfl rfl rfl rfl ?_
            refine ho_val rfl rfl (ex_pick_true rfl rfl) ?_
            refine ho_val rfl rfl (ex_move rfl) ?_
            refine ho_skip rfl rfl rfl rfl rfl rfl ?_
            refine ho_skip rfl rfl rfl rfl rfl rfl ?_
            refine ho_val rfl rfl (ex_pick_true rfl rfl) ?_
            refine ho_val rfl rfl (ex_move rfl) ?_
            refine ho_skip rfl rfl rfl rfl rfl rfl ?_
            refine ho_skip rfl rfl rfl rfl rfl rfl ?_
            refine ho_val rfl rfl (ex_pick_true rfl rfl) ?_
            refine ho_val rfl rfl (ex_assign rfl) ?_
            refine ho_nil ?_
            refine hk_then_code ?_
            refine hl_ret ?_
            exact hk_ret rfl rfl (fun w' hw' => ⟨ret_bool (by first | (exact absurd hc0 (by decide)) | (rw [Bool.eq_iff_iff]; simp only [mayI, decide_eq_true_eq, true_iff, false_iff, Bool.false_eq_true, beq_iff_eq, Bool.not_eq_true, decide_eq_false_iff_not]; omega)), hw'.below⟩)
          · try simp only [decide_eq_true_eq, decide_eq_false_iff_not, beq_iff_eq, beq_eq_false_iff_ne, bne_iff_ne, bne_eq_false_iff_eq, ne_eq, Int.not_lt, Int.not_le, gt_iff_lt, ge_iff_le, Bool.not_eq_true', Bool.not_eq_false'] at hb3_2
            refine ho_want rfl rfl rfl rfl rfl (ex_move rfl) ?_
            refine ho_want rfl rfl rfl rfl rfl (ex_eql rfl rfl rfl) ?_
            refine ho_val rfl rfl (ex_pick_false rfl rfl) ?_
            refine ho_val rfl rfl (ex_move rfl) ?_
            refine ho_bool 31 rfl (fun hb3_6 => ?_) (fun hb3_6 => ?_)
            · try simp only [decide_eq_true_eq, decide_eq_false_iff_not, beq_iff_eq, beq_eq_false_iff_ne, bne_iff_ne, bne_eq_false_iff_eq, ne_eq, Int.not_lt, Int.not_le, gt_iff_lt, ge_iff_le, Bool.not_eq_true', Bool.not_eq_false'] at hb3_6
              refine ho_skip rfl rfl rfl rfl rfl rfl ?_
              refine ho_skip rfl rfl rfl rfl rfl rfl ?_
              refine ho_val rfl rfl (ex_pick_true rfl rfl) ?_
              refine ho_val rfl rfl (ex_move rfl) ?_
              refine ho_skip rfl rfl rfl rfl rfl rfl ?_
              refine ho_skip rfl rfl rfl rfl rfl rfl ?_
              refine ho_val rfl rfl (ex_pick_true rfl rfl) ?_
              refine ho_val rfl rfl (ex_move rfl) ?_
              refine ho_skip rfl rfl rfl rfl rfl rfl ?_
              refine ho_skip rfl rfl rfl rfl rfl rfl ?_
              refine ho_val rfl rfl (ex_pick_true rfl rfl) ?_
              refine ho_val rfl rfl (ex_move rfl) ?_
              refine ho_skip rfl rfl rfl rfl rfl rfl ?_
              refine ho_skip rfl rfl rfl rfl rfl rfl ?_
              refine ho_val rfl rfl (ex_pick_true rfl rfl) ?_
              refine ho_val rfl rfl (ex_assign rfl) ?_
              refine ho_nil ?_
              refine hk_then_code ?_
              refine hl_ret ?_
              exact hk_ret rfl rfl (fun w' hw' => ⟨ret_bool (by first | (exact absurd hc0 (by decide)) | (rw [Bool.eq_iff_iff]; simp only [mayI, decide_eq_true_eq, true_iff, false_iff, Bool.false_eq_true, beq_iff_eq, Bool.not_eq_true, decide_eq_false_iff_not]; omega)), hw'.below⟩)
            · try simp only [decide_eq_true_eq, decide_eq_false_iff_not, beq_iff_eq, beq_eq_false_iff_ne, bne_iff_ne, bne_eq_false_iff_eq, ne_eq, Int.not_lt, Int.not_le, gt_iff_lt, ge_iff_le, Bool.not_eq_true', Bool.not_eq_false'] at hb3_6
              refine ho_want rfl rfl rfl rfl rfl (ex_move rfl) ?_
              refine ho_want rfl rfl rfl rfl rfl (ex_eql rfl rfl rfl) ?_
              refine ho_val rfl rfl (ex_pick_false rfl rfl) ?_
              refine ho_val rfl rfl (ex_move rfl) ?_
              refine ho_bool 35 rfl (fun hb3_10 => ?_) (fun hb3_10 => ?_)
              · try simp only [decide_eq_true_eq, decide_eq_false_iff_not, beq_iff_eq, beq_eq_false_iff_ne, bne_iff_ne, bne_eq_false_iff_eq, ne_eq, Int.not_lt, Int.not_le, gt_iff_lt, ge_iff_le, Bool.not_eq_true', Bool.not_eq_false'] at hb3_10
                refine ho_skip rfl rfl rfl rfl rfl rfl ?_
                refine ho_skip rfl rfl rfl rfl rfl rfl ?_
                refine ho_val rfl rfl (ex_pick_true rfl rfl) ?_
                refine ho_val rfl rfl (ex_move rfl) ?_
                refine ho_skip rfl rfl rfl rfl rfl rfl ?_
                refine ho_skip rfl rfl rfl rfl rfl rfl ?_
                refine ho_val rfl rfl (ex_pick_true rfl rfl) ?_
                refine ho_val rfl rfl (ex_move rfl) ?_
                refine ho_skip rfl rfl rfl rfl rfl rfl ?_
                refine ho_skip rfl rfl rfl rfl rfl rfl ?_
                refine ho_val rfl rfl (ex_pick_true rfl rfl) ?_
                refine ho_val rfl rfl (ex_assign rfl) ?_
                refine ho_nil ?_
                refine hk_then_code ?_
                refine hl_ret ?_
                exact hk_ret rfl rfl (fun w' hw' => ⟨ret_bool (by first | (exact absurd hc0 (by decide)) | (rw [Bool.eq_iff_iff]; simp only [mayI, decide_eq_true_eq, true_iff, false_iff, Bool.false_eq_true, beq_iff_eq, Bool.not_eq_true, decide_eq_false_iff_not]; omega)), hw'.below⟩)
              · try simp only [decide_eq_true_eq, decide_eq_false_iff_not, beq_iff_eq, beq_eq_false_iff_ne, bne_iff_ne, bne_eq_false_iff_eq, ne_eq, Int.not_lt, Int.not_le, gt_iff_lt, ge_iff_le, Bool.not_eq_true', Bool.not_eq_false'] at hb3_10
                refine ho_want rfl rfl rfl rfl rfl (ex_move rfl) ?_
                refine ho_want rfl rfl rfl rfl rfl (ex_eql rfl rfl rfl) ?_
                refine ho_val rfl rfl (ex_pick_false rfl rfl) ?_
                refine ho_val rfl rfl (ex_move rfl) ?_
                refine ho_bool 39 rfl (fun hb3_14 => ?_) (fun hb3_14 => ?_)
                · try simp only [decide_eq_true_eq, decide_eq_false_iff_not, beq_iff_eq, beq_eq_false_iff_ne, bne_iff_ne, bne_eq_false_iff_eq, ne_eq, Int.not_lt, Int.not_le, gt_iff_lt, ge_iff_le, Bool.not_eq_true', Bool.not_eq_false'] at hb3_14
                  refine ho_skip rfl rfl rfl rfl rfl rfl ?_
                  refine ho_skip rfl rfl rfl rfl rfl rfl ?_
                  refine ho_val rfl rfl (ex_pick_true rfl rfl) ?_
                  refine ho_val rfl rfl (ex_move rfl) ?_
                  refine ho_skip rfl rfl rfl rfl rfl rfl ?_
                  refine ho_skip rfl rfl rfl rfl rfl rfl ?_
                  refine ho_val rfl rfl (ex_pick_true rfl rfl) ?_
                  refine ho_val rfl rfl (ex_assign rfl) ?_
                  refine ho_nil ?_
                  refine hk_then_code ?_
                  refine hl_ret ?_
                  exact hk_ret rfl rfl (fun w' hw' => ⟨ret_bool (by first | (exact absurd hc0 (by decide)) | (rw [Bool.eq_iff_iff]; simp only [mayI, decide_eq_true_eq, true_iff, false_iff, Bool.false_eq_true, beq_iff_eq, Bool.not_eq_true, decide_eq_false_iff_not]; omega)), hw'.below⟩)
                · try simp only [decide_eq_true_eq, decide_eq_false_iff_not, beq_iff_eq, beq_eq_false_iff_ne, bne_iff_ne, bne_eq_false_iff_eq, ne_eq, Int.not_lt, Int.not_le, gt_iff_lt, ge_iff_le, Bool.not_eq_true', Bool.not_eq_false'] at hb3_14
                  refine ho_want rfl rfl rfl rfl rfl (ex_move rfl) ?_
                  refine ho_want rfl rfl rfl rfl rfl (ex_eql rfl rfl rfl) ?_
                  refine ho_val rfl rfl (ex_pick_false rfl rfl) ?_
                  refine ho_val rfl rfl (ex_move rfl) ?_
                  refine ho_bool 43 rfl (fun hb3_18 => ?_) (fun hb3_18 => ?_)
                  · try simp only [decide_eq_true_eq, decide_eq_false_iff_not, beq_iff_eq, beq_eq_false_iff_ne, bne_iff_ne, bne_eq_false_iff_eq, ne_eq, Int.not_lt, Int.not_le, gt_iff_lt, ge_iff_le, Bool.not_eq_true', Bool.not_eq_false'] at hb3_18
                    refine ho_skip rfl rfl rfl rfl rfl rfl ?_
                    refine ho_skip rfl rfl rfl rfl rfl rfl ?_
                    refine ho_val rfl rfl (ex_pick_true rfl rfl) ?_
                    refine ho_val rfl rfl (ex_assign rfl) ?_
                    refine ho_nil ?_
                    refine hk_then_code ?_
                    refine hl_ret ?_
                    exact hk_ret rfl rfl (fun w' hw' => ⟨ret_bool (by first | (exact absurd hc0 (by decide)) | (rw [Bool.eq_iff_iff]; simp only [mayI, decide_eq_true_eq, true_iff, false_iff, Bool.false_eq_true, beq_iff_eq, Bool.not_eq_true, decide_eq_false_iff_not]; omega)), hw'.below⟩)
                  · try simp only [decide_eq_true_eq, decide_eq_false_iff_not, beq_iff_eq, beq_eq_false_iff_ne, bne_iff_ne, bne_eq_false_iff_eq, ne_eq, Int.not_lt, Int.not_le, gt_iff_lt, ge_iff_le, Bool.not_eq_true', Bool.not_eq_false'] at hb3_18
                    refine ho_want rfl rfl rfl rfl rfl (ex_move rfl) ?_
                    refine ho_want rfl rfl rfl rfl rfl (ex_eql rfl rfl rfl) ?_
                    refine ho_val rfl rfl (ex_pick_false rfl rfl) ?_
                    refine ho_val rfl rfl (ex_assign rfl) ?_
                    refine ho_nil ?_
                    refine hk_then_code ?_
                    refine hl_ret ?_
                    exact hk_ret rfl rfl (fun w' hw' => ⟨ret_bool (by first | (exact absurd hc0 (by decide)) | (rw [Bool.eq_iff_iff]; simp only [mayI, decide_eq_true_eq, true_iff, false_iff, Bool.false_eq_true, beq_iff_eq, Bool.not_eq_true, decide_eq_false_iff_not]; omega)), hw'.below⟩)
  · try simp only [decide_eq_true_eq, decide_eq_false_iff_not, beq_iff_eq, beq_eq_false_iff_ne, bne_iff_ne, bne_eq_false_iff_eq, ne_eq, Int.not_lt, Int.not_le, gt_iff_lt, ge_iff_le, Bool.not_eq_true', Bool.not_eq_false'] at hb1_2
    refine ho_skip rfl rfl rfl rfl rfl rfl ?_
    refine ho_skip rfl rfl rfl rfl rfl rfl ?_
    refine ho_val rfl rfl (ex_pick_false rfl rfl) ?_
    refine ho_val rfl rfl (ex_move rfl) ?_
    refine ho_want rfl rfl rfl rfl rfl (ex_move rfl) ?_
    refine ho_want rfl rfl rfl rfl rfl (ex_geq rfl rfl rfl) ?_
    refine ho_want rfl rfl rfl rfl rfl (ex_move rfl) ?_
    refine ho_bool 12 rfl (fun hb1_9 => ?_) (fun hb1_9 => ?_)
    · try simp only [decide_eq_true_eq, decide_eq_false_iff_not, beq_iff_eq, beq_eq_false_iff_ne, bne_iff_ne, bne_eq_false_iff_eq, ne_eq, Int.not_lt, Int.not_le, gt_iff_lt, ge_iff_le, Bool.not_eq_true', Bool.not_eq_false'] at hb1_9
      refine ho_want rfl rfl rfl rfl rfl (ex_move rfl) ?_
      refine ho_want rfl rfl rfl rfl rfl (ex_leq rfl rfl rfl) ?_
      refine ho_want rfl rfl rfl rfl rfl (ex_pick_true rfl rfl) ?_
      refine ho_val rfl rfl (ex_pick_false rfl rfl) ?_
      refine ho_val rfl rfl (ex_move rfl) ?_
      refine ho_bool 17 rfl (fun hb1_14 => ?_) (fun hb1_14 => ?_)
      · try simp only [decide_eq_true_eq, decide_eq_false_iff_not, beq_iff_eq, beq_eq_false_iff_ne, bne_iff_ne, bne_eq_false_iff_eq, ne_eq, Int.not_lt, Int.not_le, gt_iff_lt, ge_iff_le, Bool.not_eq_true', Bool.not_eq_false'] at hb1_14
        refine ho_skip rfl rfl rfl rfl rfl rfl ?_
        refine ho_skip rfl rfl rfl rfl rfl rfl ?_
        refine ho_skip rfl rfl rfl rfl rfl rfl ?_
        refine ho_skipu rfl rfl rfl rfl rfl ?_
        refine ho_skipu rfl rfl rfl rfl rfl ?_
        refine ho_skip rfl rfl rfl rfl rfl rfl ?_
        refine ho_val rfl rfl (ex_pick_true rfl rfl) ?_
        refine ho_nil ?_
        refine hk_then_code ?_
        refine hl_true rfl ?_
        refine hl_seq ?_
        refine hl_region ?_
        refine ho_val rfl rfl (ex_assign rfl) ?_
        refine ho_nil ?_
        refine hk_then_code ?_
        refine hl_ret ?_
        refine hk_then_ret ?_
        exact hk_ret rfl rfl (fun w' hw' => ⟨ret_bool (by first | (exact absurd hc0 (by decide)) | (rw [Bool.eq_iff_iff]; simp only [mayI, decide_eq_true_eq, true_iff, false_iff, Bool.false_eq_true, beq_iff_eq, Bool.not_eq_true, decide_eq_false_iff_not]; omega)), hw'.below⟩)
      · try simp only [decide_eq_true_eq, decide_eq_false_iff_not, beq_iff_eq, beq_eq_false_iff_ne, bne_iff_ne, bne_eq_false_iff_eq, ne_eq, Int.not_lt, Int.not_le, gt_iff_lt, ge_iff_le, Bool.not_eq_true', Bool.not_eq_false'] at hb1_14
        refine ho_want rfl rfl rfl rfl rfl (ex_move rfl) ?_
        refine ho_want rfl rfl rfl rfl rfl (ex_geq rfl rfl rfl) ?_
        refine ho_want rfl rfl rfl rfl rfl (ex_move rfl) ?_
        refine ho_bool 20 rfl (fun hb1_17 => ?_) (fun hb1_17 => ?_)
        · try simp only [decide_eq_true_eq, decide_eq_false_iff_not, beq_iff_eq, beq_eq_false_iff_ne, bne_iff_ne, bne_eq_false_iff_eq, ne_eq, Int.not_lt, Int.not_le, gt_iff_lt, ge_iff_le, Bool.not_eq_true', Bool.not_eq_false'] at hb1_17
          refine ho_want rfl rfl rfl rfl rfl (ex_move rfl) ?_
          refine ho_want rfl rfl rfl rfl rfl (ex_leq rfl rfl rfl) ?_
          refine ho_want rfl rfl rfl rfl rfl (ex_pick_true rfl rfl) ?_
          refine ho_val rfl rfl (ex_pick_false rfl rfl) ?_
          refine ho_nil ?_
          refine hk_then_code ?_
          refine hl_if rfl (fun hc0 => ?_) (fun hc0 => ?_)
          · try simp only [decide_eq_true_eq, decide_eq_false_iff_not, beq_iff_eq, beq_eq_false_iff_ne, bne_iff_ne, bne_eq_false_iff_eq, ne_eq, Int.not_lt, Int.not_le, gt_iff_lt, ge_iff_le, Bool.not_eq_true', Bool.not_eq_false'] at hc0
            refine hl_seq ?_
            refine hl_region ?_
            refine ho_val rfl rfl (ex_assign rfl) ?_
            refine ho_nil ?_
            refine hk_then_code ?_
            refine hl_ret ?_
            refine hk_then_ret ?_
            exact hk_ret rfl rfl (fun w' hw' => ⟨ret_bool (by first | (exact absurd hc0 (by decide)) | (rw [Bool.eq_iff_iff]; simp only [mayI, decide_eq_true_eq, true_iff, false_iff, Bool.false_eq_true, beq_iff_eq, Bool.not_eq_true, decide_eq_false_iff_not]; omega)), hw'.below⟩)
          · try simp only [decide_eq_true_eq, decide_eq_false_iff_not, beq_iff_eq, beq_eq_false_iff_ne, bne_iff_ne, bne_eq_false_iff_eq, ne_eq, Int.not_lt, Int.not_le, gt_iff_lt, ge_iff_le, Bool.not_eq_true', Bool.not_eq_false'] at hc0
            refine hl_skip ?_
            refine hk_then_code ?_
            refine hl_seq ?_
            refine hl_region ?_
            refine ho_val rfl rfl (ex_move rfl) ?_
            refine ho_val rfl rfl (ex_eql rfl rfl rfl) ?_
            refine ho_val rfl rfl (ex_move rfl) ?_
            refine ho_bool 27 rfl (fun hb3_2 => ?_) (fun hb3_2 => ?_)
            · try simp only [decide_eq_true_eq, decide_eq_false_iff_not, beq_iff_eq, beq_eq_false_iff_ne, bne_iff_ne, bne_eq_false_iff_eq, ne_eq, Int.not_lt, Int.not_le, gt_iff_lt, ge_iff_le, Bool.not_eq_true', Bool.not_eq_false'] at hb3_2
              refine ho_skip rfl rfl rfl rfl rfl rfl ?_
              refine ho_skip rfl rfl rfl rfl rfl rfl ?_
              refine ho_val rfl rfl (ex_pick_true rfl rfl) ?_
              refine ho_val rfl rfl (ex_move rfl) ?_
              refine ho_skip rfl rfl rfl rfl rfl rfl ?_
              refine ho_skip rfl rfl rfl rfl rfl rfl ?_
              refine ho_val rfl rfl (ex_pick_true rfl rfl) ?_
              refine ho_val rfl rfl (ex_move rfl) ?_
              refine ho_skip rfl rfl rfl rfl rfl rfl ?_
              refine ho_skip rfl rfl rfl rfl rfl rfl ?_
              refine ho_val rfl rfl (ex_pick_true rfl rfl) ?_
              refine ho_val rfl rfl (ex_move rfl) ?_
              refine ho_skip rfl rfl rfl rfl rfl rfl ?_
              refine ho_skip rfl rfl rfl rfl rfl rfl ?_
              refine ho_val rfl rfl (ex_pick_true rfl rfl) ?_
              refine ho_val rfl rfl (ex_move rfl) ?_
              refine ho_skip rfl rfl rfl rfl rfl rfl ?_
              refine ho_skip rfl rfl rfl rfl rfl rfl ?_
              refine ho_val rfl rfl (ex_pick_true rfl rfl) ?_
              refine ho_val rfl rfl (ex_assign rfl) ?_
              refine ho_nil ?_
              refine hk_then_code ?_
              refine hl_ret ?_
              exact hk_ret rfl rfl (fun w' hw' => ⟨ret_bool (by first | (exact absurd hc0 (by decide)) | (rw [Bool.eq_iff_iff]; simp only [mayI, decide_eq_true_eq, true_iff, false_iff, Bool.false_eq_true, beq_iff_eq, Bool.not_eq_true, decide_eq_false_iff_not]; omega)), hw'.below⟩)
            · try simp only [decide_eq_true_eq, decide_eq_false_iff_not, beq_iff_eq, beq_eq_false_iff_ne, bne_iff_ne, bne_eq_false_iff_eq, ne_eq, Int.not_lt, Int.not_le, gt_iff_lt, ge_iff_le, Bool.not_eq_true', Bool.not_eq_false'] at hb3_2
              refine ho_want rfl rfl rfl rfl rfl (ex_move rfl) ?_
              refine ho_want rfl rfl rfl rfl rfl (ex_eql rfl rfl rfl) ?_
              refine ho_val rfl rfl (ex_pick_false rfl rfl) ?_
              refine ho_val rfl rfl (ex_move rfl) ?_
              refine ho_bool 31 rfl (fun hb3_6 => ?_) (fun hb3_6 => ?_)
              · try simp only [decide_eq_true_eq, decide_eq_false_iff_not, beq_iff_eq, beq_eq_false_iff_ne, bne_iff_ne, bne_eq_false_iff_eq, ne_eq, Int.not_lt, Int.not_le, gt_iff_lt, ge_iff_le, Bool.not_eq_true', Bool.not_eq_false'] at hb3_6
                refine ho_skip rfl rfl rfl rfl rfl rfl ?_
                refine ho_skip rfl rfl rfl rfl rfl rfl ?_
                refine ho_val rfl rfl (ex_pick_true rfl rfl) ?_
                refine ho_val rfl rfl (ex_move rfl) ?_
                refine ho_skip rfl rfl rfl rfl rfl rfl ?_
                refine ho_skip rfl rfl rfl rfl rfl rfl ?_
                refine ho_val rfl rfl (ex_pick_true rfl rfl) ?_
                refine ho_val rfl rfl (ex_move rfl) ?_
                refine ho_skip rfl rfl rfl rfl rfl rfl ?_
                refine ho_skip rfl rfl rfl rfl rfl rfl ?_
                refine ho_val rfl rfl (ex_pick_true rfl rfl) ?_
                refine ho_val rfl rfl (ex_move rfl) ?_
                refine ho_skip rfl rfl rfl rfl rfl rfl ?_
                refine ho_skip rfl rfl rfl rfl rfl rfl ?_
                refine ho_val rfl rfl (ex_pick_true rfl rfl) ?_
                refine ho_val rfl rfl (ex_assign rfl) ?_
                refine ho_nil ?_
                refine hk_then_code ?_
                refine hl_ret ?_
                exact hk_ret rfl rfl (fun w' hw' => ⟨ret_bool (by first | (exact absurd hc0 (by decide)) | (rw [Bool.eq_iff_iff]; simp only [mayI, decide_eq_true_eq, true_iff, false_iff, Bool.false_eq_true, beq_iff_eq, Bool.not_eq_true, decide_eq_false_iff_not]; omega)), hw'.below⟩)
              · try simp only [decide_eq_true_eq, decide_eq_false_iff_not, beq_iff_eq, beq_eq_false_iff_ne, bne_iff_ne, bne_eq_false_iff_eq, ne_eq, Int.not_lt, Int.not_le, gt_iff_lt, ge_iff_le, Bool.not_eq_true', Bool.not_eq_false'] at hb3_6
                refine ho_want rfl rfl rfl rfl rfl (ex_move rfl) ?_
                refine ho_want rfl rfl rfl rfl rfl (ex_eql rfl rfl rfl) ?_
                refine ho_val rfl rfl (ex_pick_false rfl rfl) ?_
                refine ho_val rfl rfl (ex_move rfl) ?_
                refine ho_bool 35 rfl (fun hb3_10 => ?_) (fun hb3_10 => ?_)
                · try simp only [decide_eq_true_eq, decide_eq_false_iff_not, beq_iff_eq, beq_eq_false_iff_ne, bne_iff_ne, bne_eq_false_iff_eq, ne_eq, Int.not_lt, Int.not_le, gt_iff_lt, ge_iff_le, Bool.not_eq_true', Bool.not_eq_false'] at hb3_10
                  refine ho_skip rfl rfl rfl rfl rfl rfl ?_
                  refine ho_skip rfl rfl rfl rfl rfl rfl ?_
                  refine ho_val rfl rfl (ex_pick_true rfl rfl) ?_
                  refine ho_val rfl rfl (ex_move rfl) ?_
                  refine ho_skip rfl rfl rfl rfl rfl rfl ?_
                  refine ho_skip rfl rfl rfl rfl rfl rfl ?_
                  refine ho_val rfl rfl (ex_pick_true rfl rfl) ?_
                  refine ho_val rfl rfl (ex_move rfl) ?_
                  refine ho_skip rfl rfl rfl rfl rfl rfl ?_
                  refine ho_skip rfl rfl rfl rfl rfl rfl ?_
                  refine ho_val rfl rfl (ex_pick_true rfl rfl) ?_
                  refine ho_val rfl rfl (ex_assign rfl) ?_
                  refine ho_nil ?_
                  refine hk_then_code ?_
                  refine hl_ret ?_
                  exact hk_ret rfl rfl (fun w' hw' => ⟨ret_bool (by first | (exact absurd hc0 (by decide)) | (rw [Bool.eq_iff_iff]; simp only [mayI, decide_eq_true_eq, true_iff, false_iff, Bool.false_eq_true, beq_iff_eq, Bool.not_eq_true, decide_eq_false_iff_not]; omega)), hw'.below⟩)
                · try simp only [decide_eq_true_eq, decide_eq_false_iff_not, beq_iff_eq, beq_eq_false_iff_ne, bne_iff_ne, bne_eq_false_iff_eq, ne_eq, Int.not_lt, Int.not_le, gt_iff_lt, ge_iff_le, Bool.not_eq_true', Bool.not_eq_false'] at hb3_10
                  refine ho_want rfl rfl rfl rfl rfl (ex_move rfl) ?_
                  refine ho_want rfl rfl rfl rfl rfl (ex_eql rfl rfl rfl) ?_
                  refine ho_val rfl rfl (ex_pick_false rfl rfl) ?_
                  refine ho_val rfl rfl (ex_move rfl) ?_
                  refine ho_bool 39 rfl (fun hb3_14 => ?_) (fun hb3_14 => ?_)
                  · try simp only [decide_eq_true_eq, decide_eq_false_iff_not, beq_iff_eq, beq_eq_false_iff_ne, bne_iff_ne, bne_eq_false_iff_eq, ne_eq, Int.not_lt, Int.not_le, gt_iff_lt, ge_iff_le, Bool.not_eq_true', Bool.not_eq_false'] at hb3_14
                    refine ho_skip rfl rfl rfl rfl rfl rfl ?_
                    refine ho_skip rfl rfl rfl rfl rfl rfl ?_
                    refine ho_val rfl rfl (ex_pick_true rfl rfl) ?_
                    refine ho_val rfl rfl (ex_move rfl) ?_
                    refine ho_skip rfl rfl rfl rfl rfl rfl ?_
                    refine ho_skip rfl rfl rfl rfl rfl rfl ?_
                    refine ho_val rfl rfl (ex_pick_true rfl rfl) ?_
                    refine ho_val rfl rfl (ex_assign rfl) ?_
                    refine ho_nil ?_
                    refine hk_then_code ?_
                    refine hl_ret ?_
                    exact hk_ret rfl rfl (fun w' hw' => ⟨ret_bool (by first | (exact absurd hc0 (by decide)) | (rw [Bool.eq_iff_iff]; simp only [mayI, decide_eq_true_eq, true_iff, false_iff, Bool.false_eq_true, beq_iff_eq, Bool.not_eq_true, decide_eq_false_iff_not]; omega)), hw'.below⟩)
                  · try simp only [decide_eq_true_eq, decide_eq_false_iff_not, beq_iff_eq, beq_eq_false_iff_ne, bne_iff_ne, bne_eq_false_iff_eq, ne_eq, Int.not_lt, Int.not_le, gt_iff_lt, ge_iff_le, Bool.not_eq_true', Bool.not_eq_false'] at hb3_14
                    refine ho_want rfl rfl rfl rfl rfl (ex_move rfl) ?_
                    refine ho_want rfl rfl rfl rfl rfl (ex_eql rfl rfl rfl) ?_
                    refine ho_val rfl rfl (ex_pick_false rfl rfl) ?_
                    refine ho_val rfl rfl (ex_move rfl) ?_
                    refine ho_bool 43 rfl (fun hb3_18 => ?_) (fun hb3_18 => ?_)
                    · try simp only [decide_eq_true_eq, decide_eq_false_iff_not, beq_iff_eq, beq_eq_false_iff_ne, bne_iff_ne, bne_eq_false_iff_eq, ne_eq, Int.not_lt, Int.not_le, gt_iff_lt, ge_iff_le, Bool.not_eq_true', Bool.not_eq_false'] at hb3_18
                      refine ho_skip rfl rfl rfl rfl rfl rfl ?_
                      refine ho_skip rfl rfl rfl rfl rfl rfl ?_
                      refine ho_val rfl rfl (ex_pick_true rfl rfl) ?_
                      refine ho_val rfl rfl (ex_assign rfl) ?_
                      refine ho_nil ?_
                      refine hk_then_code ?_
                      refine hl_ret ?_
                      exact hk_ret rfl rfl (fun w' hw' => ⟨ret_bool (by first | (exact absurd hc0 (by decide)) | (rw [Bool.eq_iff_iff]; simp only [mayI, decide_eq_true_eq, true_iff, false_iff, Bool.false_eq_true, beq_iff_eq, Bool.not_eq_true, decide_eq_false_iff_not]; omega)), hw'.below⟩)
                    · try simp only [decide_eq_true_eq, decide_eq_false_iff_not, beq_iff_eq, beq_eq_false_iff_ne, bne_iff_ne, bne_eq_false_iff_eq, ne_eq, Int.not_lt, Int.not_le, gt_iff_lt, ge_iff_le, Bool.not_eq_true', Bool.not_eq_false'] at hb3_18
                      refine ho_want rfl rfl rfl rfl rfl (ex_move rfl) ?_
                      refine ho_want rfl rfl rfl rfl rfl (ex_eql rfl rfl rfl) ?_
                      refine ho_val rfl rfl (ex_pick_false rfl rfl) ?_
                      refine ho_val rfl rfl (ex_assign rfl) ?_
                      refine ho_nil ?_
                      refine hk_then_code ?_
                      refine hl_ret ?_
                      exact hk_ret rfl rfl (fun w' hw' => ⟨ret_bool (by first | (exact absurd hc0 (by decide)) | (rw [Bool.eq_iff_iff]; simp only [mayI, decide_eq_true_eq, true_iff, false_iff, Bool.false_eq_true, beq_iff_eq, Bool.not_eq_true, decide_eq_false_iff_not]; omega)), hw'.below⟩)
        · try simp only [decide_eq_true_eq, decide_eq_false_iff_not, beq_iff_eq, beq_eq_false_iff_ne, bne_iff_ne, bne_eq_false_iff_eq, ne_eq, Int.not_lt, Int.not_le, gt_iff_lt, ge_iff_le, Bool.not_eq_true', Bool.not_eq_false'] at hb1_17
          refine ho_skip rfl rfl rfl rfl rfl rfl ?_
          refine ho_skip rfl rfl rfl rfl rfl rfl ?_
          refine ho_want rfl rfl rfl rfl rfl (ex_pick_false rfl rfl) ?_
          refine ho_val rfl rfl (ex_pick_false rfl rfl) ?_
          refine ho_nil ?_
          refine hk_then_code ?_
          refine hl_false rfl ?_
          refine hl_skip ?_
          refine hk_then_code ?_
          refine hl_seq ?_
          refine hl_region ?_
          refine ho_val rfl rfl (ex_move rfl) ?_
          refine ho_val rfl rfl (ex_eql rfl rfl rfl) ?_
          refine ho_val rfl rfl (ex_move rfl) ?_
          refine ho_bool 27 rfl (fun hb3_2 => ?_) (fun hb3_2 => ?_)
          · try simp only [decide_eq_true_eq, decide_eq_false_iff_not, beq_iff_eq, beq_eq_false_iff_ne, bne_iff_ne, bne_eq_false_iff_eq, ne_eq, Int.not_lt, Int.not_le, gt_iff_lt, ge_iff_le, Bool.not_eq_true', Bool.not_eq_false'] at hb3_2
            refine ho_skip rfl rfl rfl rfl rfl rfl ?_
            refine ho_skip rfl rfl rfl rfl rfl rfl ?_
            refine ho_val rfl rfl (ex_pick_true rfl rfl) ?_
            refine ho_val rfl rfl (ex_move rfl) ?_
            refine ho_skip rfl rfl rfl rfl rfl rfl ?_
            refine ho_skip rfl rfl rfl rfl rfl rfl ?_
            refine ho_val rfl rfl (ex_pick_true rfl rfl) ?_
            refine ho_val rfl rfl (ex_move rfl) ?_
            refine ho_skip rfl rfl rfl rfl rfl rfl ?_
            refine ho_skip rfl rfl rfl rfl rfl rfl ?_
            refine ho_val rfl rfl (ex_pick_true rfl rfl) ?_
            refine ho_val rfl rfl (ex_move rfl) ?_
            refine ho_skip rfl rfl rfl rfl rfl rfl ?_
            refine ho_skip rfl rfl rfl rfl rfl rfl ?_
            refine ho_val rfl rfl (ex_pick_true rfl rfl) ?_
            refine ho_val rfl rfl (ex_move rfl) ?_
            refine ho_skip rfl rfl rfl rfl rfl rfl ?_
            refine ho_skip rfl rfl rfl rfl rfl rfl ?_
            refine ho_val rfl rfl (ex_pick_true rfl rfl) ?_
            refine ho_val rfl rfl (ex_assign rfl) ?_
            refine ho_nil ?_
            refine hk_then_code ?_
            refine hl_ret ?_
            exact hk_ret rfl rfl (fun w' hw' => ⟨ret_bool (by first | (exact absurd hc0 (by decide)) | (rw [Bool.eq_iff_iff]; simp only [mayI, decide_eq_true_eq, true_iff, false_iff, Bool.false_eq_true, beq_iff_eq, Bool.not_eq_true, decide_eq_false_iff_not]; omega)), hw'.below⟩)
          · try simp only [decide_eq_true_eq, decide_eq_false_iff_not, beq_iff_eq, beq_eq_false_iff_ne, bne_iff_ne, bne_eq_false_iff_eq, ne_eq, Int.not_lt, Int.not_le, gt_iff_lt, ge_iff_le, Bool.not_eq_true', Bool.not_eq_false'] at hb3_2
            refine ho_want rfl rfl rfl rfl rfl (ex_move rfl) ?_
            refine ho_want rfl rfl rfl rfl rfl (ex_eql rfl rfl rfl) ?_
            refine ho_val rfl rfl (ex_pick_false rfl rfl) ?_
            refine ho_val rfl rfl (ex_move rfl) ?_
            refine ho_bool 31 rfl (fun hb3_6 => ?_) (fun hb3_6 => ?_)
            · try simp only [decide_eq_true_eq, decide_eq_false_iff_not, beq_iff_eq, beq_eq_false_iff_ne, bne_iff_ne, bne_eq_false_iff_eq, ne_eq, Int.not_lt, Int.not_le, gt_iff_lt, ge_iff_le, Bool.not_eq_true', Bool.not_eq_false'] at hb3_6
              refine ho_skip rfl rfl rfl rfl rfl rfl ?_
              refine ho_skip rfl rfl rfl rfl rfl rfl ?_
              refine ho_val rfl rfl (ex_pick_true rfl rfl) ?_
              refine ho_val rfl rfl (ex_move rfl) ?_
              refine ho_skip rfl rfl rfl rfl rfl rfl ?_
              refine ho_skip rfl rfl rfl rfl rfl rfl ?_
              refine ho_val rfl rfl (ex_pick_true rfl rfl) ?_
              refine ho_val rfl rfl (ex_move rfl) ?_
              refine ho_skip rfl rfl rfl rfl rfl rfl ?_
              refine ho_skip rfl rfl rfl rfl rfl rfl ?_
              refine ho_val rfl rfl (ex_pick_true rfl rfl) ?_
              refine ho_val rfl rfl (ex_move rfl) ?_
              refine ho_skip rfl rfl rfl rfl rfl rfl ?_
              refine ho_skip rfl rfl rfl rfl rfl rfl ?_
              refine ho_val rfl rfl (ex_pick_true rfl rfl) ?_
              refine ho_val rfl rfl (ex_assign rfl) ?_
              refine ho_nil ?_
              refine hk_then_code ?_
              refine hl_ret ?_
              exact hk_ret rfl rfl (fun w' hw' => ⟨ret_bool (by first | (exact absurd hc0 (by decide)) | (rw [Bool.eq_iff_iff]; simp only [mayI, decide_eq_true_eq, true_iff, false_iff, Bool.false_eq_true, beq_iff_eq, Bool.not_eq_true, decide_eq_false_iff_not]; omega)), hw'.below⟩)
            · try simp only [decide_eq_true_eq, decide_eq_false_iff_not, beq_iff_eq, beq_eq_false_iff_ne, bne_iff_ne, bne_eq_false_iff_eq, ne_eq, Int.not_lt, Int.not_le, gt_iff_lt, ge_iff_le, Bool.not_eq_true', Bool.not_eq_false'] at hb3_6
              refine ho_want rfl rfl rfl rfl rfl (ex_move rfl) ?_
              refine ho_want rfl rfl rfl rfl rfl (ex_eql rfl rfl rfl) ?_
              refine ho_val rfl rfl (ex_pick_false rfl rfl) ?_
              refine ho_val rfl rfl (ex_move rfl) ?_
              refine ho_bool 35 rfl (fun hb3_10 => ?_) (fun hb3_10 => ?_)
              · try simp only [decide_eq_true_eq, decide_eq_false_iff_not, beq_iff_eq, beq_eq_false_iff_ne, bne_iff_ne, bne_eq_false_iff_eq, ne_eq, Int.not_lt, Int.not_le, gt_iff_lt, ge_iff_le, Bool.not_eq_true', Bool.not_eq_false'] at hb3_10
                refine ho_skip rfl rfl rfl rfl rfl rfl ?_
                refine ho_skip rfl rfl rfl rfl rfl rfl ?_
                refine ho_val rfl rfl (ex_pick_true rfl rfl) ?_
                refine ho_val rfl rfl (ex_move rfl) ?_
                refine ho_skip rfl rfl rfl rfl rfl rfl ?_
                refine ho_skip rfl rfl rfl rfl rfl rfl ?_
                refine ho_val rfl rfl (ex_pick_true rfl rfl) ?_
                refine ho_val rfl rfl (ex_move rfl) ?_
                refine ho_skip rfl rfl rfl rfl rfl rfl ?_
                refine ho_skip rfl rfl rfl rfl rfl rfl ?_
                refine ho_val rfl rfl (ex_pick_true rfl rfl) ?_
                refine ho_val rfl rfl (ex_assign rfl) ?_
                refine ho_nil ?_
                refine hk_then_code ?_
                refine hl_ret ?_
                exact hk_ret rfl rfl (fun w' hw' => ⟨ret_bool (by first | (exact absurd hc0 (by decide)) | (rw [Bool.eq_iff_iff]; simp only [mayI, decide_eq_true_eq, true_iff, false_iff, Bool.false_eq_true, beq_iff_eq, Bool.not_eq_true, decide_eq_false_iff_not]; omega)), hw'.below⟩)
              · try simp only [decide_eq_true_eq, decide_eq_false_iff_not, beq_iff_eq, beq_eq_false_iff_ne, bne_iff_ne, bne_eq_false_iff_eq, ne_eq, Int.not_lt, Int.not_le, gt_iff_lt, ge_iff_le, Bool.not_eq_true', Bool.not_eq_false'] at hb3_10
                refine ho_want rfl rfl rfl rfl rfl (ex_move rfl) ?_
                refine ho_want rfl rfl rfl rfl rfl (ex_eql rfl rfl rfl) ?_
                refine ho_val rfl rfl (ex_pick_false rfl rfl) ?_
                refine ho_val rfl rfl (ex_move rfl) ?_
                refine ho_bool 39 rfl (fun hb3_14 => ?_) (fun hb3_14 => ?_)
                · try simp only [decide_eq_true_eq, decide_eq_false_iff_not, beq_iff_eq, beq_eq_false_iff_ne, bne_iff_ne, bne_eq_false_iff_eq, ne_eq, Int.not_lt, Int.not_le, gt_iff_lt, ge_iff_le, Bool.not_eq_true', Bool.not_eq_false'] at hb3_14
                  refine ho_skip rfl rfl rfl rfl rfl rfl ?_
                  refine ho_skip rfl rfl rfl rfl rfl rfl ?_
                  refine ho_val rfl rfl (ex_pick_true rfl rfl) ?_
                  refine ho_val rfl rfl (ex_move rfl) ?_
                  refine ho_skip rfl rfl rfl rfl rfl rfl ?_
                  refine ho_skip rfl rfl rfl rfl rfl rfl ?_
                  refine ho_val rfl rfl (ex_pick_true rfl rfl) ?_
                  refine ho_val rfl rfl (ex_assign rfl) ?_
                  refine ho_nil ?_
                  refine hk_then_code ?_
                  refine hl_ret ?_
                  exact hk_ret rfl rfl (fun w' hw' => ⟨ret_bool (by first | (exact absurd hc0 (by decide)) | (rw [Bool.eq_iff_iff]; simp only [mayI, decide_eq_true_eq, true_iff, false_iff, Bool.false_eq_true, beq_iff_eq, Bool.not_eq_true, decide_eq_false_iff_not]; omega)), hw'.below⟩)
                · try simp only [decide_eq_true_eq, decide_eq_false_iff_not, beq_iff_eq, beq_eq_false_iff_ne, bne_iff_ne, bne_eq_false_iff_eq, ne_eq, Int.not_lt, Int.not_le, gt_iff_lt, ge_iff_le, Bool.not_eq_true', Bool.not_eq_false'] at hb3_14
                  refine ho_want rfl rfl rfl rfl rfl (ex_move rfl) ?_
                  refine ho_want rfl rfl rfl rfl rfl (ex_eql rfl rfl rfl) ?_
                  refine ho_val rfl rfl (ex_pick_false rfl rfl) ?_
                  refine ho_val rfl rfl (ex_move rfl) ?_
                  refine ho_bool 43 rfl (fun hb3_18 => ?_) (fun hb3_18 => ?_)
                  · try simp only [decide_eq_true_eq, decide_eq_false_iff_not, beq_iff_eq, beq_eq_false_iff_ne, bne_iff_ne, bne_eq_false_iff_eq, ne_eq, Int.not_lt, Int.not_le, gt_iff_lt, ge_iff_le, Bool.not_eq_true', Bool.not_eq_false'] at hb3_18
                    refine ho_skip rfl rfl rfl rfl rfl rfl ?_
                    refine ho_skip rfl rfl rfl rfl rfl rfl ?_
                    refine ho_val rfl rfl (ex_pick_true rfl rfl) ?_
                    refine ho_val rfl rfl (ex_assign rfl) ?_
                    refine ho_nil ?_
                    refine hk_then_code ?_
                    refine hl_ret ?_
                    exact hk_ret rfl rfl (fun w' hw' => ⟨ret_bool (by first | (exact absurd hc0 (by decide)) | (rw [Bool.eq_iff_iff]; simp only [mayI, decide_eq_true_eq, true_iff, false_iff, Bool.false_eq_true, beq_iff_eq, Bool.not_eq_true, decide_eq_false_iff_not]; omega)), hw'.below⟩)
                  · try simp only [decide_eq_true_eq, decide_eq_false_iff_not, beq_iff_eq, beq_eq_false_iff_ne, bne_iff_ne, bne_eq_false_iff_eq, ne_eq, Int.not_lt, Int.not_le, gt_iff_lt, ge_iff_le, Bool.not_eq_true', Bool.not_eq_false'] at hb3_18
                    refine ho_want rfl rfl rfl rfl rfl (ex_move rfl) ?_
                    refine ho_want rfl rfl rfl rfl rfl (ex_eql rfl rfl rfl) ?_
                    refine ho_val rfl rfl (ex_pick_false rfl rfl) ?_
                    refine ho_val rfl rfl (ex_assign rfl) ?_
                    refine ho_nil ?_
                    refine hk_then_code ?_
                    refine hl_ret ?_
                    exact hk_ret rfl rfl (fun w' hw' => ⟨ret_bool (by first | (exact absurd hc0 (by decide)) | (rw [Bool.eq_iff_iff]; simp only [mayI, decide_eq_true_eq, true_iff, false_iff, Bool.false_eq_true, beq_iff_eq, Bool.not_eq_true, decide_eq_false_iff_not]; omega)), hw'.below⟩)
    · try simp only [decide_eq_true_eq, decide_eq_false_iff_not, beq_iff_eq, beq_eq_false_iff_ne, bne_iff_ne, bne_eq_false_iff_eq, ne_eq, Int.not_lt, Int.not_le, gt_iff_lt, ge_iff_le, Bool.not_eq_true', Bool.not_eq_false'] at hb1_9
      refine ho_skip rfl rfl rfl rfl rfl rfl ?_
      refine ho_skip rfl rfl rfl rfl rfl rfl ?_
      refine ho_want rfl rfl rfl rfl rfl (ex_pick_false rfl rfl) ?_
      refine ho_val rfl rfl (ex_pick_false rfl rfl) ?_
      refine ho_val rfl rfl (ex_move rfl) ?_
      refine ho_want rfl rfl rfl rfl rfl (ex_move rfl) ?_
      refine ho_want rfl rfl rfl rfl rfl (ex_geq rfl rfl rfl) ?_
      refine ho_want rfl rfl rfl rfl rfl (ex_move rfl) ?_
      refine ho_bool 20 rfl (fun hb1_17 => ?_) (fun hb1_17 => ?_)
      · try simp only [decide_eq_true_eq, decide_eq_false_iff_not, beq_iff_eq, beq_eq_false_iff_ne, bne_iff_ne, bne_eq_false_iff_eq, ne_eq, Int.not_lt, Int.not_le, gt_iff_lt, ge_iff_le, Bool.not_eq_true', Bool.not_eq_false'] at hb1_17
        refine ho_want rfl rfl rfl rfl rfl (ex_move rfl) ?_
        refine ho_want rfl rfl rfl rfl rfl (ex_leq rfl rfl rfl) ?_
        refine ho_want rfl rfl rfl rfl rfl (ex_pick_true rfl rfl) ?_
        refine ho_val rfl rfl (ex_pick_false rfl rfl) ?_
        refine ho_nil ?_
        refine hk_then_code ?_
        refine hl_if rfl (fun hc0 => ?_) (fun hc0 => ?_)
        · try simp only [decide_eq_true_eq, decide_eq_false_iff_not, beq_iff_eq, beq_eq_false_iff_ne, bne_iff_ne, bne_eq_false_iff_eq, ne_eq, Int.not_lt, Int.not_le, gt_iff_lt, ge_iff_le, Bool.not_eq_true', Bool.not_eq_false'] at hc0
          refine hl_seq ?_
          refine hl_region ?_
          refine ho_val rfl rfl (ex_assign rfl) ?_
          refine ho_nil ?_
          refine hk_then_code ?_
          refine hl_ret ?_
          refine hk_then_ret ?_
          exact hk_ret rfl rfl (fun w' hw' => ⟨ret_bool (by first | (exact absurd hc0 (by decide)) | (rw [Bool.eq_iff_iff]; simp only [mayI, decide_eq_true_eq, true_iff, false_iff, Bool.false_eq_true, beq_iff_eq, Bool.not_eq_true, decide_eq_false_iff_not]; omega)), hw'.below⟩)
        · try simp only [decide_eq_true_eq, decide_eq_false_iff_not, beq_iff_eq, beq_eq_false_iff_ne, bne_iff_ne, bne_eq_false_iff_eq, ne_eq, Int.not_lt, Int.not_le, gt_iff_lt, ge_iff_le, Bool.not_eq_true', Bool.not_eq_false'] at hc0
          refine hl_skip ?_
          refine hk_then_code ?_
          refine hl_seq ?_
          refine hl_region ?_
          refine ho_val rfl rfl (ex_move rfl) ?_
          refine ho_val rfl rfl (ex_eql rfl rfl rfl) ?_
          refine ho_val rfl rfl (ex_move rfl) ?_
          refine ho_bool 27 rfl (fun hb3_2 => ?_) (fun hb3_2 => ?_)
          · try simp only [decide_eq_true_eq, decide_eq_false_iff_not, beq_iff_eq, beq_eq_false_iff_ne, bne_iff_ne, bne_eq_false_iff_eq, ne_eq, Int.not_lt, Int.not_le, gt_iff_lt, ge_iff_le, Bool.not_eq_true', Bool.not_eq_false'] at hb3_2
            refine ho_skip rfl rfl rfl rfl rfl rfl ?_
            refine ho_skip rfl rfl rfl rfl rfl rfl ?_
            refine ho_val rfl rfl (ex_pick_true rfl rfl) ?_
            refine ho_val rfl rfl (ex_move rfl) ?_
            refine ho_skip rfl rfl rfl rfl rfl rfl ?_
            refine ho_skip rfl rfl rfl rfl rfl rfl ?_
            refine ho_val rfl rfl (ex_pick_true rfl rfl) ?_
            refine ho_val rfl rfl (ex_move rfl) ?_
            refine ho_skip rfl rfl rfl rfl rfl rfl ?_
            refine ho_skip rfl rfl rfl rfl rfl rfl ?_
            refine ho_val rfl rfl (ex_pick_true rfl rfl) ?_
            refine ho_val rfl rfl (ex_move rfl) ?_
            refine ho_skip rfl rfl rfl rfl rfl rfl ?_
            refine ho_skip rfl rfl rfl rfl rfl rfl ?_
            refine ho_val rfl rfl (ex_pick_true rfl rfl) ?_
            refine ho_val rfl rfl (ex_move rfl) ?_
            refine ho_skip rfl rfl rfl rfl rfl rfl ?_
            refine ho_skip rfl rfl rfl rfl rfl rfl ?_
            refine ho_val rfl rfl (ex_pick_true rfl rfl) ?_
            refine ho_val rfl rfl (ex_assign rfl) ?_
            refine ho_nil ?_
            refine hk_then_code ?_
            refine hl_ret ?_
            exact hk_ret rfl rfl (fun w' hw' => ⟨ret_bool (by first | (exact absurd hc0 (by decide)) | (rw [Bool.eq_iff_iff]; simp only [mayI, decide_eq_true_eq, true_iff, false_iff, Bool.false_eq_true, beq_iff_eq, Bool.not_eq_true, decide_eq_false_iff_not]; omega)), hw'.below⟩)
          · try simp only [decide_eq_true_eq, decide_eq_false_iff_not, beq_iff_eq, beq_eq_false_iff_ne, bne_iff_ne, bne_eq_false_iff_eq, ne_eq, Int.not_lt, Int.not_le, gt_iff_lt, ge_iff_le, Bool.not_eq_true', Bool.not_eq_false'] at hb3_2
            refine ho_want rfl rfl rfl rfl rfl (ex_move rfl) ?_
            refine ho_want rfl rfl rfl rfl rfl (ex_eql rfl rfl rfl) ?_
            refine ho_val rfl rfl (ex_pick_false rfl rfl) ?_
            refine ho_val rfl rfl (ex_move rfl) ?_
            refine ho_bool 31 rfl (fun hb3_6 => ?_) (fun hb3_6 => ?_)
            · try simp only [decide_eq_true_eq, decide_eq_false_iff_not, beq_iff_eq, beq_eq_false_iff_ne, bne_iff_ne, bne_eq_false_iff_eq, ne_eq, Int.not_lt, Int.not_le, gt_iff_lt, ge_iff_le, Bool.not_eq_true', Bool.not_eq_false'] at hb3_6
              refine ho_skip rfl rfl rfl rfl rfl rfl ?_
              refine ho_skip rfl rfl rfl rfl rfl rfl ?_
              refine ho_val rfl rfl (ex_pick_true rfl rfl) ?_
              refine ho_val rfl rfl (ex_move rfl) ?_
              refine ho_skip rfl rfl rfl rfl rfl rfl ?_
              refine ho_skip rfl rfl rfl rfl rfl rfl ?_
              refine ho_val rfl rfl (ex_pick_true rfl rfl) ?_
              refine ho_val rfl rfl (ex_move rfl) ?_
              refine ho_skip rfl rfl rfl rfl rfl rfl ?_
              refine ho_skip rfl rfl rfl rfl rfl rfl ?_
              refine ho_val rfl rfl (ex_pick_true rfl rfl) ?_
              refine ho_val rfl rfl (ex_move rfl) ?_
              refine ho_skip rfl rfl rfl rfl rfl rfl ?_
              refine ho_skip rfl rfl rfl rfl rfl rfl ?_
              refine ho_val rfl rfl (ex_pick_true rfl rfl) ?_
              refine ho_val rfl rfl (ex_assign rfl) ?_
              refine ho_nil ?_
              refine hk_then_code ?_
              refine hl_ret ?_
              exact hk_ret rfl rfl (fun w' hw' => ⟨ret_bool (by first | (exact absurd hc0 (by decide)) | (rw [Bool.eq_iff_iff]; simp only [mayI, decide_eq_true_eq, true_iff, false_iff, Bool.false_eq_true, beq_iff_eq, Bool.not_eq_true, decide_eq_false_iff_not]; omega)), hw'.below⟩)
            · try simp only [decide_eq_true_eq, decide_eq_false_iff_not, beq_iff_eq, beq_eq_false_iff_ne, bne_iff_ne, bne_eq_false_iff_eq, ne_eq, Int.not_lt, Int.not_le, gt_iff_lt, ge_iff_le, Bool.not_eq_true', Bool.not_eq_false'] at hb3_6
              refine ho_want rfl rfl rfl rfl rfl (ex_move rfl) ?_
              refine ho_want rfl rfl rfl rfl rfl (ex_eql rfl rfl rfl) ?_
              refine ho_val rfl rfl (ex_pick_false rfl rfl) ?_
              refine ho_val rfl rfl (ex_move rfl) ?_
              refine ho_bool 35 rfl (fun hb3_10 => ?_) (fun hb3_10 => ?_)
              · try simp only [decide_eq_true_eq, decide_eq_false_iff_not, beq_iff_eq, beq_eq_false_iff_ne, bne_iff_ne, bne_eq_false_iff_eq, ne_eq, Int.not_lt, Int.not_le, gt_iff_lt, ge_iff_le, Bool.not_eq_true', Bool.not_eq_false'] at hb3_10
                refine ho_skip rfl rfl rfl rfl rfl rfl ?_
                refine ho_skip rfl rfl rfl rfl rfl rfl ?_
                refine ho_val rfl rfl (ex_pick_true rfl rfl) ?_
                refine ho_val rfl rfl (ex_move rfl) ?_
                refine ho_skip rfl rfl rfl rfl rfl rfl ?_
                refine ho_skip rfl rfl rfl rfl rfl rfl ?_
                refine ho_val rfl rfl (ex_pick_true rfl rfl) ?_
                refine ho_val rfl rfl (ex_move rfl) ?_
                refine ho_skip rfl rfl rfl rfl rfl rfl ?_
                refine ho_skip rfl rfl rfl rfl rfl rfl ?_
                refine ho_val rfl rfl (ex_pick_true rfl rfl) ?_
                refine ho_val rfl rfl (ex_assign rfl) ?_
                refine ho_nil ?_
                refine hk_then_code ?_
                refine hl_ret ?_
                exact hk_ret rfl rfl (fun w' hw' => ⟨ret_bool (by first | (exact absurd hc0 (by decide)) | (rw [Bool.eq_iff_iff]; simp only [mayI, decide_eq_true_eq, true_iff, false_iff, Bool.false_eq_true, beq_iff_eq, Bool.not_eq_true, decide_eq_false_iff_not]; omega)), hw'.below⟩)
              · try simp only [decide_eq_true_eq, decide_eq_false_iff_not, beq_iff_eq, beq_eq_false_iff_ne, bne_iff_ne, bne_eq_false_iff_eq, ne_eq, Int.not_lt, Int.not_le, gt_iff_lt, ge_iff_le, Bool.not_eq_true', Bool.not_eq_false'] at hb3_10
                refine ho_want rfl rfl rfl rfl rfl (ex_move rfl) ?_
                refine ho_want rfl rfl rfl rfl rfl (ex_eql rfl rfl rfl) ?_
                refine ho_val rfl rfl (ex_pick_false rfl rfl) ?_
                refine ho_val rfl rfl (ex_move rfl) ?_
                refine ho_bool 39 rfl (fun hb3_14 => ?_) (fun hb3_14 => ?_)
                · try simp only [decide_eq_true_eq, decide_eq_false_iff_not, beq_iff_eq, beq_eq_false_iff_ne, bne_iff_ne, bne_eq_false_iff_eq, ne_eq, Int.not_lt, Int.not_le, gt_iff_lt, ge_iff_le, Bool.not_eq_true', Bool.not_eq_false'] at hb3_14
                  refine ho_skip rfl rfl rfl rfl rfl rfl ?_
                  refine ho_skip rfl rfl rfl rfl rfl rfl ?_
                  refine ho_val rfl rfl (ex_pick_true rfl rfl) ?_
                  refine ho_val rfl rfl (ex_move rfl) ?_
                  refine ho_skip rfl rfl rfl rfl rfl rfl ?_
                  refine ho_skip rfl rfl rfl rfl rfl rfl ?_
                  refine ho_val rfl rfl (ex_pick_true rfl rfl) ?_
                  refine ho_val rfl rfl (ex_assign rfl) ?_
                  refine ho_nil ?_
                  refine hk_then_code ?_
                  refine hl_ret ?_
                  exact hk_ret rfl rfl (fun w' hw' => ⟨ret_bool (by first | (exact absurd hc0 (by decide)) | (rw [Bool.eq_iff_iff]; simp only [mayI, decide_eq_true_eq, true_iff, false_iff, Bool.false_eq_true, beq_iff_eq, Bool.not_eq_true, decide_eq_false_iff_not]; omega)), hw'.below⟩)
                · try simp only [decide_eq_true_eq, decide_eq_false_iff_not, beq_iff_eq, beq_eq_false_iff_ne, bne_iff_ne, bne_eq_false_iff_eq, ne_eq, Int.not_lt, Int.not_le, gt_iff_lt, ge_iff_le, Bool.not_eq_true', Bool.not_eq_false'] at hb3_14
                  refine ho_want rfl rfl rfl rfl rfl (ex_move rfl) ?_
                  refine ho_want rfl rfl rfl rfl rfl (ex_eql rfl rfl rfl) ?_
                  refine ho_val rfl rfl (ex_pick_false rfl rfl) ?_
                  refine ho_val rfl rfl (ex_move rfl) ?_
                  refine ho_bool 43 rfl (fun hb3_18 => ?_) (fun hb3_18 => ?_)
                  · try simp only [decide_eq_true_eq, decide_eq_false_iff_not, beq_iff_eq, beq_eq_false_iff_ne, bne_iff_ne, bne_eq_false_iff_eq, ne_eq, Int.not_lt, Int.not_le, gt_iff_lt, ge_iff_le, Bool.not_eq_true', Bool.not_eq_false'] at hb3_18
                    refine ho_skip rfl rfl rfl rfl rfl rfl ?_
                    refine ho_skip rfl rfl rfl rfl rfl rfl ?_
                    refine ho_val rfl rfl (ex_pick_true rfl rfl) ?_
                    refine ho_val rfl rfl (ex_assign rfl) ?_
                    refine ho_nil ?_
                    refine hk_then_code ?_
                    refine hl_ret ?_
                    exact hk_ret rfl rfl (fun w' hw' => ⟨ret_bool (by first | (exact absurd hc0 (by decide)) | (rw [Bool.eq_iff_iff]; simp only [mayI, decide_eq_true_eq, true_iff, false_iff, Bool.false_eq_true, beq_iff_eq, Bool.not_eq_true, decide_eq_false_iff_not]; omega)), hw'.below⟩)
                  · try simp only [decide_eq_true_eq, decide_eq_false_iff_not, beq_iff_eq, beq_eq_false_iff_ne, bne_iff_ne, bne_eq_false_iff_eq, ne_eq, Int.not_lt, Int.not_le, gt_iff_lt, ge_iff_le, Bool.not_eq_true', Bool.not_eq_false'] at hb3_18
                    refine ho_want rfl rfl rfl rfl rfl (ex_move rfl) ?_
                    refine ho_want rfl rfl rfl rfl rfl (ex_eql rfl rfl rfl) ?_
                    refine ho_val rfl rfl (ex_pick_false rfl rfl) ?_
                    refine ho_val rfl rfl (ex_assign rfl) ?_
                    refine ho_nil ?_
                    refine hk_then_code ?_
                    refine hl_ret ?_
                    exact hk_ret rfl rfl (fun w' hw' => ⟨ret_bool (by first | (exact absurd hc0 (by decide)) | (rw [Bool.eq_iff_iff]; simp only [mayI, decide_eq_true_eq, true_iff, false_iff, Bool.false_eq_true, beq_iff_eq, Bool.not_eq_true, decide_eq_false_iff_not]; omega)), hw'.below⟩)
      · try simp only [decide_eq_true_eq, decide_eq_false_iff_not, beq_iff_eq, beq_eq_false_iff_ne, bne_iff_ne, bne_eq_false_iff_eq, ne_eq, Int.not_lt, Int.not_le, gt_iff_lt, ge_iff_le, Bool.not_eq_true', Bool.not_eq_false'] at hb1_17
        refine ho_skip rfl rfl rfl rfl rfl rfl ?_
        refine ho_skip rfl rfl rfl rfl rfl rfl ?_
        refine ho_want rfl rfl rfl rfl rfl (ex_pick_false rfl rfl) ?_
        refine ho_val rfl rfl (ex_pick_false rfl rfl) ?_
        refine ho_nil ?_
        refine hk_then_code ?_
        refine hl_false rfl ?_
        refine hl_skip ?_
        refine hk_then_code ?_
        refine hl_seq ?_
        refine hl_region ?_
        refine ho_val rfl rfl (ex_move rfl) ?_
        refine ho_val rfl rfl (ex_eql rfl rfl rfl) ?_
        refine ho_val rfl rfl (ex_move rfl) ?_
        refine ho_bool 27 rfl (fun hb3_2 => ?_) (fun hb3_2 => ?_)
        · try simp only [decide_eq_true_eq, decide_eq_false_iff_not, beq_iff_eq, beq_eq_false_iff_ne, bne_iff_ne, bne_eq_false_iff_eq, ne_eq, Int.not_lt, Int.not_le, gt_iff_lt, ge_iff_le, Bool.not_eq_true', Bool.not_eq_false'] at hb3_2
          refine ho_skip rfl rfl rfl rfl rfl rfl ?_
          refine ho_skip rfl rfl rfl rfl rfl rfl ?_
          refine ho_val rfl rfl (ex_pick_true rfl rfl) ?_
          refine ho_val rfl rfl (ex_move rfl) ?_
          refine ho_skip rfl rfl rfl rfl rfl rfl ?_
          refine ho_skip rfl rfl rfl rfl rfl rfl ?_
          refine ho_val rfl rfl (ex_pick_true rfl rfl) ?_
          refine ho_val rfl rfl (ex_move rfl) ?_
          refine ho_skip rfl rfl rfl rfl rfl rfl ?_
          refine ho_skip rfl rfl rfl rfl rfl rfl ?_
          refine ho_val rfl rfl (ex_pick_true rfl rfl) ?_
          refine ho_val rfl rfl (ex_move rfl) ?_
          refine ho_skip rfl rfl rfl rfl rfl rfl ?_
          refine ho_skip rfl rfl rfl rfl rfl rfl ?_
          refine ho_val rfl rfl (ex_pick_true rfl rfl) ?_
          refine ho_val rfl rfl (ex_move rfl) ?_
          refine ho_skip rfl rfl rfl rfl rfl rfl ?_
          refine ho_skip rfl rfl rfl rfl rfl rfl ?_
          refine ho_val rfl rfl (ex_pick_true rfl rfl) ?_
          refine ho_val rfl rfl (ex_assign rfl) ?_
          refine ho_nil ?_
          refine hk_then_code ?_
          refine hl_ret ?_
          exact hk_ret rfl rfl (fun w' hw' => ⟨ret_bool (by first | (exact absurd hc0 (by decide)) | (rw [Bool.eq_iff_iff]; simp only [mayI, decide_eq_true_eq, true_iff, false_iff, Bool.false_eq_true, beq_iff_eq, Bool.not_eq_true, decide_eq_false_iff_not]; omega)), hw'.below⟩)
        · try simp only [decide_eq_true_eq, decide_eq_false_iff_not, beq_iff_eq, beq_eq_false_iff_ne, bne_iff_ne, bne_eq_false_iff_eq, ne_eq, Int.not_lt, Int.not_le, gt_iff_lt, ge_iff_le, Bool.not_eq_true', Bool.not_eq_false'] at hb3_2
          refine ho_want rfl rfl rfl rfl rfl (ex_move rfl) ?_
          refine ho_want rfl rfl rfl rfl rfl (ex_eql rfl rfl rfl) ?_
          refine ho_val rfl rfl (ex_pick_false rfl rfl) ?_
          refine ho_val rfl rfl (ex_move rfl) ?_
          refine ho_bool 31 rfl (fun hb3_6 => ?_) (fun hb3_6 => ?_)
          · try simp only [decide_eq_true_eq, decide_eq_false_iff_not, beq_iff_eq, beq_eq_false_iff_ne, bne_iff_ne, bne_eq_false_iff_eq, ne_eq, Int.not_lt, Int.not_le, gt_iff_lt, ge_iff_le, Bool.not_eq_true', Bool.not_eq_false'] at hb3_6
            refine ho_skip rfl rfl rfl rfl rfl rfl ?_
            refine ho_skip rfl rfl rfl rfl rfl rfl ?_
            refine ho_val rfl rfl (ex_pick_true rfl rfl) ?_
            refine ho_val rfl rfl (ex_move rfl) ?_
            refine ho_skip rfl rfl rfl rfl rfl rfl ?_
            refine ho_skip rfl rfl rfl rfl rfl rfl ?_
            refine ho_val rfl rfl (ex_pick_true rfl rfl) ?_
            refine ho_val rfl rfl (ex_move rfl) ?_
            refine ho_skip rfl rfl rfl rfl rfl rfl ?_
            refine ho_skip rfl rfl rfl rfl rfl rfl ?_
            refine ho_val rfl rfl (ex_pick_true rfl rfl) ?_
            refine ho_val rfl rfl (ex_move rfl) ?_
            refine ho_skip rfl rfl rfl rfl rfl rfl ?_
            refine ho_skip rfl rfl rfl rfl rfl rfl ?_
            refine ho_val rfl rfl (ex_pick_true rfl rfl) ?_
            refine ho_val rfl rfl (ex_assign rfl) ?_
            refine ho_nil ?_
            refine hk_then_code ?_
            refine hl_ret ?_
            exact hk_ret rfl rfl (fun w' hw' => ⟨ret_bool (by first | (exact absurd hc0 (by decide)) | (rw [Bool.eq_iff_iff]; simp only [mayI, decide_eq_true_eq, true_iff, false_iff, Bool.false_eq_true, beq_iff_eq, Bool.not_eq_true, decide_eq_false_iff_not]; omega)), hw'.below⟩)
          · try simp only [decide_eq_true_eq, decide_eq_false_iff_not, beq_iff_eq, beq_eq_false_iff_ne, bne_iff_ne, bne_eq_false_iff_eq, ne_eq, Int.not_lt, Int.not_le, gt_iff_lt, ge_iff_le, Bool.not_eq_true', Bool.not_eq_false'] at hb3_6
            refine ho_want rfl rfl rfl rfl rfl (ex_move rfl) ?_
            refine ho_want rfl rfl rfl rfl rfl (ex_eql rfl rfl rfl) ?_
            refine ho_val rfl rfl (ex_pick_false rfl rfl) ?_
            refine ho_val rfl rfl (ex_move rfl) ?_
            refine ho_bool 35 rfl (fun hb3_10 => ?_) (fun hb3_10 => ?_)
            · try simp only [decide_eq_true_eq, decide_eq_false_iff_not, beq_iff_eq, beq_eq_false_iff_ne, bne_iff_ne, bne_eq_false_iff_eq, ne_eq, Int.not_lt, Int.not_le, gt_iff_lt, ge_iff_le, Bool.not_eq_true', Bool.not_eq_false'] at hb3_10
              refine ho_skip rfl rfl rfl rfl rfl rfl ?_
              refine ho_skip rfl rfl rfl rfl rfl rfl ?_
              refine ho_val rfl rfl (ex_pick_true rfl rfl) ?_
              refine ho_val rfl rfl (ex_move rfl) ?_
              refine ho_skip rfl rfl rfl rfl rfl rfl ?_
              refine ho_skip rfl rfl rfl rfl rfl rfl ?_
              refine ho_val rfl rfl (ex_pick_true rfl rfl) ?_
              refine ho_val rfl rfl (ex_move rfl) ?_
              refine ho_skip rfl rfl rfl rfl rfl rfl ?_
              refine ho_skip rfl rfl rfl rfl rfl rfl ?_
              refine ho_val rfl rfl (ex_pick_true rfl rfl) ?_
              refine ho_val rfl rfl (ex_assign rfl) ?_
              refine ho_nil ?_
              refine hk_then_code ?_
              refine hl_ret ?_
              exact hk_ret rfl rfl (fun w' hw' => ⟨ret_bool (by first | (exact absurd hc0 (by decide)) | (rw [Bool.eq_iff_iff]; simp only [mayI, decide_eq_true_eq, true_iff, false_iff, Bool.false_eq_true, beq_iff_eq, Bool.not_eq_true, decide_eq_false_iff_not]; omega)), hw'.below⟩)
            · try simp only [decide_eq_true_eq, decide_eq_false_iff_not, beq_iff_eq, beq_eq_false_iff_ne, bne_iff_ne, bne_eq_false_iff_eq, ne_eq, Int.not_lt, Int.not_le, gt_iff_lt, ge_iff_le, Bool.not_eq_true', Bool.not_eq_false'] at hb3_10
              refine ho_want rfl rfl rfl rfl rfl (ex_move rfl) ?_
              refine ho_want rfl rfl rfl rfl rfl (ex_eql rfl rfl rfl) ?_
              refine ho_val rfl rfl (ex_pick_false rfl rfl) ?_
              refine ho_val rfl rfl (ex_move rfl) ?_
              refine ho_bool 39 rfl (fun hb3_14 => ?_) (fun hb3_14 => ?_)
              · try simp only [decide_eq_true_eq, decide_eq_false_iff_not, beq_iff_eq, beq_eq_false_iff_ne, bne_iff_ne, bne_eq_false_iff_eq, ne_eq, Int.not_lt, Int.not_le, gt_iff_lt, ge_iff_le, Bool.not_eq_true', Bool.not_eq_false'] at hb3_14
                refine ho_skip rfl rfl rfl rfl rfl rfl ?_
                refine ho_skip rfl rfl rfl rfl rfl rfl ?_
                refine ho_val rfl rfl (ex_pick_true rfl rfl) ?_
                refine ho_val rfl rfl (ex_move rfl) ?_
                refine ho_skip rfl rfl rfl rfl rfl rfl ?_
                refine ho_skip rfl rfl rfl rfl rfl rfl ?_
                refine ho_val rfl rfl (ex_pick_true rfl rfl) ?_
                refine ho_val rfl rfl (ex_assign rfl) ?_
                refine ho_nil ?_
                refine hk_then_code ?_
                refine hl_ret ?_
                exact hk_ret rfl rfl (fun w' hw' => ⟨ret_bool (by first | (exact absurd hc0 (by decide)) | (rw [Bool.eq_iff_iff]; simp only [mayI, decide_eq_true_eq, true_iff, false_iff, Bool.false_eq_true, beq_iff_eq, Bool.not_eq_true, decide_eq_false_iff_not]; omega)), hw'.below⟩)
              · try simp only [decide_eq_true_eq, decide_eq_false_iff_not, beq_iff_eq, beq_eq_false_iff_ne, bne_iff_ne, bne_eq_false_iff_eq, ne_eq, Int.not_lt, Int.not_le, gt_iff_lt, ge_iff_le, Bool.not_eq_true', Bool.not_eq_false'] at hb3_14
                refine ho_want rfl rfl rfl rfl rfl (ex_move rfl) ?_
                refine ho_want rfl rfl rfl rfl rfl (ex_eql rfl rfl rfl) ?_
                refine ho_val rfl rfl (ex_pick_false rfl rfl) ?_
                refine ho_val rfl rfl (ex_move rfl) ?_
                refine ho_bool 43 rfl (fun hb3_18 => ?_) (fun hb3_18 => ?_)
                · try simp only [decide_eq_true_eq, decide_eq_false_iff_not, beq_iff_eq, beq_eq_false_iff_ne, bne_iff_ne, bne_eq_false_iff_eq, ne_eq, Int.not_lt, Int.not_le, gt_iff_lt, ge_iff_le, Bool.not_eq_true', Bool.not_eq_false'] at hb3_18
                  refine ho_skip rfl rfl rfl rfl rfl rfl ?_
                  refine ho_skip rfl rfl rfl rfl rfl rfl ?_
                  refine ho_val rfl rfl (ex_pick_true rfl rfl) ?_
                  refine ho_val rfl rfl (ex_assign rfl) ?_
                  refine ho_nil ?_
                  refine hk_then_code ?_
                  refine hl_ret ?_
                  exact hk_ret rfl rfl (fun w' hw' => ⟨ret_bool (by first | (exact absurd hc0 (by decide)) | (rw [Bool.eq_iff_iff]; simp only [mayI, decide_eq_true_eq, true_iff, false_iff, Bool.false_eq_true, beq_iff_eq, Bool.not_eq_true, decide_eq_false_iff_not]; omega)), hw'.below⟩)
                · try simp only [decide_eq_true_eq, decide_eq_false_iff_not, beq_iff_eq, beq_eq_false_iff_ne, bne_iff_ne, bne_eq_false_iff_eq, ne_eq, Int.not_lt, Int.not_le, gt_iff_lt, ge_iff_le, Bool.not_eq_true', Bool.not_eq_false'] at hb3_18
                  refine ho_want rfl rfl rfl rfl rfl (ex_move rfl) ?_
                  refine ho_want rfl rfl rfl rfl rfl (ex_eql rfl rfl rfl) ?_
                  refine ho_val rfl rfl (ex_pick_false rfl rfl) ?_
                  refine ho_val rfl rfl (ex_assign rfl) ?_
                  refine ho_nil ?_
                  refine hk_then_code ?_
                  refine hl_ret ?_
                  exact hk_ret rfl rfl (fun w' hw' => ⟨ret_bool (by first | (exact absurd hc0 (by decide)) | (rw [Bool.eq_iff_iff]; simp only [mayI, decide_eq_true_eq, true_iff, false_iff, Bool.false_eq_true, beq_iff_eq, Bool.not_eq_true, decide_eq_false_iff_not]; omega)), hw'.below⟩)

end Go.Proofs.Ytoegpjcekdafoaa
