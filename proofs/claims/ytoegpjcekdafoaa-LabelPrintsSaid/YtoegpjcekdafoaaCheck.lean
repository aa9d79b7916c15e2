/- Check, of the labels and of the document; the law LabelNames, walked. -/
import Derived.Test.YtoegpjcekdafoaaRows
import Derived.Test.YtoegpjcekdafoaaFacts
import Derived.Test.YtoegpjcekdafoaaB
import Derived.Test.YtoegpjcekdafoaaName
import Derived.Test.YtoegpjcekdafoaaMay
import Derived.KernelRfl
namespace Go.Proofs.Ytoegpjcekdafoaa
open Go.RowKit
set_option linter.unusedVariables false
set_option linter.unusedSimpArgs false

set_option maxHeartbeats 400000 in
theorem check_any (L : List UInt8) (w : World) :
    Calls Try.prog 10 #[Value.string (bs L)] w fun e w' => e = .returned (.tuple #[.int .i64 (checkOf L).1, .int .i64 (checkOf L).2]) ∧ Below w.heap.size w w' := by
  refine calls_enter (n := 28) (hs := []) (M := []) (vs := [Value.string (bs L)]) Try.func10 rfl rfl rfl (Hp.start w) ?_
  refine hl_seq ?_
  refine hl_region ?_
  refine ho_val rfl rfl (ex_assign rfl) ?_
  refine ho_val rfl rfl (ex_assign rfl) ?_
  refine ho_nil ?_
  refine hk_then_code ?_
  refine hl_seq ?_
  refine hl_block ?_
  refine hl_seq ?_
  refine hl_region ?_
  refine ho_val rfl rfl (ex_move rfl) ?_
  refine ho_val rfl rfl (ex_len_str rfl Try.underlying9) ?_
  refine ho_val rfl rfl (ex_gtr rfl rfl rfl) ?_
  refine ho_val rfl rfl (ex_assign rfl) ?_
  refine ho_nil ?_
  refine hk_then_code ?_
  refine hl_if rfl (fun hc0 => ?_) (fun hc0 => ?_)
  · try simp only [decide_eq_true_eq, decide_eq_false_iff_not, beq_iff_eq, beq_eq_false_iff_ne, bne_iff_ne, bne_eq_false_iff_eq, ne_eq, Int.not_lt, Int.not_le, gt_iff_lt, ge_iff_le, Bool.not_eq_true', Bool.not_eq_false'] at hc0
    refine hl_seq ?_
    refine hl_region ?_
    refine ho_val rfl rfl (ex_assign rfl) ?_
    refine ho_val rfl rfl (ex_assign rfl) ?_
    refine ho_nil ?_
    refine hk_then_code ?_
    refine hl_ret ?_
    refine hk_block_ret ?_
    refine hk_then_ret ?_
    exact hk_ret2 rfl rfl rfl (fun w' hw' => ⟨by rw [check_long (by omega)] <;> rfl, hw'.below⟩)
  · try simp only [decide_eq_true_eq, decide_eq_false_iff_not, beq_iff_eq, beq_eq_false_iff_ne, bne_iff_ne, bne_eq_false_iff_eq, ne_eq, Int.not_lt, Int.not_le, gt_iff_lt, ge_iff_le, Bool.not_eq_true', Bool.not_eq_false'] at hc0
    refine hl_seq ?_
    refine hl_region ?_
    refine ho_val rfl rfl (ex_move rfl) ?_
    refine ho_val rfl rfl (ex_eql_str rfl rfl rfl) ?_
    refine ho_val rfl rfl (ex_move rfl) ?_
    refine ho_bool 13 rfl (fun hb3_2 => ?_) (fun hb3_2 => ?_)
    · try simp only [decide_eq_true_eq, decide_eq_false_iff_not, beq_iff_eq, beq_eq_false_iff_ne, bne_iff_ne, bne_eq_false_iff_eq, ne_eq, Int.not_lt, Int.not_le, gt_iff_lt, ge_iff_le, Bool.not_eq_true', Bool.not_eq_false'] at hb3_2
      refine ho_skip rfl rfl rfl rfl rfl rfl ?_
      refine ho_skip rfl rfl rfl rfl rfl rfl ?_
      refine ho_skip rfl rfl rfl rfl rfl rfl ?_
      refine ho_val rfl rfl (ex_pick_true rfl rfl) ?_
      refine ho_val rfl rfl (ex_assign rfl) ?_
      refine ho_nil ?_
      refine hk_then_code ?_
      refine hl_true rfl ?_
      refine hl_seq ?_
      refine hl_region ?_
      refine ho_val rfl rfl (ex_assign rfl) ?_
      refine ho_val rfl rfl (ex_assign rfl) ?_
      refine ho_nil ?_
      refine hk_then_code ?_
      refine hl_ret ?_
      refine hk_block_ret ?_
      refine hk_then_ret ?_
      exact hk_ret2 rfl rfl rfl (fun w' hw' => ⟨by rw [check_none (by rw [hb3_2]; rfl)] <;> rfl, hw'.below⟩)
    · try simp only [decide_eq_true_eq, decide_eq_false_iff_not, beq_iff_eq, beq_eq_false_iff_ne, bne_iff_ne, bne_eq_false_iff_eq, ne_eq, Int.not_lt, Int.not_le, gt_iff_lt, ge_iff_le, Bool.not_eq_true', Bool.not_eq_false'] at hb3_2
      have hne : 0 < L.length := List.length_pos_iff.2 hb3_2
      refine ho_want rfl rfl rfl rfl rfl (ex_move rfl) ?_
      refine ho_want rfl rfl rfl rfl rfl (ex_index_str (k := 0) rfl rfl Try.underlying9 hne) ?_
      refine ho_want rfl rfl rfl rfl rfl (ex_eql rfl rfl rfl) ?_
      refine ho_val rfl rfl (ex_pick_false rfl rfl) ?_
      refine ho_val rfl rfl (ex_assign rfl) ?_
      refine ho_nil ?_
      refine hk_then_code ?_
      refine hl_if rfl (fun hc1 => ?_) (fun hc1 => ?_)
      · try simp only [decide_eq_true_eq, decide_eq_false_iff_not, beq_iff_eq, beq_eq_false_iff_ne, bne_iff_ne, bne_eq_false_iff_eq, ne_eq, Int.not_lt, Int.not_le, gt_iff_lt, ge_iff_le, Bool.not_eq_true', Bool.not_eq_false'] at hc1
        refine hl_seq ?_
        refine hl_region ?_
        refine ho_val rfl rfl (ex_assign rfl) ?_
        refine ho_val rfl rfl (ex_assign rfl) ?_
        refine ho_nil ?_
        refine hk_then_code ?_
        refine hl_ret ?_
        refine hk_block_ret ?_
        refine hk_then_ret ?_
        exact hk_ret2 rfl rfl rfl (fun w' hw' => ⟨by rw [check_dot (by omega) hne (by omega)] <;> rfl, hw'.below⟩)
      · try simp only [decide_eq_true_eq, decide_eq_false_iff_not, beq_iff_eq, beq_eq_false_iff_ne, bne_iff_ne, bne_eq_false_iff_eq, ne_eq, Int.not_lt, Int.not_le, gt_iff_lt, ge_iff_le, Bool.not_eq_true', Bool.not_eq_false'] at hc1
        refine hl_skip ?_
        refine hk_block_normal ?_
        refine hk_then_code ?_
        refine hl_seq ?_
        refine hl_seq ?_
        refine hl_region ?_
        refine ho_val rfl rfl (ex_move rfl) ?_
        refine ho_range rfl Try.underlying9 rfl (fun wb k hbase hit hit0 => ?_)
        refine ho_nil ?_
        refine hk_then_code ?_
        refine hl_block ?_
        refine hl_range_loop hbase hit0 hit (fun p => p ≤ L.length ∧ ∀ j, j < p → mayI (L.getD j 0).toNat = true) ⟨Nat.zero_le _, fun j h => absurd h (by omega)⟩ [(0, .string (bs L)), (19, .pointer (some ⟨k, 0, none⟩))] ⟨rfl, rfl, trivial⟩ rfl rfl rfl (fun w1 p hp hlt hbase => ?_) (fun w1 p hp hlt hbase hit => ?_)
        · rw [bs_size] at hlt
          skip
          refine hl_seq ?_
          refine hl_false rfl ?_
          refine hl_exit ?_
          refine hk_then_exit ?_
          refine hk_then_exit ?_
          refine hk_block_hit ?_
          refine hk_then_code ?_
          refine hl_seq ?_
          refine hl_region ?_
          refine ho_val rfl rfl (ex_assign rfl) ?_
          refine ho_val rfl rfl (ex_assign rfl) ?_
          refine ho_nil ?_
          refine hk_then_code ?_
          refine hl_ret ?_
          exact hk_ret2 rfl rfl rfl (fun w' hw' => ⟨by rw [check_good (by omega) hne (by omega) (fun j hj => hp.2 j (by omega))] <;> rfl, Below.comp hbase hw'.below⟩)
        · have hlt' : p < L.length := by rw [bs_size] at hlt; exact hlt
          skip
          refine hl_seq ?_
          refine hl_true rfl ?_
          refine hl_skip ?_
          refine hk_then_code ?_
          refine hl_block ?_
          refine hl_seq ?_
          refine hl_region ?_
          refine ho_val rfl rfl (ex_extract rfl rfl) ?_
          refine ho_val rfl rfl (ex_extract rfl rfl) ?_
          refine ho_val rfl rfl (ex_assign rfl) ?_
          refine ho_val rfl rfl (ex_assign rfl) ?_
          refine ho_nil ?_
          refine hk_then_code ?_
          refine hl_seq ?_
          rcases Nat.lt_or_ge (L.getD p 0).toNat 128 with hlow | hhigh
          · refine hl_region ?_
            refine ho_val rfl rfl (ex_move rfl) ?_
            refine ho_do rfl rfl (exw_call_pure Try.func34 rfl (by kernel_rfl) rfl (fun w' hw' => may_any _ w')) (fun _ _ => ?_)
            refine ho_val rfl rfl (ex_not rfl) ?_
            refine ho_nil ?_
            refine hk_then_code ?_
            refine hl_if rfl (fun hc3 => ?_) (fun hc3 => ?_)
            · try simp only [decide_eq_true_eq, decide_eq_false_iff_not, beq_iff_eq, beq_eq_false_iff_ne, bne_iff_ne, bne_eq_false_iff_eq, ne_eq, Int.not_lt, Int.not_le, gt_iff_lt, ge_iff_le, Bool.not_eq_true', Bool.not_eq_false'] at hc3
              have hmf : mayI (L.getD p 0).toNat = false := by rw [decode_low hlt' hlow] at hc3; exact hc3
              refine hl_seq ?_
              refine hl_region ?_
              refine ho_val rfl rfl (ex_move rfl) ?_
              refine ho_val rfl rfl (ex_assign rfl) ?_
              refine ho_val rfl rfl (ex_assign rfl) ?_
              refine ho_nil ?_
              refine hk_then_code ?_
              refine hl_ret ?_
              refine hk_block_ret ?_
              refine hk_then_ret ?_
              refine hk_block_ret ?_
              refine hk_then_ret ?_
              exact hk_ret2 rfl rfl rfl (fun w' hw' => ⟨by rw [check_bad (by omega) hne (by omega) hlt' hp.2 hmf] <;> rfl, Below.comp hbase hw'.below⟩)
            · try simp only [decide_eq_true_eq, decide_eq_false_iff_not, beq_iff_eq, beq_eq_false_iff_ne, bne_iff_ne, bne_eq_false_iff_eq, ne_eq, Int.not_lt, Int.not_le, gt_iff_lt, ge_iff_le, Bool.not_eq_true', Bool.not_eq_false'] at hc3
              have hmt : mayI (L.getD p 0).toNat = true := by rw [decode_low hlt' hlow] at hc3; exact hc3
              refine hl_skip ?_
              refine hk_block_normal ?_
              refine hk_then_normal ?_
              exact hk_range_round (p + 1) ⟨by omega, fun j hj => by rcases Nat.lt_or_ge j p with h | h; exact hp.2 j h; obtain rfl : j = p := (by omega); exact hmt⟩ (by omega) hbase (by rw [decode_low hlt' hlow] at hit; exact hit) ⟨rfl, rfl, trivial⟩
          · refine hl_region ?_
            refine ho_val rfl rfl (ex_move rfl) ?_
            refine ho_do rfl rfl (exw_call_pure Try.func34 rfl (by kernel_rfl) rfl (fun w' hw' => may_any _ w')) (fun _ _ => ?_)
            refine ho_val rfl rfl (ex_not rfl) ?_
            refine ho_nil ?_
            refine hk_then_code ?_
            refine hl_if rfl (fun hc3 => ?_) (fun hc3 => ?_)
            · try simp only [decide_eq_true_eq, decide_eq_false_iff_not, beq_iff_eq, beq_eq_false_iff_ne, bne_iff_ne, bne_eq_false_iff_eq, ne_eq, Int.not_lt, Int.not_le, gt_iff_lt, ge_iff_le, Bool.not_eq_true', Bool.not_eq_false'] at hc3
              refine hl_seq ?_
              refine hl_region ?_
              refine ho_val rfl rfl (ex_move rfl) ?_
              refine ho_val rfl rfl (ex_assign rfl) ?_
              refine ho_val rfl rfl (ex_assign rfl) ?_
              refine ho_nil ?_
              refine hk_then_code ?_
              refine hl_ret ?_
              refine hk_block_ret ?_
              refine hk_then_ret ?_
              refine hk_block_ret ?_
              refine hk_then_ret ?_
              exact hk_ret2 rfl rfl rfl (fun w' hw' => ⟨by rw [check_bad (by omega) hne (by omega) hlt' hp.2 (may_high _ hhigh)] <;> rfl, Below.comp hbase hw'.below⟩)
            · try simp only [decide_eq_true_eq, decide_eq_false_iff_not, beq_iff_eq, beq_eq_false_iff_ne, bne_iff_ne, bne_eq_false_iff_eq, ne_eq, Int.not_lt, Int.not_le, gt_iff_lt, ge_iff_le, Bool.not_eq_true', Bool.not_eq_false'] at hc3
              rw [may_high _ (decode_up hlt' hhigh)] at hc3; cases hc3

set_option maxHeartbeats 400000 in
theorem refcheck_any (L : List UInt8) (w : World) :
    Calls Try.prog 11 #[Value.string (bs L)] w fun e w' => e = .returned (.tuple #[.int .i64 (checkOf L).1, .int .i64 (checkOf L).2]) ∧ Below w.heap.size w w' := by
  refine calls_enter (n := 30) (hs := []) (M := []) (vs := [Value.string (bs L)]) Try.func11 rfl rfl rfl (Hp.start w) ?_
  refine hl_seq ?_
  refine hl_region ?_
  refine ho_val rfl rfl (ex_assign rfl) ?_
  refine ho_val rfl rfl (ex_assign rfl) ?_
  refine ho_nil ?_
  refine hk_then_code ?_
  refine hl_seq ?_
  refine hl_seq ?_
  refine hl_region ?_
  refine ho_val rfl rfl (ex_move rfl) ?_
  refine ho_val rfl rfl (ex_len_str rfl Try.underlying9) ?_
  refine ho_val rfl rfl (ex_gtr rfl rfl rfl) ?_
  refine ho_nil ?_
  refine hk_then_code ?_
  refine hl_if rfl (fun hc0 => ?_) (fun hc0 => ?_)
  · try simp only [decide_eq_true_eq, decide_eq_false_iff_not, beq_iff_eq, beq_eq_false_iff_ne, bne_iff_ne, bne_eq_false_iff_eq, ne_eq, Int.not_lt, Int.not_le, gt_iff_lt, ge_iff_le, Bool.not_eq_true', Bool.not_eq_false'] at hc0
    refine hl_seq ?_
    refine hl_region ?_
    refine ho_val rfl rfl (ex_assign rfl) ?_
    refine ho_val rfl rfl (ex_assign rfl) ?_
    refine ho_nil ?_
    refine hk_then_code ?_
    refine hl_ret ?_
    refine hk_then_ret ?_
    exact hk_ret2 rfl rfl rfl (fun w' hw' => ⟨by rw [check_long (by omega)] <;> rfl, hw'.below⟩)
  · try simp only [decide_eq_true_eq, decide_eq_false_iff_not, beq_iff_eq, beq_eq_false_iff_ne, bne_iff_ne, bne_eq_false_iff_eq, ne_eq, Int.not_lt, Int.not_le, gt_iff_lt, ge_iff_le, Bool.not_eq_true', Bool.not_eq_false'] at hc0
    refine hl_skip ?_
    refine hk_then_code ?_
    refine hl_seq ?_
    refine hl_seq ?_
    refine hl_region ?_
    refine ho_val rfl rfl (ex_move rfl) ?_
    refine ho_val rfl rfl (ex_len_str rfl Try.underlying9) ?_
    refine ho_val rfl rfl (ex_eql rfl rfl rfl) ?_
    refine ho_val rfl rfl (ex_move rfl) ?_
    refine ho_bool 12 rfl (fun hb3_3 => ?_) (fun hb3_3 => ?_)
    · try simp only [decide_eq_true_eq, decide_eq_false_iff_not, beq_iff_eq, beq_eq_false_iff_ne, bne_iff_ne, bne_eq_false_iff_eq, ne_eq, Int.not_lt, Int.not_le, gt_iff_lt, ge_iff_le, Bool.not_eq_true', Bool.not_eq_false'] at hb3_3
      refine ho_skip rfl rfl rfl rfl rfl rfl ?_
      refine ho_skip rfl rfl rfl rfl rfl rfl ?_
      refine ho_skip rfl rfl rfl rfl rfl rfl ?_
      refine ho_val rfl rfl (ex_pick_true rfl rfl) ?_
      refine ho_nil ?_
      refine hk_then_code ?_
      refine hl_true rfl ?_
      refine hl_seq ?_
      refine hl_region ?_
      refine ho_val rfl rfl (ex_assign rfl) ?_
      refine ho_val rfl rfl (ex_assign rfl) ?_
      refine ho_nil ?_
      refine hk_then_code ?_
      refine hl_ret ?_
      refine hk_then_ret ?_
      exact hk_ret2 rfl rfl rfl (fun w' hw' => ⟨by rw [check_none (by omega)] <;> rfl, hw'.below⟩)
    · try simp only [decide_eq_true_eq, decide_eq_false_iff_not, beq_iff_eq, beq_eq_false_iff_ne, bne_iff_ne, bne_eq_false_iff_eq, ne_eq, Int.not_lt, Int.not_le, gt_iff_lt, ge_iff_le, Bool.not_eq_true', Bool.not_eq_false'] at hb3_3
      have hne : 0 < L.length := by omega
      refine ho_want rfl rfl rfl rfl rfl (ex_move rfl) ?_
      refine ho_want rfl rfl rfl rfl rfl (ex_index_str (k := 0) rfl rfl Try.underlying9 hne) ?_
      refine ho_want rfl rfl rfl rfl rfl (ex_eql rfl rfl rfl) ?_
      refine ho_val rfl rfl (ex_pick_false rfl rfl) ?_
      refine ho_nil ?_
      refine hk_then_code ?_
      refine hl_if rfl (fun hc1 => ?_) (fun hc1 => ?_)
      · try simp only [decide_eq_true_eq, decide_eq_false_iff_not, beq_iff_eq, beq_eq_false_iff_ne, bne_iff_ne, bne_eq_false_iff_eq, ne_eq, Int.not_lt, Int.not_le, gt_iff_lt, ge_iff_le, Bool.not_eq_true', Bool.not_eq_false'] at hc1
        refine hl_seq ?_
        refine hl_region ?_
        refine ho_val rfl rfl (ex_assign rfl) ?_
        refine ho_val rfl rfl (ex_assign rfl) ?_
        refine ho_nil ?_
        refine hk_then_code ?_
        refine hl_ret ?_
        refine hk_then_ret ?_
        exact hk_ret2 rfl rfl rfl (fun w' hw' => ⟨by rw [check_dot (by omega) hne (by omega)] <;> rfl, hw'.below⟩)
      · try simp only [decide_eq_true_eq, decide_eq_false_iff_not, beq_iff_eq, beq_eq_false_iff_ne, bne_iff_ne, bne_eq_false_iff_eq, ne_eq, Int.not_lt, Int.not_le, gt_iff_lt, ge_iff_le, Bool.not_eq_true', Bool.not_eq_false'] at hc1
        refine hl_skip ?_
        refine hk_then_code ?_
        refine hl_seq ?_
        refine hl_seq ?_
        refine hl_region ?_
        refine ho_val rfl rfl (ex_assign rfl) ?_
        refine ho_nil ?_
        refine hk_then_code ?_
        refine hl_block ?_
        refine hl_loop (G := Nat) (fun p => L.length - p) (fun p => p ≤ L.length ∧ ∀ j, j < p → mayI (L.getD j 0).toNat = true) (fun p => [(0, .string (bs L)), (4, .int .i64 (p : Nat))]) (fun p => []) 0 ⟨Nat.zero_le _, fun j h => absurd h (by omega)⟩ ⟨rfl, rfl, trivial⟩ _ (by decide) .nil (fun p hg => ?_)
        refine hl_seq ?_
        refine hl_seq ?_
        refine hl_region ?_
        refine ho_val rfl rfl (ex_move rfl) ?_
        refine ho_val rfl rfl (ex_move rfl) ?_
        refine ho_val rfl rfl (ex_len_str rfl Try.underlying9) ?_
        refine ho_val rfl rfl (ex_lss rfl rfl rfl) ?_
        refine ho_nil ?_
        refine hk_then_code ?_
        refine hl_if rfl (fun hc2 => ?_) (fun hc2 => ?_)
        · try simp only [decide_eq_true_eq, decide_eq_false_iff_not, beq_iff_eq, beq_eq_false_iff_ne, bne_iff_ne, bne_eq_false_iff_eq, ne_eq, Int.not_lt, Int.not_le, gt_iff_lt, ge_iff_le, Bool.not_eq_true', Bool.not_eq_false'] at hc2
          have hlt' : p < L.length := by have := hg.1; omega
          refine hl_skip ?_
          refine hk_then_code ?_
          refine hl_seq ?_
          refine hl_block ?_
          refine hl_seq ?_
          refine hl_region ?_
          refine ho_val rfl rfl (ex_move rfl) ?_
          refine ho_val rfl rfl (ex_move rfl) ?_
          refine ho_val rfl rfl (ex_index_str rfl rfl Try.underlying9 (by omega)) ?_
          refine ho_do rfl rfl (exw_call_pure Try.func35 rfl (by kernel_rfl) rfl (fun w' hw' => refmay_any _ w')) (fun _ _ => ?_)
          refine ho_val rfl rfl (ex_assign rfl) ?_
          refine ho_nil ?_
          refine hk_then_code ?_
          refine hl_seq ?_
          refine hl_region ?_
          refine ho_val rfl rfl (ex_move rfl) ?_
          refine ho_val rfl rfl (ex_not rfl) ?_
          refine ho_nil ?_
          refine hk_then_code ?_
          refine hl_if rfl (fun hc3 => ?_) (fun hc3 => ?_)
          · try simp only [decide_eq_true_eq, decide_eq_false_iff_not, beq_iff_eq, beq_eq_false_iff_ne, bne_iff_ne, bne_eq_false_iff_eq, ne_eq, Int.not_lt, Int.not_le, gt_iff_lt, ge_iff_le, Bool.not_eq_true', Bool.not_eq_false'] at hc3
            refine hl_seq ?_
            refine hl_region ?_
            refine ho_val rfl rfl (ex_move rfl) ?_
            refine ho_val rfl rfl (ex_assign rfl) ?_
            refine ho_val rfl rfl (ex_assign rfl) ?_
            refine ho_nil ?_
            refine hk_then_code ?_
            refine hl_ret ?_
            refine hk_block_ret ?_
            refine hk_then_ret ?_
            refine hk_then_ret ?_
            refine hk_block_ret ?_
            refine hk_then_ret ?_
            exact hk_ret2 rfl rfl rfl (fun w' hw' => ⟨by rw [check_bad (by omega) hne (by omega) (by omega) hg.2 hc3] <;> rfl, hw'.below⟩)
          · try simp only [decide_eq_true_eq, decide_eq_false_iff_not, beq_iff_eq, beq_eq_false_iff_ne, bne_iff_ne, bne_eq_false_iff_eq, ne_eq, Int.not_lt, Int.not_le, gt_iff_lt, ge_iff_le, Bool.not_eq_true', Bool.not_eq_false'] at hc3
            refine hl_skip ?_
            refine hk_block_normal ?_
            refine hk_then_code ?_
            refine hl_region ?_
            refine ho_val rfl rfl (ex_move rfl) ?_
            refine ho_val rfl rfl (ex_addN (q := 1) rfl rfl (by omega)) ?_
            refine ho_val rfl rfl (ex_assign rfl) ?_
            refine ho_nil ?_
            refine hk_then_normal ?_
            exact hk_round (p + 1) ⟨by omega, fun j hj => by rcases Nat.lt_or_ge j p with h | h; exact hg.2 j h; obtain rfl : j = p := (by omega); exact hc3⟩ (by omega) ⟨rfl, rfl, trivial⟩ _ (by decide) .nil
        · try simp only [decide_eq_true_eq, decide_eq_false_iff_not, beq_iff_eq, beq_eq_false_iff_ne, bne_iff_ne, bne_eq_false_iff_eq, ne_eq, Int.not_lt, Int.not_le, gt_iff_lt, ge_iff_le, Bool.not_eq_true', Bool.not_eq_false'] at hc2
          have hend : p = L.length := by have := hg.1; omega
          refine hl_exit ?_
          refine hk_then_exit ?_
          refine hk_then_exit ?_
          refine hk_block_hit ?_
          refine hk_then_code ?_
          refine hl_seq ?_
          refine hl_region ?_
          refine ho_val rfl rfl (ex_assign rfl) ?_
          refine ho_val rfl rfl (ex_assign rfl) ?_
          refine ho_nil ?_
          refine hk_then_code ?_
          refine hl_ret ?_
          exact hk_ret2 rfl rfl rfl (fun w' hw' => ⟨by rw [check_good (by omega) hne (by omega) (fun j hj => hg.2 j (by omega))] <;> rfl, hw'.below⟩)

set_option maxHeartbeats 400000 in
theorem names_law (L : List UInt8) (w : World) :
    Calls Try.prog 3 #[Value.string (bs L)] w fun e w' => e = .returned (.bool true) ∧ Below w.heap.size w w' := by
  refine calls_enter (n := 25) (hs := []) (M := []) (vs := [Value.string (bs L)]) Try.func3 rfl rfl rfl (Hp.start w) ?_
  refine hl_seq ?_
  refine hl_region ?_
  refine ho_val rfl rfl (ex_assign rfl) ?_
  refine ho_nil ?_
  refine hk_then_code ?_
  refine hl_seq ?_
  refine hl_region ?_
  refine ho_val rfl rfl (ex_move rfl) ?_
  refine ho_do rfl rfl (exw_call_pure Try.func10 rfl (by kernel_rfl) rfl (fun w' hw' => check_any L w')) (fun _ _ => ?_)
  refine ho_val rfl rfl (ex_move rfl) ?_
  refine ho_val rfl rfl (ex_extract rfl rfl) ?_
  refine ho_val rfl rfl (ex_extract rfl rfl) ?_
  refine ho_val rfl rfl (ex_assign rfl) ?_
  refine ho_val rfl rfl (ex_assign rfl) ?_
  refine ho_nil ?_
  refine hk_then_code ?_
  refine hl_seq ?_
  refine hl_region ?_
  refine ho_val rfl rfl (ex_move rfl) ?_
  refine ho_do rfl rfl (exw_call_pure Try.func11 rfl (by kernel_rfl) rfl (fun w' hw' => refcheck_any L w')) (fun _ _ => ?_)
  refine ho_val rfl rfl (ex_move rfl) ?_
  refine ho_val rfl rfl (ex_extract rfl rfl) ?_
  refine ho_val rfl rfl (ex_extract rfl rfl) ?_
  refine ho_val rfl rfl (ex_assign rfl) ?_
  refine ho_val rfl rfl (ex_assign rfl) ?_
  refine ho_nil ?_
  refine hk_then_code ?_
  refine hl_seq ?_
  refine hl_region ?_
  refine ho_val rfl rfl (ex_move rfl) ?_
  refine ho_val rfl rfl (ex_move rfl) ?_
  refine ho_val rfl rfl (ex_eql (b := true) rfl rfl (beq_self_eq_true _)) ?_
  refine ho_val rfl rfl (ex_move rfl) ?_
  refine ho_want rfl rfl rfl rfl rfl (ex_move rfl) ?_
  refine ho_want rfl rfl rfl rfl rfl (ex_move rfl) ?_
  refine ho_want rfl rfl rfl rfl rfl (ex_eql (b := true) rfl rfl (beq_self_eq_true _)) ?_
  refine ho_val rfl rfl (ex_pick_true rfl rfl) ?_
  refine ho_val rfl rfl (ex_assign rfl) ?_
  refine ho_nil ?_
  refine hk_then_code ?_
  refine hl_ret ?_
  exact hk_ret rfl rfl (fun w' hw' => ⟨rfl, hw'.below⟩)

end Go.Proofs.Ytoegpjcekdafoaa
