/- strings.HasPrefix, common: what they answer. -/
import Derived.Test.YtdmagjelmhcemaaRows
import Derived.Test.YtdmagjelmhcemaaFacts
import Derived.Test.YtdmagjelmhcemaaB
import Derived.Test.YtdmagjelmhcemaaRead
import Derived.Test.YtdmagjelmhcemaaRange
import Derived.Test.YtdmagjelmhcemaaUnHex
import Derived.Test.YtdmagjelmhcemaaUnBase32
import Derived.Test.YtdmagjelmhcemaaUnBase64
import Derived.KernelRfl
namespace Go.Proofs.Ytdmagjelmhcemaa
open Go.RowKit
set_option linter.unusedVariables false
set_option linter.unusedSimpArgs false

set_option maxHeartbeats 400000 in
theorem litehasprefix_any (L K : List UInt8) (w : World) :
    Calls Try.prog 46 #[Value.string (bs L), Value.string (bs K)] w fun e w' => e = .returned (.bool (decide (L.take K.length = K))) ∧ Below w.heap.size w w' := by
  refine calls_enter (n := 18) (hs := []) (M := []) (vs := [Value.string (bs L), Value.string (bs K)]) Try.func46 rfl rfl rfl (Hp.start w) ?_
  refine hl_seq ?_
  refine hl_region ?_
  refine ho_val rfl rfl (ex_assign rfl) ?_
  refine ho_nil ?_
  refine hk_then_code ?_
  refine hl_seq ?_
  refine hl_region ?_
  refine ho_val rfl rfl (ex_move rfl) ?_
  refine ho_val rfl rfl (ex_len_str rfl Try.underlying9) ?_
  refine ho_val rfl rfl (ex_move rfl) ?_
  refine ho_val rfl rfl (ex_len_str rfl Try.underlying9) ?_
  refine ho_val rfl rfl (ex_geq rfl rfl rfl) ?_
  refine ho_val rfl rfl (ex_move rfl) ?_
  refine ho_bool 10 rfl (fun hb1_5 => ?_) (fun hb1_5 => ?_)
  · try simp only [decide_eq_true_eq, decide_eq_false_iff_not, beq_iff_eq, beq_eq_false_iff_ne, bne_iff_ne, bne_eq_false_iff_eq, ne_eq, Int.not_lt, Int.not_le, gt_iff_lt, ge_iff_le, Bool.not_eq_true', Bool.not_eq_false'] at hb1_5
    refine ho_want rfl rfl rfl rfl rfl (ex_move rfl) ?_
    refine ho_want rfl rfl rfl rfl rfl (ex_move rfl) ?_
    refine ho_want rfl rfl rfl rfl rfl (ex_len_str rfl Try.underlying9) ?_
    refine ho_want rfl rfl rfl rfl rfl (ex_str_hi rfl rfl Try.underlying9 (by omega)) ?_
    refine ho_want rfl rfl rfl rfl rfl (ex_move rfl) ?_
    refine ho_want rfl rfl rfl rfl rfl (ex_eql_str rfl rfl rfl) ?_
    refine ho_val rfl rfl (ex_pick_true rfl rfl) ?_
    refine ho_val rfl rfl (ex_assign rfl) ?_
    refine ho_nil ?_
    refine hk_then_code ?_
    refine hl_ret ?_
    exact hk_ret rfl rfl (fun w' hw' => ⟨ret_bool' (by rw [Bool.eq_iff_iff]; simp), hw'.below⟩)
  · try simp only [decide_eq_true_eq, decide_eq_false_iff_not, beq_iff_eq, beq_eq_false_iff_ne, bne_iff_ne, bne_eq_false_iff_eq, ne_eq, Int.not_lt, Int.not_le, gt_iff_lt, ge_iff_le, Bool.not_eq_true', Bool.not_eq_false'] at hb1_5
    refine ho_skip rfl rfl rfl rfl rfl rfl ?_
    refine ho_skip rfl rfl rfl rfl rfl rfl ?_
    refine ho_skip rfl rfl rfl rfl rfl rfl ?_
    refine ho_skip rfl rfl rfl rfl rfl rfl ?_
    refine ho_skip rfl rfl rfl rfl rfl rfl ?_
    refine ho_skip rfl rfl rfl rfl rfl rfl ?_
    refine ho_val rfl rfl (ex_pick_false rfl rfl) ?_
    refine ho_val rfl rfl (ex_assign rfl) ?_
    refine ho_nil ?_
    refine hk_then_code ?_
    refine hl_ret ?_
    exact hk_ret rfl rfl (fun w' hw' => ⟨ret_bool' (by rw [eq_comm, decide_eq_false_iff_not]; intro h; have := congrArg List.length h; rw [List.length_take] at this; omega), hw'.below⟩)

set_option maxHeartbeats 400000 in
theorem hasprefix_any (L K : List UInt8) (w : World) :
    Calls Try.prog 39 #[Value.string (bs L), Value.string (bs K)] w fun e w' => e = .returned (.bool (decide (L.take K.length = K))) ∧ Below w.heap.size w w' := by
  refine calls_enter (n := 8) (hs := []) (M := []) (vs := [Value.string (bs L), Value.string (bs K)]) Try.func39 rfl rfl rfl (Hp.start w) ?_
  refine hl_seq ?_
  refine hl_region ?_
  refine ho_val rfl rfl (ex_assign rfl) ?_
  refine ho_nil ?_
  refine hk_then_code ?_
  refine hl_seq ?_
  refine hl_region ?_
  refine ho_val rfl rfl (ex_move rfl) ?_
  refine ho_val rfl rfl (ex_move rfl) ?_
  refine ho_do rfl rfl (exw_call_pure Try.func46 rfl (by kernel_rfl) rfl (fun w' hw' => litehasprefix_any L K w')) (fun _ _ => ?_)
  refine ho_val rfl rfl (ex_assign rfl) ?_
  refine ho_nil ?_
  refine hk_then_code ?_
  refine hl_ret ?_
  exact hk_ret rfl rfl (fun w' hw' => ⟨rfl, hw'.below⟩)

set_option maxHeartbeats 400000 in
theorem common_any (L K : List UInt8) (hl : L.length ≤ 4194304) (w : World) :
    Calls Try.prog 40 #[Value.string (bs L), Value.string (bs K)] w fun e w' => e = .returned (.int .i64 (cmn L K : Nat)) ∧ Below w.heap.size w w' := by
  refine calls_enter (n := 28) (hs := []) (M := []) (vs := [Value.string (bs L), Value.string (bs K)]) Try.func40 rfl rfl rfl (Hp.start w) ?_
  refine hl_seq ?_
  refine hl_region ?_
  refine ho_val rfl rfl (ex_assign rfl) ?_
  refine ho_nil ?_
  refine hk_then_code ?_
  refine hl_seq ?_
  refine hl_region ?_
  refine ho_val rfl rfl (ex_assign rfl) ?_
  refine ho_nil ?_
  refine hk_then_code ?_
  refine hl_seq ?_
  refine hl_block ?_
  refine hl_loop (G := Nat) (fun n => L.length - n) (fun n => n ≤ L.length ∧ n ≤ K.length ∧ L.take n = K.take n) (fun n => [(0, .string (bs L)), (1, .string (bs K)), (5, .int .i64 (n : Nat))]) (fun n => []) 0 ⟨Nat.zero_le _, Nat.zero_le _, rfl⟩ ⟨rfl, rfl, rfl, trivial⟩ _ (by decide) .nil (fun n hn => ?_)
  refine hl_seq ?_
  refine hl_seq ?_
  rcases cm_cases L K n with h1 | ⟨h1, h2⟩ | ⟨h1, h2⟩
  · refine hl_still 18 (by kernel_rfl) (by kernel_rfl) ?_
    refine hs_val rfl rfl (ex_move rfl) ?_
    refine hs_val rfl rfl (ex_move rfl) ?_
    refine hs_val rfl rfl (ex_len_str rfl Try.underlying9) ?_
    refine hs_val rfl rfl (ex_lss rfl rfl (decide_eq_false (by omega))) ?_
    refine hs_val rfl rfl (ex_move rfl) ?_
    refine hs_skip rfl rfl rfl rfl rfl rfl ?_
    refine hs_skip rfl rfl rfl rfl rfl rfl ?_
    refine hs_skip rfl rfl rfl rfl rfl rfl ?_
    refine hs_skip rfl rfl rfl rfl rfl rfl ?_
    refine hs_val rfl rfl (ex_pick_false rfl rfl) ?_
    refine hs_val rfl rfl (ex_move rfl) ?_
    refine hs_skip rfl rfl rfl rfl rfl rfl ?_
    refine hs_skip rfl rfl rfl rfl rfl rfl ?_
    refine hs_skip rfl rfl rfl rfl rfl rfl ?_
    refine hs_skip rfl rfl rfl rfl rfl rfl ?_
    refine hs_skip rfl rfl rfl rfl rfl rfl ?_
    refine hs_skip rfl rfl rfl rfl rfl rfl ?_
    refine hs_skip rfl rfl rfl rfl rfl rfl ?_
    refine hs_nil ?_
    refine ho_val rfl rfl (ex_pick_false rfl rfl) ?_
    refine ho_nil ?_
    refine hk_then_code ?_
    refine hl_false rfl ?_
    refine hl_exit ?_
    refine hk_then_exit ?_
    refine hk_then_exit ?_
    refine hk_block_hit ?_
    refine hk_then_code ?_
    refine hl_seq ?_
    refine hl_region ?_
    refine ho_val rfl rfl (ex_move rfl) ?_
    refine ho_val rfl rfl (ex_assign rfl) ?_
    refine ho_nil ?_
    refine hk_then_code ?_
    refine hl_ret ?_
    exact hk_ret rfl rfl (fun w' hw' => ⟨by rw [cmn_done n L K hn.1 hn.2.1 hn.2.2 (.inl h1)], hw'.below⟩)
  · refine hl_still 18 (by kernel_rfl) (by kernel_rfl) ?_
    refine hs_val rfl rfl (ex_move rfl) ?_
    refine hs_val rfl rfl (ex_move rfl) ?_
    refine hs_val rfl rfl (ex_len_str rfl Try.underlying9) ?_
    refine hs_val rfl rfl (ex_lss rfl rfl (decide_eq_true (by omega))) ?_
    refine hs_val rfl rfl (ex_move rfl) ?_
    refine hs_want rfl rfl rfl rfl rfl (ex_move rfl) ?_
    refine hs_want rfl rfl rfl rfl rfl (ex_move rfl) ?_
    refine hs_want rfl rfl rfl rfl rfl (ex_len_str rfl Try.underlying9) ?_
    refine hs_want rfl rfl rfl rfl rfl (ex_lss rfl rfl (decide_eq_false (by omega))) ?_
    refine hs_val rfl rfl (ex_pick_true rfl rfl) ?_
    refine hs_val rfl rfl (ex_move rfl) ?_
    refine hs_skip rfl rfl rfl rfl rfl rfl ?_
    refine hs_skip rfl rfl rfl rfl rfl rfl ?_
    refine hs_skip rfl rfl rfl rfl rfl rfl ?_
    refine hs_skip rfl rfl rfl rfl rfl rfl ?_
    refine hs_skip rfl rfl rfl rfl rfl rfl ?_
    refine hs_skip rfl rfl rfl rfl rfl rfl ?_
    refine hs_skip rfl rfl rfl rfl rfl rfl ?_
    refine hs_nil ?_
    refine ho_val rfl rfl (ex_pick_false rfl rfl) ?_
    refine ho_nil ?_
    refine hk_then_code ?_
    refine hl_false rfl ?_
    refine hl_exit ?_
    refine hk_then_exit ?_
    refine hk_then_exit ?_
    refine hk_block_hit ?_
    refine hk_then_code ?_
    refine hl_seq ?_
    refine hl_region ?_
    refine ho_val rfl rfl (ex_move rfl) ?_
    refine ho_val rfl rfl (ex_assign rfl) ?_
    refine ho_nil ?_
    refine hk_then_code ?_
    refine hl_ret ?_
    exact hk_ret rfl rfl (fun w' hw' => ⟨by rw [cmn_done n L K hn.1 hn.2.1 hn.2.2 (.inr (.inl h2))], hw'.below⟩)
  · refine hl_still 18 (by kernel_rfl) (by kernel_rfl) ?_
    refine hs_val rfl rfl (ex_move rfl) ?_
    refine hs_val rfl rfl (ex_move rfl) ?_
    refine hs_val rfl rfl (ex_len_str rfl Try.underlying9) ?_
    refine hs_val rfl rfl (ex_lss rfl rfl (decide_eq_true (by omega))) ?_
    refine hs_val rfl rfl (ex_move rfl) ?_
    refine hs_want rfl rfl rfl rfl rfl (ex_move rfl) ?_
    refine hs_want rfl rfl rfl rfl rfl (ex_move rfl) ?_
    refine hs_want rfl rfl rfl rfl rfl (ex_len_str rfl Try.underlying9) ?_
    refine hs_want rfl rfl rfl rfl rfl (ex_lss rfl rfl (decide_eq_true (by omega))) ?_
    refine hs_val rfl rfl (ex_pick_true rfl rfl) ?_
    refine hs_val rfl rfl (ex_move rfl) ?_
    refine hs_want rfl rfl rfl rfl rfl (ex_move rfl) ?_
    refine hs_want rfl rfl rfl rfl rfl (ex_move rfl) ?_
    refine hs_want rfl rfl rfl rfl rfl (ex_index_str rfl rfl Try.underlying9 (by omega)) ?_
    refine hs_want rfl rfl rfl rfl rfl (ex_move rfl) ?_
    refine hs_want rfl rfl rfl rfl rfl (ex_move rfl) ?_
    refine hs_want rfl rfl rfl rfl rfl (ex_index_str rfl rfl Try.underlying9 (by omega)) ?_
    refine hs_want rfl rfl rfl rfl rfl (ex_eql8 rfl rfl rfl) ?_
    refine hs_nil ?_
    refine ho_val rfl rfl (ex_pick_true rfl rfl) ?_
    refine ho_nil ?_
    refine hk_then_code ?_
    refine hl_if rfl (fun hc0 => ?_) (fun hc0 => ?_)
    · try simp only [decide_eq_true_eq, decide_eq_false_iff_not, beq_iff_eq, beq_eq_false_iff_ne, bne_iff_ne, bne_eq_false_iff_eq, ne_eq, Int.not_lt, Int.not_le, gt_iff_lt, ge_iff_le, Bool.not_eq_true', Bool.not_eq_false'] at hc0
      refine hl_skip ?_
      refine hk_then_code ?_
      refine hl_block ?_
      refine hl_region ?_
      refine ho_val rfl rfl (ex_move rfl) ?_
      refine ho_val rfl rfl (ex_addN (q := 1) rfl rfl (by omega)) ?_
      refine ho_val rfl rfl (ex_assign rfl) ?_
      refine ho_nil ?_
      refine hk_block_normal ?_
      refine hk_then_normal ?_
      exact hk_round (n + 1) ⟨by omega, by omega, take_more h1 h2 hn.2.2 hc0⟩ (by omega) ⟨rfl, rfl, rfl, trivial⟩ _ (by decide) .nil
    · try simp only [decide_eq_true_eq, decide_eq_false_iff_not, beq_iff_eq, beq_eq_false_iff_ne, bne_iff_ne, bne_eq_false_iff_eq, ne_eq, Int.not_lt, Int.not_le, gt_iff_lt, ge_iff_le, Bool.not_eq_true', Bool.not_eq_false'] at hc0
      refine hl_exit ?_
      refine hk_then_exit ?_
      refine hk_then_exit ?_
      refine hk_block_hit ?_
      refine hk_then_code ?_
      refine hl_seq ?_
      refine hl_region ?_
      refine ho_val rfl rfl (ex_move rfl) ?_
      refine ho_val rfl rfl (ex_assign rfl) ?_
      refine ho_nil ?_
      refine hk_then_code ?_
      refine hl_ret ?_
      exact hk_ret rfl rfl (fun w' hw' => ⟨by rw [cmn_done n L K hn.1 hn.2.1 hn.2.2 (.inr (.inr hc0))], hw'.below⟩)

end Go.Proofs.Ytdmagjelmhcemaa
