/- The worth of a digit, and the first byte that is none. -/
import Derived.Test.YtdmagjelmhcemaaRows
import Derived.Test.YtdmagjelmhcemaaFacts
import Derived.Test.YtdmagjelmhcemaaB
import Derived.Test.YtdmagjelmhcemaaUn2
import Derived.Test.YtdmagjelmhcemaaIdx
import Derived.Test.YtdmagjelmhcemaaD
import Derived.KernelRfl
namespace Go.Proofs.Ytdmagjelmhcemaa
open Go.RowKit
set_option linter.unusedVariables false
set_option linter.unusedSimpArgs false

set_option maxHeartbeats 400000 in
theorem value_any (D : List UInt8) (c : UInt8) (w : World) :
    Calls Try.prog 30 #[Value.string (bs D), Value.int .u8 (c.toNat : Int)] w fun e w' => e = .returned (.int .i64 (Lib.indexByte D c)) ∧ Below w.heap.size w w' := by
  refine calls_enter (n := 8) (hs := []) (M := []) (vs := [Value.string (bs D), Value.int .u8 (c.toNat : Int)]) Try.func30 rfl rfl rfl (Hp.start w) ?_
  refine hl_seq ?_
  refine hl_region ?_
  refine ho_val rfl rfl (ex_assign rfl) ?_
  refine ho_nil ?_
  refine hk_then_code ?_
  refine hl_seq ?_
  refine hl_region ?_
  refine ho_val rfl rfl (ex_move rfl) ?_
  refine ho_val rfl rfl (ex_move rfl) ?_
  refine ho_do rfl rfl (exw_call_pure Try.func42 rfl (by kernel_rfl) rfl (fun w' hw' => idx_any D c w')) (fun _ _ => ?_)
  refine ho_val rfl rfl (ex_assign rfl) ?_
  refine ho_nil ?_
  refine hk_then_code ?_
  refine hl_ret ?_
  exact hk_ret rfl rfl (fun w' hw' => ⟨rfl, hw'.below⟩)

set_option maxHeartbeats 400000 in
theorem wrong_any (L D : List UInt8) (hl : L.length ≤ 140737488355328) (w : World) :
    Calls Try.prog 29 #[Value.string (bs L), Value.string (bs D)] w fun e w' => e = .returned (.int .i64 (wrongInt D L)) ∧ Below w.heap.size w w' := by
  refine calls_enter (n := 19) (hs := []) (M := []) (vs := [Value.string (bs L), Value.string (bs D)]) Try.func29 rfl rfl rfl (Hp.start w) ?_
  refine hl_seq ?_
  refine hl_region ?_
  refine ho_val rfl rfl (ex_assign rfl) ?_
  refine ho_nil ?_
  refine hk_then_code ?_
  refine hl_seq ?_
  refine hl_seq ?_
  refine hl_region ?_
  refine ho_val rfl rfl (ex_move rfl) ?_
  refine ho_val rfl rfl (ex_len_str rfl Try.underlying9) ?_
  refine ho_val rfl rfl (ex_move rfl) ?_
  refine ho_nil ?_
  refine hk_then_code ?_
  refine hl_block ?_
  refine hl_loop (G := Nat) (fun p => L.length - p) (fun p => p ≤ L.length ∧ ∀ j, j < p → isBad D (L.getD j 0) = false) (fun p => [(0, .string (bs L)), (1, .string (bs D)), (7, .int .i64 (L.length : Int)), (8, .int .i64 (p : Nat))]) (fun p => []) 0 ⟨Nat.zero_le _, fun j h => absurd h (by omega)⟩ ⟨rfl, rfl, rfl, rfl, trivial⟩ _ (by decide) .nil (fun p hg => ?_)
  refine hl_seq ?_
  refine hl_region ?_
  refine ho_val rfl rfl (ex_lss rfl rfl rfl) ?_
  refine ho_nil ?_
  refine hk_then_code ?_
  refine hl_seq ?_
  refine hl_if rfl (fun hc0 => ?_) (fun hc0 => ?_)
  · try simp only [decide_eq_true_eq, decide_eq_false_iff_not, beq_iff_eq, beq_eq_false_iff_ne, bne_iff_ne, bne_eq_false_iff_eq, ne_eq, Int.not_lt, Int.not_le, gt_iff_lt, ge_iff_le, Bool.not_eq_true', Bool.not_eq_false'] at hc0
    have hk5 : p < L.length := by have := hg.1; omega
    refine hl_skip ?_
    refine hk_then_code ?_
    refine hl_seq ?_
    refine hl_block ?_
    refine hl_seq ?_
    refine hl_region ?_
    refine ho_val rfl rfl (ex_move rfl) ?_
    refine ho_val rfl rfl (ex_assign rfl) ?_
    refine ho_nil ?_
    refine hk_then_code ?_
    refine hl_seq ?_
    refine hl_region ?_
    refine ho_val rfl rfl (ex_move rfl) ?_
    refine ho_val rfl rfl (ex_move rfl) ?_
    refine ho_val rfl rfl (ex_move rfl) ?_
    refine ho_val rfl rfl (ex_index_str rfl rfl Try.underlying9 (by omega)) ?_
    refine ho_do rfl rfl (exw_call_pure Try.func30 rfl (by kernel_rfl) rfl (fun w' hw' => value_any D _ w')) (fun _ _ => ?_)
    refine ho_val rfl rfl (ex_lss rfl rfl rfl) ?_
    refine ho_nil ?_
    refine hk_then_code ?_
    refine hl_if rfl (fun hc1 => ?_) (fun hc1 => ?_)
    · try simp only [decide_eq_true_eq, decide_eq_false_iff_not, beq_iff_eq, beq_eq_false_iff_ne, bne_iff_ne, bne_eq_false_iff_eq, ne_eq, Int.not_lt, Int.not_le, gt_iff_lt, ge_iff_le, Bool.not_eq_true', Bool.not_eq_false'] at hc1
      refine hl_seq ?_
      refine hl_region ?_
      refine ho_val rfl rfl (ex_move rfl) ?_
      refine ho_val rfl rfl (ex_assign rfl) ?_
      refine ho_nil ?_
      refine hk_then_code ?_
      refine hl_ret ?_
      refine hk_block_ret ?_
      refine hk_then_ret ?_
      refine hk_then_ret ?_
      refine hk_block_ret ?_
      refine hk_then_ret ?_
      exact hk_ret rfl rfl (fun w' hw' => ⟨by rw [wrongInt_some (wrong_hit hk5 hg.2 (by simpa [isBad] using hc1))], hw'.below⟩)
    · try simp only [decide_eq_true_eq, decide_eq_false_iff_not, beq_iff_eq, beq_eq_false_iff_ne, bne_iff_ne, bne_eq_false_iff_eq, ne_eq, Int.not_lt, Int.not_le, gt_iff_lt, ge_iff_le, Bool.not_eq_true', Bool.not_eq_false'] at hc1
      refine hl_skip ?_
      refine hk_block_normal ?_
      refine hk_then_code ?_
      refine hl_region ?_
      refine ho_val rfl rfl (ex_addN (q := 1) rfl rfl (by omega)) ?_
      refine ho_val rfl rfl (ex_move rfl) ?_
      refine ho_nil ?_
      refine hk_then_normal ?_
      exact hk_round (p + 1) ⟨by omega, fun j hj => by rcases Nat.lt_or_ge j p with h | h; exact hg.2 j h; obtain rfl : j = p := (by omega); simpa [isBad] using hc1⟩ (by omega) ⟨rfl, rfl, rfl, rfl, trivial⟩ _ (by decide) .nil
  · try simp only [decide_eq_true_eq, decide_eq_false_iff_not, beq_iff_eq, beq_eq_false_iff_ne, bne_iff_ne, bne_eq_false_iff_eq, ne_eq, Int.not_lt, Int.not_le, gt_iff_lt, ge_iff_le, Bool.not_eq_true', Bool.not_eq_false'] at hc0
    have hk6 : p = L.length := by have := hg.1; omega
    refine hl_exit ?_
    refine hk_then_exit ?_
    refine hk_then_exit ?_
    refine hk_block_hit ?_
    refine hk_then_code ?_
    refine hl_seq ?_
    refine hl_region ?_
    refine ho_val rfl rfl (ex_assign rfl) ?_
    refine ho_nil ?_
    refine hk_then_code ?_
    refine hl_ret ?_
    exact hk_ret rfl rfl (fun w' hw' => ⟨by rw [wrongInt_none (wrong_none (fun j hj => hg.2 j (by omega)))], hw'.below⟩)

end Go.Proofs.Ytdmagjelmhcemaa
