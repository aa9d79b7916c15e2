/- UnBase64: what it answers. -/
import Derived.Test.YtdmagjelmhcemaaRows
import Derived.Test.YtdmagjelmhcemaaFacts
import Derived.Test.YtdmagjelmhcemaaB
import Derived.Test.YtdmagjelmhcemaaUn2
import Derived.Test.YtdmagjelmhcemaaIdx
import Derived.Test.YtdmagjelmhcemaaD
import Derived.KernelRfl
import Derived.Test.YtdmagjelmhcemaaUn3
import Derived.Test.YtdmagjelmhcemaaRange
import Derived.Test.YtdmagjelmhcemaaValues
namespace Go.Proofs.Ytdmagjelmhcemaa
open Go.RowKit
set_option linter.unusedVariables false
set_option linter.unusedSimpArgs false

set_option maxHeartbeats 400000 in
theorem hassuffix_any (L : List UInt8) (hl : L.length ≤ 4194304) (w : World) :
    Calls Try.prog 48 #[Value.string (bs L), Value.string (bs [61])] w fun e w' => e = .returned (.bool (decide (L.drop (L.length - 1) = [61]))) ∧ Below w.heap.size w w' := by
  refine calls_enter (n := 21) (hs := []) (M := []) (vs := [Value.string (bs L), Value.string (bs [61])]) Try.func48 rfl rfl rfl (Hp.start w) ?_
  refine hl_seq ?_
  refine hl_region ?_
  refine ho_val rfl rfl (ex_assign rfl) ?_
  refine ho_nil ?_
  refine hk_then_code ?_
  refine hl_seq ?_
  refine hl_region ?_
  refine ho_val rfl rfl (ex_move rfl) ?_
  refine ho_val rfl rfl (ex_len_str rfl Try.underlying9) ?_
  refine ho_val rfl rfl (ex_move rfl) ?_
  refine ho_val rfl rfl (ex_len_str rfl Try.underlying9) ?_
  refine ho_val rfl rfl (ex_geq rfl rfl rfl) ?_
  refine ho_val rfl rfl (ex_move rfl) ?_
  refine ho_bool 10 rfl (fun hb1_5 => ?_) (fun hb1_5 => ?_)
  · try simp only [decide_eq_true_eq, decide_eq_false_iff_not, beq_iff_eq, beq_eq_false_iff_ne, bne_iff_ne, bne_eq_false_iff_eq, ne_eq, Int.not_lt, Int.not_le, gt_iff_lt, ge_iff_le, Bool.not_eq_true', Bool.not_eq_false'] at hb1_5
    refine ho_want rfl rfl rfl rfl rfl (ex_move rfl) ?_
    refine ho_want rfl rfl rfl rfl rfl (ex_move rfl) ?_
    refine ho_want rfl rfl rfl rfl rfl (ex_len_str rfl Try.underlying9) ?_
    refine ho_want rfl rfl rfl rfl rfl (ex_move rfl) ?_
    refine ho_want rfl rfl rfl rfl rfl (ex_len_str rfl Try.underlying9) ?_
    refine ho_want rfl rfl rfl rfl rfl (ex_subN rfl rfl (by simp only [List.length_cons, List.length_nil] at hb1_5 ⊢; omega) (by omega)) ?_
    refine ho_want rfl rfl rfl rfl rfl (ex_str_lo rfl rfl Try.underlying9 (by omega)) ?_
    refine ho_want rfl rfl rfl rfl rfl (ex_move rfl) ?_
    refine ho_want rfl rfl rfl rfl rfl (ex_eql_str rfl rfl rfl) ?_
    refine ho_val rfl rfl (ex_pick_true rfl rfl) ?_
    refine ho_val rfl rfl (ex_assign rfl) ?_
    refine ho_nil ?_
    refine hk_then_code ?_
    refine hl_ret ?_
    exact hk_ret rfl rfl (fun w' hw' => ⟨ret_bool' (by rw [Bool.eq_iff_iff]; simp), hw'.below⟩)
  · try simp only [decide_eq_true_eq, decide_eq_false_iff_not, beq_iff_eq, beq_eq_false_iff_ne, bne_iff_ne, bne_eq_false_iff_eq, ne_eq, Int.not_lt, Int.not_le, gt_iff_lt, ge_iff_le, Bool.not_eq_true', Bool.not_eq_false'] at hb1_5
    refine ho_skip rfl rfl rfl rfl rfl rfl ?_
    refine ho_skip rfl rfl rfl rfl rfl rfl ?_
    refine ho_skip rfl rfl rfl rfl rfl rfl ?_
    refine ho_skip rfl rfl rfl rfl rfl rfl ?_
    refine ho_skip rfl rfl rfl rfl rfl rfl ?_
    refine ho_skip rfl rfl rfl rfl rfl rfl ?_
    refine ho_skip rfl rfl rfl rfl rfl rfl ?_
    refine ho_skip rfl rfl rfl rfl rfl rfl ?_
    refine ho_skip rfl rfl rfl rfl rfl rfl ?_
    refine ho_val rfl rfl (ex_pick_false rfl rfl) ?_
    refine ho_val rfl rfl (ex_assign rfl) ?_
    refine ho_nil ?_
    refine hk_then_code ?_
    refine hl_ret ?_
    exact hk_ret rfl rfl (fun w' hw' => ⟨ret_bool' (by rw [eq_comm, decide_eq_false_iff_not]; intro h; have := congrArg List.length h; simp only [List.length_drop, List.length_cons, List.length_nil] at this hb1_5; omega), hw'.below⟩)

set_option maxHeartbeats 400000 in
theorem litetrim_any (L : List UInt8) (hl : L.length ≤ 4194304) (w : World) :
    Calls Try.prog 43 #[Value.string (bs L), Value.string (bs [61])] w fun e w' => e = .returned (.string (bs (trim1 L))) ∧ Below w.heap.size w w' := by
  refine calls_enter (n := 16) (hs := []) (M := []) (vs := [Value.string (bs L), Value.string (bs [61])]) Try.func43 rfl rfl rfl (Hp.start w) ?_
  refine hl_seq ?_
  refine hl_region ?_
  refine ho_val rfl rfl (ex_assign rfl) ?_
  refine ho_nil ?_
  refine hk_then_code ?_
  refine hl_seq ?_
  refine hl_seq ?_
  refine hl_region ?_
  refine ho_val rfl rfl (ex_move rfl) ?_
  refine ho_val rfl rfl (ex_move rfl) ?_
  refine ho_do rfl rfl (exw_call_pure Try.func48 rfl (by kernel_rfl) rfl (fun w' hw' => hassuffix_any L hl w')) (fun _ _ => ?_)
  refine ho_nil ?_
  refine hk_then_code ?_
  refine hl_if rfl (fun hc0 => ?_) (fun hc0 => ?_)
  · try simp only [decide_eq_true_eq, decide_eq_false_iff_not, beq_iff_eq, beq_eq_false_iff_ne, bne_iff_ne, bne_eq_false_iff_eq, ne_eq, Int.not_lt, Int.not_le, gt_iff_lt, ge_iff_le, Bool.not_eq_true', Bool.not_eq_false'] at hc0
    refine hl_seq ?_
    have h1 : 1 ≤ L.length := by have := congrArg List.length hc0; simp only [List.length_drop, List.length_cons, List.length_nil] at this; omega
    refine hl_region ?_
    refine ho_val rfl rfl (ex_move rfl) ?_
    refine ho_val rfl rfl (ex_move rfl) ?_
    refine ho_val rfl rfl (ex_len_str rfl Try.underlying9) ?_
    refine ho_val rfl rfl (ex_move rfl) ?_
    refine ho_val rfl rfl (ex_len_str rfl Try.underlying9) ?_
    refine ho_val rfl rfl (ex_subN rfl rfl (by simp only [List.length_cons, List.length_nil]; omega) (by omega)) ?_
    refine ho_val rfl rfl (ex_str_hi rfl rfl Try.underlying9 (by omega)) ?_
    refine ho_val rfl rfl (ex_assign rfl) ?_
    refine ho_nil ?_
    refine hk_then_code ?_
    refine hl_ret ?_
    refine hk_then_ret ?_
    exact hk_ret rfl rfl (fun w' hw' => ⟨by rw [trim1, if_pos hc0]; rfl, hw'.below⟩)
  · try simp only [decide_eq_true_eq, decide_eq_false_iff_not, beq_iff_eq, beq_eq_false_iff_ne, bne_iff_ne, bne_eq_false_iff_eq, ne_eq, Int.not_lt, Int.not_le, gt_iff_lt, ge_iff_le, Bool.not_eq_true', Bool.not_eq_false'] at hc0
    refine hl_skip ?_
    refine hk_then_code ?_
    refine hl_seq ?_
    refine hl_region ?_
    refine ho_val rfl rfl (ex_move rfl) ?_
    refine ho_val rfl rfl (ex_assign rfl) ?_
    refine ho_nil ?_
    refine hk_then_code ?_
    refine hl_ret ?_
    exact hk_ret rfl rfl (fun w' hw' => ⟨by rw [trim1, if_neg hc0], hw'.below⟩)

set_option maxHeartbeats 400000 in
theorem trim_any (L : List UInt8) (hl : L.length ≤ 4194304) (w : World) :
    Calls Try.prog 31 #[Value.string (bs L), Value.string (bs [61])] w fun e w' => e = .returned (.string (bs (trim1 L))) ∧ Below w.heap.size w w' := by
  refine calls_enter (n := 8) (hs := []) (M := []) (vs := [Value.string (bs L), Value.string (bs [61])]) Try.func31 rfl rfl rfl (Hp.start w) ?_
  refine hl_seq ?_
  refine hl_region ?_
  refine ho_val rfl rfl (ex_assign rfl) ?_
  refine ho_nil ?_
  refine hk_then_code ?_
  refine hl_seq ?_
  refine hl_region ?_
  refine ho_val rfl rfl (ex_move rfl) ?_
  refine ho_val rfl rfl (ex_move rfl) ?_
  refine ho_do rfl rfl (exw_call_pure Try.func43 rfl (by kernel_rfl) rfl (fun w' hw' => litetrim_any L hl w')) (fun _ _ => ?_)
  refine ho_val rfl rfl (ex_assign rfl) ?_
  refine ho_nil ?_
  refine hk_then_code ?_
  refine hl_ret ?_
  exact hk_ret rfl rfl (fun w' hw' => ⟨rfl, hw'.below⟩)

set_option maxHeartbeats 800000 in
theorem unbase64_any (L : List UInt8) (hl : L.length ≤ 4194304) (w : World) :
    Calls Try.prog 22 #[Value.string (bs L)] w fun e w' => RdPost 5 w (un64 L) e w' := by
  refine calls_enter (n := 70) (hs := []) (M := []) (vs := [Value.string (bs L)]) Try.func22 rfl rfl rfl (Hp.start w) ?_
  refine hl_seq ?_
  refine hl_region ?_
  refine ho_val rfl rfl (ex_assign rfl) ?_
  refine ho_val rfl rfl (ex_assign rfl) ?_
  refine ho_val rfl rfl (ex_assign rfl) ?_
  refine ho_nil ?_
  refine hk_then_code ?_
  refine hl_seq ?_
  refine hl_seq ?_
  refine hl_region ?_
  refine ho_val rfl rfl (ex_move rfl) ?_
  refine ho_val rfl rfl (ex_len_str rfl Try.underlying9) ?_
  refine ho_val rfl rfl (ex_remN (q := 4) rfl rfl (by omega) (by omega)) ?_
  refine ho_val rfl rfl (ex_neq rfl rfl rfl) ?_
  refine ho_nil ?_
  refine hk_then_code ?_
  refine hl_if rfl (fun hc0 => ?_) (fun hc0 => ?_)
  · try simp only [decide_eq_true_eq, decide_eq_false_iff_not, beq_iff_eq, beq_eq_false_iff_ne, bne_iff_ne, bne_eq_false_iff_eq, ne_eq, Int.not_lt, Int.not_le, gt_iff_lt, ge_iff_le, Bool.not_eq_true', Bool.not_eq_false'] at hc0
    refine hl_seq ?_
    skip
    refine hl_region ?_
    refine ho_val rfl rfl (ex_move rfl) ?_
    refine ho_val rfl rfl (ex_len_str rfl Try.underlying9) ?_
    refine ho_val rfl rfl (ex_assign rfl) ?_
    refine ho_val rfl rfl (ex_assign rfl) ?_
    refine ho_val rfl rfl (ex_assign rfl) ?_
    refine ho_nil ?_
    refine hk_then_code ?_
    refine hl_ret ?_
    refine hk_then_ret ?_
    exact hk_ret3 rfl rfl rfl rfl (fun w' hw' => by rw [un64_short (by omega)]; exact ⟨rfl, hw'.below⟩)
  · try simp only [decide_eq_true_eq, decide_eq_false_iff_not, beq_iff_eq, beq_eq_false_iff_ne, bne_iff_ne, bne_eq_false_iff_eq, ne_eq, Int.not_lt, Int.not_le, gt_iff_lt, ge_iff_le, Bool.not_eq_true', Bool.not_eq_false'] at hc0
    refine hl_skip ?_
    refine hk_then_code ?_
    refine hl_seq ?_
    refine hl_region ?_
    refine ho_val rfl rfl (ex_move rfl) ?_
    refine ho_val rfl rfl (ex_assign rfl) ?_
    refine ho_nil ?_
    refine hk_then_code ?_
    refine hl_seq ?_
    refine hl_seq ?_
    refine hl_region ?_
    refine ho_val rfl rfl (ex_move rfl) ?_
    refine ho_nil ?_
    refine hk_then_code ?_
    refine hl_block ?_
    refine hl_loop (G := Nat) (fun k => 2 - k) (fun k => k ≤ 2) (fun k => [(5, .string (bs (trimK L k))), (18, .int .i64 (k : Nat))]) (fun k => []) 0 (by omega) ⟨rfl, rfl, trivial⟩ _ (by decide) .nil (fun k hk => ?_)
    refine hl_seq ?_
    refine hl_region ?_
    refine ho_val rfl rfl (ex_lss rfl rfl rfl) ?_
    refine ho_nil ?_
    refine hk_then_code ?_
    refine hl_seq ?_
    refine hl_if rfl (fun hc1 => ?_) (fun hc1 => ?_)
    · try simp only [decide_eq_true_eq, decide_eq_false_iff_not, beq_iff_eq, beq_eq_false_iff_ne, bne_iff_ne, bne_eq_false_iff_eq, ne_eq, Int.not_lt, Int.not_le, gt_iff_lt, ge_iff_le, Bool.not_eq_true', Bool.not_eq_false'] at hc1
      have hk5 : k < 2 := by omega
      refine hl_skip ?_
      refine hk_then_code ?_
      refine hl_seq ?_
      refine hl_block ?_
      have htk := trimK_le L k
      refine hl_region ?_
      refine ho_val rfl rfl (ex_move rfl) ?_
      refine ho_do rfl rfl (exw_call_pure Try.func31 rfl (by kernel_rfl) rfl (fun w' hw' => trim_any (trimK L k) (by omega) w')) (fun _ _ => ?_)
      refine ho_val rfl rfl (ex_assign rfl) ?_
      refine ho_nil ?_
      refine hk_block_normal ?_
      refine hk_then_code ?_
      refine hl_region ?_
      refine ho_val rfl rfl (ex_addN (q := 1) rfl rfl (by omega)) ?_
      refine ho_val rfl rfl (ex_move rfl) ?_
      refine ho_nil ?_
      refine hk_then_normal ?_
      exact hk_round (k + 1) (by omega) (by omega) ⟨rfl, rfl, trivial⟩ _ (by decide) .nil
    · try simp only [decide_eq_true_eq, decide_eq_false_iff_not, beq_iff_eq, beq_eq_false_iff_ne, bne_iff_ne, bne_eq_false_iff_eq, ne_eq, Int.not_lt, Int.not_le, gt_iff_lt, ge_iff_le, Bool.not_eq_true', Bool.not_eq_false'] at hc1
      obtain rfl : k = 2 := by omega
      refine hl_exit ?_
      refine hk_then_exit ?_
      refine hk_then_exit ?_
      refine hk_block_hit ?_
      refine hk_then_code ?_
      refine hl_seq ?_
      refine hl_seq ?_
      rcases hwr : wrongAt d64 (trimK L 2) with _ | i
      · have ht2 := trimK_le L 2
        refine hl_region ?_
        refine ho_val rfl rfl (ex_move rfl) ?_
        refine ho_do rfl rfl (exw_call_pure (v := .int .i64 (-1)) Try.func29 rfl (by kernel_rfl) rfl (fun w' hw' => by rw [← wrongInt_none hwr]; exact wrong_any (trimK L 2) d64 (by omega) w')) (fun _ _ => ?_)
        refine ho_val rfl rfl (ex_assign rfl) ?_
        refine ho_nil ?_
        refine hk_then_code ?_
        refine hl_seq ?_
        refine hl_region ?_
        refine ho_val rfl rfl (ex_move rfl) ?_
        refine ho_val rfl rfl (ex_geq rfl rfl rfl) ?_
        refine ho_nil ?_
        refine hk_then_code ?_
        refine hl_false rfl ?_
        refine hl_skip ?_
        refine hk_then_code ?_
        refine hl_seq ?_
        refine hl_region ?_
        refine ho_val rfl rfl (ex_move rfl) ?_
        refine ho_val rfl rfl (ex_len_str rfl Try.underlying9) ?_
        refine ho_val rfl rfl (ex_mulN (q := 6) rfl rfl (by omega)) ?_
        refine ho_val rfl rfl (ex_quoN (q := 8) rfl rfl (by omega) (by omega)) ?_
        refine ho_do rfl rfl (exw_make (m := 0) rfl rfl Try.underlying28 info5 (by omega) (by omega) (by omega) (made_bytes _)) (fun b32 hb32 => ?_)
        refine ho_val rfl rfl (ex_assign rfl) ?_
        refine ho_nil ?_
        refine hk_then_code ?_
        refine hl_seq ?_
        refine hl_region ?_
        refine ho_val rfl rfl (ex_assign rfl) ?_
        refine ho_val rfl rfl (ex_assign rfl) ?_
        refine ho_nil ?_
        refine hk_then_code ?_
        refine hl_seq ?_
        refine hl_seq ?_
        refine hl_region ?_
        refine ho_val rfl rfl (ex_move rfl) ?_
        refine ho_val rfl rfl (ex_len_str rfl Try.underlying9) ?_
        refine ho_val rfl rfl (ex_move rfl) ?_
        refine ho_nil ?_
        refine hk_then_code ?_
        refine hl_block ?_
        refine hl_loop (G := Nat × Option Nat × Nat × List Value) (fun g => (trimK L 2).length - g.1) (fun g => g.1 ≤ (trimK L 2).length ∧ RowOk 1 g.2.1 (st64 (trimK L 2) g.1).1.length g.2.2.1 ((st64 (trimK L 2) g.1).1.map vb) g.2.2.2 ∧ ∃ q, g.2.1 = some q) (fun g => [(5, .string (bs (trimK L 2))), (7, rowv g.2.1 (st64 (trimK L 2) g.1).1.length g.2.2.1), (8, .int .i64 ((st64 (trimK L 2) g.1).2 : Nat)), (9, .int .i64 (6 * g.1 % 8 : Nat)), (34, .int .i64 ((trimK L 2).length : Int)), (35, .int .i64 (g.1 : Nat))]) (fun g => [⟨g.2.1, ((st64 (trimK L 2) g.1).1.map vb ++ g.2.2.2).toArray, 5, (0, 0)⟩]) (0, some b32, (trimK L 2).length * 6 / 8, (List.replicate ((trimK L 2).length * 6 / 8) 0).map vb) ⟨Nat.zero_le _, RowOk.made (g := b32) (c := (trimK L 2).length * 6 / 8) (by simp only [maxLen]; omega), b32, rfl⟩ ⟨rfl, rfl, rfl, (by dsimp only; rw [show 6 * 0 % 8 = 0 by decide]; rfl), rfl, rfl, trivial⟩ _ (by decide) (.cons 0 rfl .nil) (fun g ⟨hgl, hok, hsome⟩ => ?_)
        refine hl_seq ?_
        refine hl_region ?_
        refine ho_val rfl rfl (ex_lss rfl rfl rfl) ?_
        refine ho_nil ?_
        refine hk_then_code ?_
        refine hl_seq ?_
        refine hl_if rfl (fun hc3 => ?_) (fun hc3 => ?_)
        · try simp only [decide_eq_true_eq, decide_eq_false_iff_not, beq_iff_eq, beq_eq_false_iff_ne, bne_iff_ne, bne_eq_false_iff_eq, ne_eq, Int.not_lt, Int.not_le, gt_iff_lt, ge_iff_le, Bool.not_eq_true', Bool.not_eq_false'] at hc3
          have hk5 : g.1 < (trimK L 2).length := by omega
          refine hl_skip ?_
          refine hk_then_code ?_
          refine hl_seq ?_
          refine hl_block ?_
          refine hl_seq ?_
          refine hl_region ?_
          refine ho_val rfl rfl (ex_move rfl) ?_
          refine ho_val rfl rfl (ex_assign rfl) ?_
          refine ho_nil ?_
          refine hk_then_code ?_
          refine hl_seq ?_
          have hlen := (st64_fit hwr g.1 hgl).1
          have hfit := st64_fit hwr g.1 hgl
          have hp6 : 2 ^ (6 * g.1 % 8) ≤ 64 := by simpa using Nat.pow_le_pow_right (n := 2) (by decide) (show 6 * g.1 % 8 ≤ 6 by omega)
          have hv : worth d64 ((trimK L 2).getD g.1 0) < 64 := worth_lt (wrong_good hwr g.1 hk5)
          have hor : (st64 (trimK L 2) g.1).2 * 2 ^ 6 ||| worth d64 ((trimK L 2).getD g.1 0) = (st64 (trimK L 2) g.1).2 * 64 + worth d64 ((trimK L 2).getD g.1 0) := or6 _ _ hv
          have ha64 : (st64 (trimK L 2) g.1).2 < 64 := by omega
          have hbig : (st64 (trimK L 2) g.1).2 * 64 + worth d64 ((trimK L 2).getD g.1 0) < 4096 := by omega
          refine hl_region ?_
          refine ho_val rfl rfl (ex_move rfl) ?_
          refine ho_val rfl rfl (ex_shlN (q := 6) rfl rfl (by simp only [IntKind.bits]; omega) (by simp only [cap]; omega)) ?_
          refine ho_val rfl rfl (ex_move rfl) ?_
          refine ho_val rfl rfl (ex_move rfl) ?_
          refine ho_val rfl rfl (ex_index_str rfl rfl Try.underlying9 (by omega)) ?_
          refine ho_do rfl rfl (exw_call_pure (v := .int .i64 (worth d64 ((trimK L 2).getD g.1 0) : Nat)) Try.func30 rfl (by kernel_rfl) rfl (fun w' hw' => by rw [← worth_eq (wrong_good hwr g.1 hk5)]; exact value_any d64 _ w')) (fun _ _ => ?_)
          refine ho_val rfl rfl (ex_orN rfl rfl (by simp only [cap]; omega) (by simp only [cap]; omega)) ?_
          refine ho_val rfl rfl (ex_assign rfl) ?_
          refine ho_nil ?_
          refine hk_then_code ?_
          refine hl_seq ?_
          refine hl_region ?_
          refine ho_val rfl rfl (ex_move rfl) ?_
          refine ho_val rfl rfl (ex_addN (q := 6) rfl rfl (by omega)) ?_
          refine ho_val rfl rfl (ex_assign rfl) ?_
          refine ho_nil ?_
          refine hk_then_code ?_
          refine hl_seq ?_
          skip
          refine hl_region ?_
          refine ho_val rfl rfl (ex_move rfl) ?_
          refine ho_val rfl rfl (ex_geq rfl rfl rfl) ?_
          refine ho_nil ?_
          refine hk_then_code ?_
          refine hl_if rfl (fun hc4 => ?_) (fun hc4 => ?_)
          · try simp only [decide_eq_true_eq, decide_eq_false_iff_not, beq_iff_eq, beq_eq_false_iff_ne, bne_iff_ne, bne_eq_false_iff_eq, ne_eq, Int.not_lt, Int.not_le, gt_iff_lt, ge_iff_le, Bool.not_eq_true', Bool.not_eq_false'] at hc4
            have hge : 8 ≤ 6 * g.1 % 8 + 6 := by omega
            have hs2 : 2 ^ (6 * g.1 % 8 + 6 - 8) ≤ 16 := by simpa using Nat.pow_le_pow_right (n := 2) (by decide) (show (6 * g.1 % 8 + 6 - 8) ≤ 4 by omega)
            have hdv : ((st64 (trimK L 2) g.1).2 * 2 ^ 6 ||| worth d64 ((trimK L 2).getD g.1 0)) / 2 ^ (6 * g.1 % 8 + 6 - 8) ≤ ((st64 (trimK L 2) g.1).2 * 2 ^ 6 ||| worth d64 ((trimK L 2).getD g.1 0)) := Nat.div_le_self _ _
            have hand : ((st64 (trimK L 2) g.1).2 * 2 ^ 6 ||| worth d64 ((trimK L 2).getD g.1 0)) &&& (1 * 2 ^ (6 * g.1 % 8 + 6 - 8) - 1) = (st64 (trimK L 2) (g.1 + 1)).2 := by rw [Nat.one_mul, and_low, st64_hit hge, hor]
            refine hl_seq ?_
            skip
            refine hl_region ?_
            refine ho_val rfl rfl (ex_move rfl) ?_
            refine ho_val rfl rfl (ex_subN (q := 8) rfl rfl (by omega) (by omega)) ?_
            refine ho_val rfl rfl (ex_assign rfl) ?_
            refine ho_nil ?_
            refine hk_then_code ?_
            refine hl_seq ?_
            refine hl_region ?_
            refine ho_val rfl rfl (ex_move rfl) ?_
            refine ho_val rfl rfl (ex_move rfl) ?_
            refine ho_val rfl rfl (ex_move rfl) ?_
            refine ho_val rfl rfl (ex_shrN rfl rfl (by simp only [cap]; omega)) ?_
            refine ho_val rfl rfl (ex_conv8 rfl Try.underlying3 Try.underlying5) ?_
            refine ho_do rfl rfl (exw_list (xs := [.tmp 55]) rfl rfl rfl Try.underlying28 info5 rfl rfl (by decide)) (fun b56 hb56 => ?_)
            refine ho_pick _ (by decide) (.cons 1 rfl (.cons 0 rfl .nil)) ?_
            refine ho_do rfl rfl (exw_append0 (xs := (st64 (trimK L 2) g.1).1.map vb) (rest := g.2.2.2) rfl rfl rfl hok (fun w hw => Sl.ownAll hw 1 rfl) rfl (by simp only [List.mem_cons, List.not_mem_nil, or_false, forall_eq]; rfl) Try.underlying28 info5 rfl (by decide) (by omega) (by simp only [maxLen]; omega) (fun h => nomatch h)) (fun y57 hk57 => ?_)
            refine ho_val rfl rfl (ex_assign rfl) ?_
            refine ho_nil ?_
            refine hk_then_code ?_
            refine hl_region ?_
            refine ho_val rfl rfl (ex_move rfl) ?_
            refine ho_val rfl rfl (ex_move rfl) ?_
            refine ho_val rfl rfl (ex_shlN (p := 1) rfl rfl (by simp only [IntKind.bits]; omega) (by simp only [cap]; omega)) ?_
            refine ho_val rfl rfl (ex_subN (q := 1) rfl rfl (by have := Nat.pow_pos (n := (6 * g.1 % 8 + 6 - 8)) (show 0 < 2 by decide); omega) (by omega)) ?_
            refine ho_val rfl rfl (ex_andN rfl rfl (by simp only [cap]; omega) (by simp only [cap]; omega)) ?_
            refine ho_val rfl rfl (ex_assign rfl) ?_
            refine ho_nil ?_
            refine hk_block_normal ?_
            refine hk_then_code ?_
            refine hl_region ?_
            refine ho_val rfl rfl (ex_addN (q := 1) rfl rfl (by omega)) ?_
            refine ho_val rfl rfl (ex_move rfl) ?_
            refine ho_nil ?_
            refine hk_then_normal ?_
            exact hk_round (g.1 + 1, y57) ⟨by dsimp only; omega, by rw [st64_hit hge, ← hor, List.map_append, List.length_append]; exact hk57, by rcases hy : y57.1 with _ | q; have h1 := hk57.nil hy; have h2 := hk57.le; omega; exact ⟨q, rfl⟩⟩ (by dsimp only; omega) ⟨rfl, (by rw [st64_hit hge, List.length_append]; rfl), (by dsimp only; rw [← hand]; rfl), (by rw [show 6 * (g.1 + 1) % 8 = 6 * g.1 % 8 + 6 - 8 by omega]; rfl), rfl, rfl, trivial⟩ _ (by decide) (.cons 0 (by rw [st64_hit hge, ← hor, List.map_append]; rfl) .nil)
          · try simp only [decide_eq_true_eq, decide_eq_false_iff_not, beq_iff_eq, beq_eq_false_iff_ne, bne_iff_ne, bne_eq_false_iff_eq, ne_eq, Int.not_lt, Int.not_le, gt_iff_lt, ge_iff_le, Bool.not_eq_true', Bool.not_eq_false'] at hc4
            have hge : ¬ 8 ≤ 6 * g.1 % 8 + 6 := by omega
            refine hl_skip ?_
            refine hk_block_normal ?_
            refine hk_then_code ?_
            refine hl_region ?_
            refine ho_val rfl rfl (ex_addN (q := 1) rfl rfl (by omega)) ?_
            refine ho_val rfl rfl (ex_move rfl) ?_
            refine ho_nil ?_
            refine hk_then_normal ?_
            exact hk_round (g.1 + 1, g.2) ⟨by dsimp only; omega, by rw [st64_miss hge]; exact hok, hsome⟩ (by dsimp only; omega) ⟨rfl, (by rw [st64_miss hge]; rfl), (by rw [st64_miss hge, ← hor]; rfl), (by rw [show 6 * (g.1 + 1) % 8 = 6 * g.1 % 8 + 6 by omega]; rfl), rfl, rfl, trivial⟩ _ (by decide) (.cons 0 (by rw [st64_miss hge]; rfl) .nil)
        · try simp only [decide_eq_true_eq, decide_eq_false_iff_not, beq_iff_eq, beq_eq_false_iff_ne, bne_iff_ne, bne_eq_false_iff_eq, ne_eq, Int.not_lt, Int.not_le, gt_iff_lt, ge_iff_le, Bool.not_eq_true', Bool.not_eq_false'] at hc3
          have hk6 : g.1 = (trimK L 2).length := by omega
          refine hl_exit ?_
          refine hk_then_exit ?_
          refine hk_then_exit ?_
          refine hk_block_hit ?_
          refine hk_then_code ?_
          refine hl_seq ?_
          refine hl_seq ?_
          refine hl_region ?_
          refine ho_val rfl rfl (ex_move rfl) ?_
          refine ho_val rfl rfl (ex_neq rfl rfl rfl) ?_
          refine ho_nil ?_
          refine hk_then_code ?_
          refine hl_if rfl (fun hc5 => ?_) (fun hc5 => ?_)
          · try simp only [decide_eq_true_eq, decide_eq_false_iff_not, beq_iff_eq, beq_eq_false_iff_ne, bne_iff_ne, bne_eq_false_iff_eq, ne_eq, Int.not_lt, Int.not_le, gt_iff_lt, ge_iff_le, Bool.not_eq_true', Bool.not_eq_false'] at hc5
            have hcz : ¬ (st64 (trimK L 2) g.1).2 = 0 := by omega
            refine hl_seq ?_
            skip
            have hd1 : 1 ≤ (trimK L 2).length := by
              rcases Nat.eq_zero_or_pos (trimK L 2).length with h | h
              · rw [show g.1 = 0 by omega] at hcz; exact absurd rfl hcz
              · exact h
            refine hl_region ?_
            refine ho_val rfl rfl (ex_move rfl) ?_
            refine ho_val rfl rfl (ex_len_str rfl Try.underlying9) ?_
            refine ho_val rfl rfl (ex_subN (q := 1) rfl rfl (by omega) (by omega)) ?_
            refine ho_val rfl rfl (ex_assign rfl) ?_
            refine ho_val rfl rfl (ex_assign rfl) ?_
            refine ho_val rfl rfl (ex_assign rfl) ?_
            refine ho_nil ?_
            refine hk_then_code ?_
            refine hl_ret ?_
            refine hk_then_ret ?_
            exact hk_ret3 rfl rfl rfl rfl (fun w' hw' => by rw [un64_bits (by omega) hwr (by rw [← hk6]; omega)]; exact ⟨rfl, hw'.below⟩)
          · try simp only [decide_eq_true_eq, decide_eq_false_iff_not, beq_iff_eq, beq_eq_false_iff_ne, bne_iff_ne, bne_eq_false_iff_eq, ne_eq, Int.not_lt, Int.not_le, gt_iff_lt, ge_iff_le, Bool.not_eq_true', Bool.not_eq_false'] at hc5
            have hcz : (st64 (trimK L 2) g.1).2 = 0 := by omega
            refine hl_skip ?_
            refine hk_then_code ?_
            refine hl_seq ?_
            skip
            refine hl_region ?_
            refine ho_val rfl rfl (ex_move rfl) ?_
            refine ho_val rfl rfl (ex_assign rfl) ?_
            refine ho_val rfl rfl (ex_assign rfl) ?_
            refine ho_val rfl rfl (ex_assign rfl) ?_
            refine ho_nil ?_
            refine hk_then_code ?_
            refine hl_ret ?_
            exact hk_ret3 rfl rfl rfl rfl (fun w' hw' => by rw [un64_ok (by omega) hwr (by rw [← hk6]; omega)]; rw [← hk6]; exact rd_row rfl hok hsome hw')
      · have ht2 := trimK_le L 2
        refine hl_region ?_
        refine ho_val rfl rfl (ex_move rfl) ?_
        refine ho_do rfl rfl (exw_call_pure (v := .int .i64 (i : Nat)) Try.func29 rfl (by kernel_rfl) rfl (fun w' hw' => by rw [← wrongInt_some hwr]; exact wrong_any (trimK L 2) d64 (by omega) w')) (fun _ _ => ?_)
        refine ho_val rfl rfl (ex_assign rfl) ?_
        refine ho_nil ?_
        refine hk_then_code ?_
        refine hl_seq ?_
        refine hl_region ?_
        refine ho_val rfl rfl (ex_move rfl) ?_
        refine ho_val rfl rfl (ex_geq (b := true) rfl rfl (decide_eq_true (by omega))) ?_
        refine ho_nil ?_
        refine hk_then_code ?_
        refine hl_true rfl ?_
        refine hl_seq ?_
        skip
        refine hl_region ?_
        refine ho_val rfl rfl (ex_move rfl) ?_
        refine ho_val rfl rfl (ex_assign rfl) ?_
        refine ho_val rfl rfl (ex_assign rfl) ?_
        refine ho_val rfl rfl (ex_assign rfl) ?_
        refine ho_nil ?_
        refine hk_then_code ?_
        refine hl_ret ?_
        refine hk_then_ret ?_
        exact hk_ret3 rfl rfl rfl rfl (fun w' hw' => by rw [un64_wrong (by omega) hwr]; exact ⟨rfl, hw'.below⟩)

end Go.Proofs.Ytdmagjelmhcemaa
