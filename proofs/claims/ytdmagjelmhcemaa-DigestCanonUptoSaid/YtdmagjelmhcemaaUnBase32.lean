/- UnBase32: what it answers. -/
import Derived.Test.YtdmagjelmhcemaaRows
import Derived.Test.YtdmagjelmhcemaaFacts
import Derived.Test.YtdmagjelmhcemaaB
import Derived.Test.YtdmagjelmhcemaaUn2
import Derived.Test.YtdmagjelmhcemaaIdx
import Derived.Test.YtdmagjelmhcemaaD
import Derived.KernelRfl
import Derived.Test.YtdmagjelmhcemaaValues
namespace Go.Proofs.Ytdmagjelmhcemaa
open Go.RowKit
set_option linter.unusedVariables false
set_option linter.unusedSimpArgs false

set_option maxHeartbeats 800000 in
theorem unbase32_any (L : List UInt8) (hl : L.length ≤ 4194304) (w : World) :
    Calls Try.prog 21 #[Value.string (bs L)] w fun e w' => RdPost 5 w (un32 L) e w' := by
  refine calls_enter (n := 72) (hs := []) (M := []) (vs := [Value.string (bs L)]) Try.func21 rfl rfl rfl (Hp.start w) ?_
  refine hl_seq ?_
  rcases hwr : wrongAt d32 L with _ | i
  · refine hl_region ?_
    refine ho_val rfl rfl (ex_assign rfl) ?_
    refine ho_val rfl rfl (ex_assign rfl) ?_
    refine ho_val rfl rfl (ex_assign rfl) ?_
    refine ho_nil ?_
    refine hk_then_code ?_
    refine hl_seq ?_
    refine hl_seq ?_
    refine hl_region ?_
    refine ho_val rfl rfl (ex_move rfl) ?_
    refine ho_do rfl rfl (exw_call_pure (v := .int .i64 (-1)) Try.func29 rfl (by kernel_rfl) rfl (fun w' hw' => by rw [← wrongInt_none hwr]; exact wrong_any L d32 (by omega) w')) (fun _ _ => ?_)
    refine ho_val rfl rfl (ex_assign rfl) ?_
    refine ho_nil ?_
    refine hk_then_code ?_
    refine hl_seq ?_
    refine hl_region ?_
    refine ho_val rfl rfl (ex_move rfl) ?_
    refine ho_val rfl rfl (ex_geq rfl rfl rfl) ?_
    refine ho_nil ?_
    refine hk_then_code ?_
    refine hl_false rfl ?_
    refine hl_skip ?_
    refine hk_then_code ?_
    refine hl_seq ?_
    refine hl_seq ?_
    refine hl_region ?_
    refine ho_val rfl rfl (ex_move rfl) ?_
    refine ho_val rfl rfl (ex_len_str rfl Try.underlying9) ?_
    refine ho_val rfl rfl (ex_remN (q := 8) rfl rfl (by omega) (by omega)) ?_
    refine ho_nil ?_
    refine hk_then_code ?_
    refine hl_block ?_
    refine hl_seq ?_
    refine hl_seq ?_
    refine hl_region ?_
    refine ho_val rfl rfl (ex_eql rfl rfl rfl) ?_
    refine ho_val rfl rfl (ex_assign rfl) ?_
    refine ho_nil ?_
    refine hk_then_code ?_
    refine hl_ifb rfl (fun hc1 => ?_) (fun hc1 => ?_)
    · try simp only [decide_eq_true_eq, decide_eq_false_iff_not, beq_iff_eq, beq_eq_false_iff_ne, bne_iff_ne, bne_eq_false_iff_eq, ne_eq, Int.not_lt, Int.not_le, gt_iff_lt, ge_iff_le, Bool.not_eq_true', Bool.not_eq_false'] at hc1
      refine hl_skip ?_
      refine hk_then_code ?_
      refine hl_true rfl ?_
      refine hl_seq ?_
      skip
      refine hl_region ?_
      refine ho_val rfl rfl (ex_move rfl) ?_
      refine ho_val rfl rfl (ex_len_str rfl Try.underlying9) ?_
      refine ho_val rfl rfl (ex_assign rfl) ?_
      refine ho_val rfl rfl (ex_assign rfl) ?_
      refine ho_val rfl rfl (ex_assign rfl) ?_
      refine ho_nil ?_
      refine hk_then_code ?_
      refine hl_ret ?_
      refine hk_block_ret ?_
      refine hk_then_ret ?_
      exact hk_ret3 rfl rfl rfl rfl (fun w' hw' => by rw [un32_short hwr (by omega)]; exact ⟨rfl, hw'.below⟩)
    · try simp only [decide_eq_true_eq, decide_eq_false_iff_not, beq_iff_eq, beq_eq_false_iff_ne, bne_iff_ne, bne_eq_false_iff_eq, ne_eq, Int.not_lt, Int.not_le, gt_iff_lt, ge_iff_le, Bool.not_eq_true', Bool.not_eq_false'] at hc1
      refine hl_seq ?_
      refine hl_region ?_
      refine ho_val rfl rfl (ex_eql rfl rfl rfl) ?_
      refine ho_val rfl rfl (ex_assign rfl) ?_
      refine ho_nil ?_
      refine hk_then_code ?_
      refine hl_ifb rfl (fun hc3 => ?_) (fun hc3 => ?_)
      · try simp only [decide_eq_true_eq, decide_eq_false_iff_not, beq_iff_eq, beq_eq_false_iff_ne, bne_iff_ne, bne_eq_false_iff_eq, ne_eq, Int.not_lt, Int.not_le, gt_iff_lt, ge_iff_le, Bool.not_eq_true', Bool.not_eq_false'] at hc3
        refine hl_skip ?_
        refine hk_then_code ?_
        refine hl_true rfl ?_
        refine hl_seq ?_
        skip
        refine hl_region ?_
        refine ho_val rfl rfl (ex_move rfl) ?_
        refine ho_val rfl rfl (ex_len_str rfl Try.underlying9) ?_
        refine ho_val rfl rfl (ex_assign rfl) ?_
        refine ho_val rfl rfl (ex_assign rfl) ?_
        refine ho_val rfl rfl (ex_assign rfl) ?_
        refine ho_nil ?_
        refine hk_then_code ?_
        refine hl_ret ?_
        refine hk_block_ret ?_
        refine hk_then_ret ?_
        exact hk_ret3 rfl rfl rfl rfl (fun w' hw' => by rw [un32_short hwr (by omega)]; exact ⟨rfl, hw'.below⟩)
      · try simp only [decide_eq_true_eq, decide_eq_false_iff_not, beq_iff_eq, beq_eq_false_iff_ne, bne_iff_ne, bne_eq_false_iff_eq, ne_eq, Int.not_lt, Int.not_le, gt_iff_lt, ge_iff_le, Bool.not_eq_true', Bool.not_eq_false'] at hc3
        refine hl_region ?_
        refine ho_val rfl rfl (ex_eql rfl rfl rfl) ?_
        refine ho_val rfl rfl (ex_assign rfl) ?_
        refine ho_nil ?_
        refine hk_then_code ?_
        refine hl_ifb rfl (fun hc5 => ?_) (fun hc5 => ?_)
        · try simp only [decide_eq_true_eq, decide_eq_false_iff_not, beq_iff_eq, beq_eq_false_iff_ne, bne_iff_ne, bne_eq_false_iff_eq, ne_eq, Int.not_lt, Int.not_le, gt_iff_lt, ge_iff_le, Bool.not_eq_true', Bool.not_eq_false'] at hc5
          refine hl_seq ?_
          skip
          refine hl_region ?_
          refine ho_val rfl rfl (ex_move rfl) ?_
          refine ho_val rfl rfl (ex_len_str rfl Try.underlying9) ?_
          refine ho_val rfl rfl (ex_assign rfl) ?_
          refine ho_val rfl rfl (ex_assign rfl) ?_
          refine ho_val rfl rfl (ex_assign rfl) ?_
          refine ho_nil ?_
          refine hk_then_code ?_
          refine hl_ret ?_
          refine hk_block_ret ?_
          refine hk_then_ret ?_
          exact hk_ret3 rfl rfl rfl rfl (fun w' hw' => by rw [un32_short hwr (by omega)]; exact ⟨rfl, hw'.below⟩)
        · try simp only [decide_eq_true_eq, decide_eq_false_iff_not, beq_iff_eq, beq_eq_false_iff_ne, bne_iff_ne, bne_eq_false_iff_eq, ne_eq, Int.not_lt, Int.not_le, gt_iff_lt, ge_iff_le, Bool.not_eq_true', Bool.not_eq_false'] at hc5
          refine hl_skip ?_
          refine hk_block_normal ?_
          refine hk_then_code ?_
          refine hl_seq ?_
          refine hl_region ?_
          refine ho_val rfl rfl (ex_move rfl) ?_
          refine ho_val rfl rfl (ex_len_str rfl Try.underlying9) ?_
          refine ho_val rfl rfl (ex_mulN (p := 5) rfl rfl (by omega)) ?_
          refine ho_val rfl rfl (ex_quoN (q := 8) rfl rfl (by omega) (by omega)) ?_
          refine ho_do rfl rfl (exw_make rfl rfl Try.underlying28 info5 (by omega) (by omega) (by omega) (made_bytes _)) (fun b29 hb29 => ?_)
          refine ho_val rfl rfl (ex_assign rfl) ?_
          refine ho_nil ?_
          refine hk_then_code ?_
          refine hl_seq ?_
          refine hl_seq ?_
          refine hl_region ?_
          refine ho_val rfl rfl (ex_move rfl) ?_
          refine ho_val rfl rfl (ex_len_str rfl Try.underlying9) ?_
          refine ho_val rfl rfl (ex_move rfl) ?_
          refine ho_nil ?_
          refine hk_then_code ?_
          refine hl_block ?_
          refine hl_loop (G := Nat) (fun k => L.length - k) (fun k => k ≤ L.length ∧ numTo L k < 256 ^ (5 * L.length / 8)) (fun k => [(0, .string (bs L)), (6, slv (some ⟨b29, 0, none⟩) (5 * L.length / 8) (5 * L.length / 8)), (31, .int .i64 (L.length : Int)), (32, .int .i64 (k : Nat))]) (fun k => [⟨some b29, vbs (toLE (5 * L.length / 8) (numTo L k)), 5, (0, 0)⟩]) 0 ⟨Nat.zero_le _, by rw [numTo]; exact Nat.pow_pos (by decide)⟩ ⟨rfl, rfl, rfl, rfl, trivial⟩ _ (by decide) (.cons 0 (by rw [numTo, toLE_zero]; rfl) .nil) (fun k hk => ?_)
          refine hl_seq ?_
          refine hl_region ?_
          refine ho_val rfl rfl (ex_lss rfl rfl rfl) ?_
          refine ho_nil ?_
          refine hk_then_code ?_
          refine hl_seq ?_
          refine hl_ifb rfl (fun hc6 => ?_) (fun hc6 => ?_)
          · try simp only [decide_eq_true_eq, decide_eq_false_iff_not, beq_iff_eq, beq_eq_false_iff_ne, bne_iff_ne, bne_eq_false_iff_eq, ne_eq, Int.not_lt, Int.not_le, gt_iff_lt, ge_iff_le, Bool.not_eq_true', Bool.not_eq_false'] at hc6
            have hk5 : k < L.length := by have := hk.1; omega
            refine hl_skip ?_
            refine hk_then_code ?_
            refine hl_seq ?_
            refine hl_block ?_
            refine hl_seq ?_
            refine hl_region ?_
            refine ho_val rfl rfl (ex_move rfl) ?_
            refine ho_val rfl rfl (ex_assign rfl) ?_
            refine ho_nil ?_
            refine hk_then_code ?_
            refine hl_seq ?_
            have hv : worth d32 (L.getD (L.length - 1 - k) 0) < 32 := worth_lt (wrong_good hwr (L.length - 1 - k) (by omega))
            have hNk := numTo_lt hwr k (by omega)
            have hp2 : 2 ^ (5 * k % 8) ≤ 128 := by simpa using Nat.pow_le_pow_right (n := 2) (by decide) (show 5 * k % 8 ≤ 7 by omega)
            have hd0 : worth d32 (L.getD (L.length - 1 - k) 0) * 2 ^ (5 * k % 8) ≤ 31 * 128 := Nat.mul_le_mul (by omega) hp2
            refine hl_region ?_
            refine ho_val rfl rfl (ex_move rfl) ?_
            refine ho_val rfl rfl (ex_move rfl) ?_
            refine ho_val rfl rfl (ex_len_str rfl Try.underlying9) ?_
            refine ho_val rfl rfl (ex_subN (q := 1) rfl rfl (by omega) (by omega)) ?_
            refine ho_val rfl rfl (ex_move rfl) ?_
            refine ho_val rfl rfl (ex_subN rfl rfl (by omega) (by omega)) ?_
            refine ho_val rfl rfl (ex_index_str rfl rfl Try.underlying9 (by omega)) ?_
            refine ho_do rfl rfl (exw_call_pure (v := .int .i64 (worth d32 (L.getD (L.length - 1 - k) 0) : Nat)) Try.func30 rfl (by kernel_rfl) rfl (fun w' hw' => by rw [← worth_eq (wrong_good hwr (L.length - 1 - k) (by omega))]; exact value_any d32 _ w')) (fun _ _ => ?_)
            refine ho_val rfl rfl (ex_assign rfl) ?_
            refine ho_nil ?_
            refine hk_then_code ?_
            refine hl_seq ?_
            refine hl_region ?_
            refine ho_val rfl rfl (ex_move rfl) ?_
            refine ho_val rfl rfl (ex_mulN (p := 5) rfl rfl (by omega)) ?_
            refine ho_val rfl rfl (ex_quoN (q := 8) rfl rfl (by omega) (by omega)) ?_
            refine ho_val rfl rfl (ex_move rfl) ?_
            refine ho_val rfl rfl (ex_mulN (p := 5) rfl rfl (by omega)) ?_
            refine ho_val rfl rfl (ex_remN (q := 8) rfl rfl (by omega) (by omega)) ?_
            refine ho_val rfl rfl (ex_assign rfl) ?_
            refine ho_val rfl rfl (ex_assign rfl) ?_
            refine ho_nil ?_
            refine hk_then_code ?_
            refine hl_seq ?_
            refine hl_region ?_
            refine ho_val rfl rfl (ex_move rfl) ?_
            refine ho_val rfl rfl (ex_move rfl) ?_
            refine ho_val rfl rfl (ex_shlN rfl rfl (by simp only [IntKind.bits]; omega) (by simp only [cap]; omega)) ?_
            refine ho_val rfl rfl (ex_assign rfl) ?_
            refine ho_nil ?_
            refine hk_then_code ?_
            refine hl_block ?_
            refine hl_loop (G := Nat) (fun t => 2 - t) (fun t => t ≤ 2 ∧ (t = 0 ∨ 5 * k / 8 + t ≤ 5 * L.length / 8)) (fun t => [(0, .string (bs L)), (6, slv (some ⟨b29, 0, none⟩) (5 * L.length / 8) (5 * L.length / 8)), (8, .int .i64 (worth d32 (L.getD (L.length - 1 - k) 0) * 2 ^ (5 * k % 8) / 256 ^ t : Nat)), (9, .int .i64 (5 * k / 8 + t : Nat)), (31, .int .i64 (L.length : Int)), (32, .int .i64 (k : Nat))]) (fun t => [⟨some b29, vbs (toLE (5 * L.length / 8) (numTo L k + (worth d32 (L.getD (L.length - 1 - k) 0) * 2 ^ (5 * k % 8) % 256 ^ t) * 256 ^ (5 * k / 8))), 5, (0, 0)⟩]) 0 ⟨by omega, .inl rfl⟩ ⟨rfl, rfl, (by rw [Nat.pow_zero, Nat.div_one]; rfl), rfl, rfl, rfl, trivial⟩ _ (by decide) (.cons 0 (by rw [Nat.pow_zero, Nat.mod_one, Nat.zero_mul, Nat.add_zero]; rfl) .nil) (fun t ht => ?_)
            refine hl_seq ?_
            refine hl_seq ?_
            refine hl_region ?_
            refine ho_val rfl rfl (ex_move rfl) ?_
            refine ho_val rfl rfl (ex_gtr rfl rfl rfl) ?_
            refine ho_nil ?_
            refine hk_then_code ?_
            refine hl_ifb rfl (fun hc7 => ?_) (fun hc7 => ?_)
            · try simp only [decide_eq_true_eq, decide_eq_false_iff_not, beq_iff_eq, beq_eq_false_iff_ne, bne_iff_ne, bne_eq_false_iff_eq, ne_eq, Int.not_lt, Int.not_le, gt_iff_lt, ge_iff_le, Bool.not_eq_true', Bool.not_eq_false'] at hc7
              have ht5 : 0 < worth d32 (L.getD (L.length - 1 - k) 0) * 2 ^ (5 * k % 8) / 256 ^ t := by omega
              have ht1 : t ≤ 1 := by
                rcases (show t ≤ 1 ∨ t = 2 by have := ht.1; omega) with h | h
                · exact h
                · subst h; rw [Nat.div_eq_of_lt (show worth d32 (L.getD (L.length - 1 - k) 0) * 2 ^ (5 * k % 8) < 256 ^ 2 by omega)] at ht5; omega
              refine hl_skip ?_
              refine hk_then_code ?_
              refine hl_seq ?_
              refine hl_block ?_
              refine hl_seq ?_
              refine hl_seq ?_
              refine hl_region ?_
              refine ho_val rfl rfl (ex_move rfl) ?_
              refine ho_val rfl rfl (ex_move rfl) ?_
              refine ho_val rfl rfl (ex_len_slice rfl Try.underlying28) ?_
              refine ho_val rfl rfl (ex_eql rfl rfl rfl) ?_
              refine ho_nil ?_
              refine hk_then_code ?_
              refine hl_ifb rfl (fun hc8 => ?_) (fun hc8 => ?_)
              · try simp only [decide_eq_true_eq, decide_eq_false_iff_not, beq_iff_eq, beq_eq_false_iff_ne, bne_iff_ne, bne_eq_false_iff_eq, ne_eq, Int.not_lt, Int.not_le, gt_iff_lt, ge_iff_le, Bool.not_eq_true', Bool.not_eq_false'] at hc8
                have hover : 256 ^ (5 * L.length / 8) ≤ numTo L L.length := by
                  have h1 := un32_over (n := 5 * L.length / 8) ht5 rfl (by omega)
                  have h2 := numTo_mono L (k + 1) (L.length - (k + 1))
                  rw [show k + 1 + (L.length - (k + 1)) = L.length by omega] at h2
                  omega
                refine hl_seq ?_
                skip
                refine hl_region ?_
                refine ho_val rfl rfl (ex_assign rfl) ?_
                refine ho_val rfl rfl (ex_assign rfl) ?_
                refine ho_val rfl rfl (ex_assign rfl) ?_
                refine ho_nil ?_
                refine hk_then_code ?_
                refine hl_ret ?_
                refine hk_then_ret ?_
                refine hk_block_ret ?_
                refine hk_then_ret ?_
                refine hk_then_ret ?_
                refine hk_block_ret ?_
                refine hk_block_ret ?_
                refine hk_then_ret ?_
                refine hk_then_ret ?_
                refine hk_block_ret ?_
                refine hk_then_ret ?_
                exact hk_ret3 rfl rfl rfl rfl (fun w' hw' => by rw [un32_bits hwr (by omega) hover]; exact ⟨rfl, hw'.below⟩)
              · try simp only [decide_eq_true_eq, decide_eq_false_iff_not, beq_iff_eq, beq_eq_false_iff_ne, bne_iff_ne, bne_eq_false_iff_eq, ne_eq, Int.not_lt, Int.not_le, gt_iff_lt, ge_iff_le, Bool.not_eq_true', Bool.not_eq_false'] at hc8
                have hpos : 5 * k / 8 + t < 5 * L.length / 8 := by have := ht.2; omega
                refine hl_skip ?_
                refine hk_then_code ?_
                refine hl_seq ?_
                refine hl_region ?_
                refine ho_val rfl rfl (ex_move rfl) ?_
                refine ho_val rfl rfl (ex_move rfl) ?_
                refine ho_val rfl rfl (ex_addr_own rfl rfl Try.underlying28 size5 (by omega)) ?_
                refine ho_val rfl rfl (ex_load rfl 0 rfl rfl (vbs_getD _ _ (by rw [toLE_length]; omega)) Try.underlying5 rfl) ?_
                refine ho_val rfl rfl (ex_move rfl) ?_
                refine ho_val rfl rfl (ex_conv8 rfl Try.underlying3 Try.underlying5) ?_
                refine ho_val rfl rfl (ex_or8 rfl rfl) ?_
                refine ho_val rfl rfl (ex_addr_own rfl rfl Try.underlying28 size5 (by omega)) ?_
                refine ho_do rfl rfl (exw_store0 rfl rfl (vbs_getD _ _ (by rw [toLE_length]; omega)) rfl size5 (vbs_set _ _ _)) (fun _ _ => ?_)
                refine ho_nil ?_
                refine hk_then_code ?_
                refine hl_region ?_
                refine ho_val rfl rfl (ex_move rfl) ?_
                refine ho_val rfl rfl (ex_addN (q := 1) rfl rfl (by omega)) ?_
                refine ho_val rfl rfl (ex_assign rfl) ?_
                refine ho_nil ?_
                refine hk_block_normal ?_
                refine hk_then_code ?_
                refine hl_region ?_
                refine ho_val rfl rfl (ex_move rfl) ?_
                refine ho_val rfl rfl (ex_shrN (q := 8) rfl rfl (Nat.lt_of_le_of_lt (Nat.div_le_self _ _) (by simp only [cap]; omega))) ?_
                refine ho_val rfl rfl (ex_assign rfl) ?_
                refine ho_nil ?_
                refine hk_then_normal ?_
                exact hk_round (t + 1) ⟨by omega, .inr (by omega)⟩ (by omega) ⟨rfl, rfl, (by rw [show worth d32 (L.getD (L.length - 1 - k) 0) * 2 ^ (5 * k % 8) / 256 ^ (t + 1) = worth d32 (L.getD (L.length - 1 - k) 0) * 2 ^ (5 * k % 8) / 256 ^ t / 2 ^ 8 from by rw [Nat.pow_succ, ← Nat.div_div_eq_div_mul]]; rfl), rfl, rfl, rfl, trivial⟩ _ (by decide) (.cons 0 (by rw [← un32_step hv hNk ht1 hpos]; rfl) .nil)
            · try simp only [decide_eq_true_eq, decide_eq_false_iff_not, beq_iff_eq, beq_eq_false_iff_ne, bne_iff_ne, bne_eq_false_iff_eq, ne_eq, Int.not_lt, Int.not_le, gt_iff_lt, ge_iff_le, Bool.not_eq_true', Bool.not_eq_false'] at hc7
              have ht6 : worth d32 (L.getD (L.length - 1 - k) 0) * 2 ^ (5 * k % 8) / 256 ^ t = 0 := by
                generalize worth d32 (L.getD (L.length - 1 - k) 0) * 2 ^ (5 * k % 8) / 256 ^ t = y at *
                omega
              have hnext : numTo L (k + 1) < 256 ^ (5 * L.length / 8) := un32_fits ht6 rfl hNk hk.2 ht.2
              refine hl_exit ?_
              refine hk_then_exit ?_
              refine hk_then_exit ?_
              refine hk_block_hit ?_
              refine hk_block_normal ?_
              refine hk_then_code ?_
              refine hl_region ?_
              refine ho_val rfl rfl (ex_addN (q := 1) rfl rfl (by omega)) ?_
              refine ho_val rfl rfl (ex_move rfl) ?_
              refine ho_nil ?_
              refine hk_then_normal ?_
              exact hk_round (k + 1) ⟨by omega, hnext⟩ (by omega) ⟨rfl, rfl, rfl, rfl, trivial⟩ _ (by decide) (.cons 0 (by rw [← un32_done ht6 rfl]; rfl) .nil)
          · try simp only [decide_eq_true_eq, decide_eq_false_iff_not, beq_iff_eq, beq_eq_false_iff_ne, bne_iff_ne, bne_eq_false_iff_eq, ne_eq, Int.not_lt, Int.not_le, gt_iff_lt, ge_iff_le, Bool.not_eq_true', Bool.not_eq_false'] at hc6
            have hk6 : k = L.length := by have := hk.1; omega
            have hN : numTo L L.length < 256 ^ (5 * L.length / 8) := hk6 ▸ hk.2
            refine hl_exit ?_
            refine hk_then_exit ?_
            refine hk_then_exit ?_
            refine hk_block_hit ?_
            refine hk_then_code ?_
            refine hl_seq ?_
            skip
            refine hl_region ?_
            refine ho_val rfl rfl (ex_move rfl) ?_
            refine ho_val rfl rfl (ex_assign rfl) ?_
            refine ho_val rfl rfl (ex_assign rfl) ?_
            refine ho_val rfl rfl (ex_assign rfl) ?_
            refine ho_nil ?_
            refine hk_then_code ?_
            refine hl_ret ?_
            exact hk_ret3 rfl rfl rfl rfl (fun w' hw' => by rw [un32_ok hwr (by omega) hN]; refine rd_full (by rw [toLE_length]) (by rw [toLE_length]; simp only [maxLen]; omega) (hs := []) ?_; rw [hk6] at hw'; exact hw')
  · refine hl_region ?_
    refine ho_val rfl rfl (ex_assign rfl) ?_
    refine ho_val rfl rfl (ex_assign rfl) ?_
    refine ho_val rfl rfl (ex_assign rfl) ?_
    refine ho_nil ?_
    refine hk_then_code ?_
    refine hl_seq ?_
    refine hl_seq ?_
    refine hl_region ?_
    refine ho_val rfl rfl (ex_move rfl) ?_
    refine ho_do rfl rfl (exw_call_pure (v := .int .i64 (i : Nat)) Try.func29 rfl (by kernel_rfl) rfl (fun w' hw' => by rw [← wrongInt_some hwr]; exact wrong_any L d32 (by omega) w')) (fun _ _ => ?_)
    refine ho_val rfl rfl (ex_assign rfl) ?_
    refine ho_nil ?_
    refine hk_then_code ?_
    refine hl_seq ?_
    refine hl_region ?_
    refine ho_val rfl rfl (ex_move rfl) ?_
    refine ho_val rfl rfl (ex_geq (b := true) rfl rfl (decide_eq_true (by omega))) ?_
    refine ho_nil ?_
    refine hk_then_code ?_
    refine hl_true rfl ?_
    refine hl_seq ?_
    skip
    refine hl_region ?_
    refine ho_val rfl rfl (ex_move rfl) ?_
    refine ho_val rfl rfl (ex_assign rfl) ?_
    refine ho_val rfl rfl (ex_assign rfl) ?_
    refine ho_val rfl rfl (ex_assign rfl) ?_
    refine ho_nil ?_
    refine hk_then_code ?_
    refine hl_ret ?_
    refine hk_then_ret ?_
    exact hk_ret3 rfl rfl rfl rfl (fun w' hw' => by rw [un32_wrong hwr]; exact ⟨rfl, hw'.below⟩)

end Go.Proofs.Ytdmagjelmhcemaa
