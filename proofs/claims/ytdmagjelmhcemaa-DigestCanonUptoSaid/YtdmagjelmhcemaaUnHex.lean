/- UnHex: what it answers. -/
import Derived.Test.YtdmagjelmhcemaaRows
import Derived.Test.YtdmagjelmhcemaaFacts
import Derived.Test.YtdmagjelmhcemaaB
import Derived.Test.YtdmagjelmhcemaaUn2
import Derived.Test.YtdmagjelmhcemaaIdx
import Derived.Test.YtdmagjelmhcemaaD
import Derived.KernelRfl
import Derived.Test.YtdmagjelmhcemaaValues
namespace Go.Proofs.Ytdmagjelmhcemaa
open Go.RowKit
set_option linter.unusedVariables false
set_option linter.unusedSimpArgs false

set_option maxHeartbeats 400000 in
theorem unhex_any (L : List UInt8) (hl : L.length ≤ 4194304) (w : World) :
    Calls Try.prog 20 #[Value.string (bs L)] w fun e w' => RdPost 5 w (un16 L) e w' := by
  refine calls_enter (n := 47) (hs := []) (M := []) (vs := [Value.string (bs L)]) Try.func20 rfl rfl rfl (Hp.start w) ?_
  refine hl_seq ?_
  rcases hwr : wrongAt d16 L with _ | i
  · refine hl_region ?_
    refine ho_val rfl rfl (ex_assign rfl) ?_
    refine ho_val rfl rfl (ex_assign rfl) ?_
    refine ho_val rfl rfl (ex_assign rfl) ?_
    refine ho_nil ?_
    refine hk_then_code ?_
    refine hl_seq ?_
    refine hl_seq ?_
    refine hl_region ?_
    refine ho_val rfl rfl (ex_move rfl) ?_
    refine ho_do rfl rfl (exw_call_pure (v := .int .i64 (-1)) Try.func29 rfl (by kernel_rfl) rfl (fun w' hw' => by rw [← wrongInt_none hwr]; exact wrong_any L d16 (by omega) w')) (fun _ _ => ?_)
    refine ho_val rfl rfl (ex_assign rfl) ?_
    refine ho_nil ?_
    refine hk_then_code ?_
    refine hl_seq ?_
    refine hl_region ?_
    refine ho_val rfl rfl (ex_move rfl) ?_
    refine ho_val rfl rfl (ex_geq rfl rfl rfl) ?_
    refine ho_nil ?_
    refine hk_then_code ?_
    refine hl_false rfl ?_
    refine hl_skip ?_
    refine hk_then_code ?_
    refine hl_seq ?_
    refine hl_seq ?_
    refine hl_region ?_
    refine ho_val rfl rfl (ex_move rfl) ?_
    refine ho_val rfl rfl (ex_len_str rfl Try.underlying9) ?_
    refine ho_val rfl rfl (ex_remN (q := 2) rfl rfl (by omega) (by omega)) ?_
    refine ho_val rfl rfl (ex_eql rfl rfl rfl) ?_
    refine ho_nil ?_
    refine hk_then_code ?_
    refine hl_if rfl (fun hc1 => ?_) (fun hc1 => ?_)
    · try simp only [decide_eq_true_eq, decide_eq_false_iff_not, beq_iff_eq, beq_eq_false_iff_ne, bne_iff_ne, bne_eq_false_iff_eq, ne_eq, Int.not_lt, Int.not_le, gt_iff_lt, ge_iff_le, Bool.not_eq_true', Bool.not_eq_false'] at hc1
      refine hl_seq ?_
      refine hl_region ?_
      refine ho_val rfl rfl (ex_move rfl) ?_
      refine ho_val rfl rfl (ex_len_str rfl Try.underlying9) ?_
      refine ho_val rfl rfl (ex_assign rfl) ?_
      refine ho_val rfl rfl (ex_assign rfl) ?_
      refine ho_val rfl rfl (ex_assign rfl) ?_
      refine ho_nil ?_
      refine hk_then_code ?_
      refine hl_ret ?_
      refine hk_then_ret ?_
      exact hk_ret3 rfl rfl rfl rfl (fun w' hw' => by rw [un16_odd hwr (by omega)]; exact ⟨rfl, hw'.below⟩)
    · try simp only [decide_eq_true_eq, decide_eq_false_iff_not, beq_iff_eq, beq_eq_false_iff_ne, bne_iff_ne, bne_eq_false_iff_eq, ne_eq, Int.not_lt, Int.not_le, gt_iff_lt, ge_iff_le, Bool.not_eq_true', Bool.not_eq_false'] at hc1
      refine hl_skip ?_
      refine hk_then_code ?_
      refine hl_seq ?_
      refine hl_region ?_
      refine ho_val rfl rfl (ex_move rfl) ?_
      refine ho_val rfl rfl (ex_len_str rfl Try.underlying9) ?_
      refine ho_val rfl rfl (ex_quoN (q := 2) rfl rfl (by omega) (by omega)) ?_
      refine ho_do rfl rfl (exw_make rfl rfl Try.underlying28 info5 (by omega) (by omega) (by omega) (made_bytes _)) (fun b22 hb22 => ?_)
      refine ho_val rfl rfl (ex_assign rfl) ?_
      refine ho_nil ?_
      refine hk_then_code ?_
      refine hl_seq ?_
      refine hl_seq ?_
      refine hl_region ?_
      refine ho_val rfl rfl (ex_move rfl) ?_
      refine ho_val rfl rfl (ex_len_slice rfl Try.underlying28) ?_
      refine ho_val rfl rfl (ex_move rfl) ?_
      refine ho_nil ?_
      refine hk_then_code ?_
      refine hl_block ?_
      refine hl_loop (G := Nat) (fun i => L.length / 2 - i) (fun i => i ≤ L.length / 2) (fun i => [(0, .string (bs L)), (6, slv (some ⟨b22, 0, none⟩) (L.length / 2) (L.length / 2)), (24, .int .i64 (L.length / 2 : Nat)), (25, .int .i64 (i : Nat))]) (fun i => [⟨some b22, vbs (hexRow L (L.length / 2) i), 5, (0, 0)⟩]) 0 (by omega) ⟨rfl, rfl, rfl, rfl, trivial⟩ _ (by decide) (.cons 0 (by rw [hexRow_zero]; rfl) .nil) (fun i hi => ?_)
      refine hl_seq ?_
      refine hl_region ?_
      refine ho_val rfl rfl (ex_lss rfl rfl rfl) ?_
      refine ho_nil ?_
      refine hk_then_code ?_
      refine hl_seq ?_
      refine hl_if rfl (fun hc2 => ?_) (fun hc2 => ?_)
      · try simp only [decide_eq_true_eq, decide_eq_false_iff_not, beq_iff_eq, beq_eq_false_iff_ne, bne_iff_ne, bne_eq_false_iff_eq, ne_eq, Int.not_lt, Int.not_le, gt_iff_lt, ge_iff_le, Bool.not_eq_true', Bool.not_eq_false'] at hc2
        have hi5 : i < L.length / 2 := by omega
        refine hl_skip ?_
        refine hk_then_code ?_
        refine hl_seq ?_
        refine hl_block ?_
        refine hl_seq ?_
        refine hl_region ?_
        refine ho_val rfl rfl (ex_move rfl) ?_
        refine ho_val rfl rfl (ex_assign rfl) ?_
        refine ho_nil ?_
        refine hk_then_code ?_
        have ha : worth d16 (L.getD (2 * i) 0) < 16 := worth_lt (wrong_good hwr (2 * i) (by omega))
        have hb : worth d16 (L.getD (2 * i + 1) 0) < 16 := worth_lt (wrong_good hwr (2 * i + 1) (by omega))
        have hor : worth d16 (L.getD (2 * i) 0) * 2 ^ 4 ||| worth d16 (L.getD (2 * i + 1) 0) = 16 * worth d16 (L.getD (2 * i) 0) + worth d16 (L.getD (2 * i + 1) 0) := hexor _ ha _ hb
        refine hl_held _ (by kernel_rfl) (by decide) .nil ?_
        refine ha_take 0 rfl (by kernel_rfl) (by kernel_rfl) (by kernel_rfl) (fun _ _ _ h => h) rfl rfl (ex_move rfl) ?_
        refine ha_take 1 rfl (by kernel_rfl) (by kernel_rfl) (by kernel_rfl) (fun _ _ _ h => h) rfl rfl (ex_move rfl) ?_
        refine ha_take 2 rfl (by kernel_rfl) (by kernel_rfl) (by kernel_rfl) (fun _ _ _ h => h) rfl rfl (ex_move rfl) ?_
        refine ha_take 3 rfl (by kernel_rfl) (by kernel_rfl) (by kernel_rfl) (fun _ _ _ h => h) rfl rfl (ex_move rfl) ?_
        refine ha_take 4 rfl (by kernel_rfl) (by kernel_rfl) (by kernel_rfl) (fun _ _ _ h => h) rfl rfl (ex_mulN (p := 2) rfl rfl (by omega)) ?_
        refine ha_take 5 rfl (by kernel_rfl) (by kernel_rfl) (by kernel_rfl) (fun _ _ _ h => h) rfl rfl (ex_index_str rfl rfl Try.underlying9 (by omega)) ?_
        refine ha_take 8 rfl (by kernel_rfl) (by kernel_rfl) (by kernel_rfl) (fun _ _ _ h => h) rfl rfl (ex_move rfl) ?_
        refine ha_take 9 rfl (by kernel_rfl) (by kernel_rfl) (by kernel_rfl) (fun _ _ _ h => h) rfl rfl (ex_move rfl) ?_
        refine ha_take 10 rfl (by kernel_rfl) (by kernel_rfl) (by kernel_rfl) (fun _ _ _ h => h) rfl rfl (ex_mulN (p := 2) rfl rfl (by omega)) ?_
        refine ha_take 11 rfl (by kernel_rfl) (by kernel_rfl) (by kernel_rfl) (fun _ _ _ h => h) rfl rfl (ex_addN (q := 1) rfl rfl (by omega)) ?_
        refine ha_take 12 rfl (by kernel_rfl) (by kernel_rfl) (by kernel_rfl) (fun _ _ _ h => h) rfl rfl (ex_index_str rfl rfl Try.underlying9 (by omega)) ?_
        refine ha_do 6 rfl (by kernel_rfl) (fun a _ => wanted_none rfl a) rfl (exw_call_pure (v := .int .i64 (worth d16 (L.getD (2 * i) 0) : Nat)) Try.func30 rfl (by kernel_rfl) rfl (fun w' hw' => by rw [← worth_eq (wrong_good hwr (2 * i) (by omega))]; exact value_any d16 _ w')) (by decide) (fun _ _ => .nil) (fun _ _ => ?_)
        refine ha_take 7 rfl (by kernel_rfl) (by kernel_rfl) (by kernel_rfl) (fun _ _ _ h => h) rfl rfl (ex_shlN (q := 4) rfl rfl (by simp only [IntKind.bits]; omega) (by simp only [cap]; omega)) ?_
        refine ha_do 13 rfl (by kernel_rfl) (fun a _ => wanted_none rfl a) rfl (exw_call_pure (v := .int .i64 (worth d16 (L.getD (2 * i + 1) 0) : Nat)) Try.func30 rfl (by kernel_rfl) rfl (fun w' hw' => by rw [← worth_eq (wrong_good hwr (2 * i + 1) (by omega))]; exact value_any d16 _ w')) (by decide) (fun _ _ => .nil) (fun _ _ => ?_)
        refine ha_take 14 rfl (by kernel_rfl) (by kernel_rfl) (by kernel_rfl) (fun _ _ _ h => h) rfl rfl (ex_orN rfl rfl (by simp only [cap]; omega) (by simp only [cap]; omega)) ?_
        refine ha_take 15 rfl (by kernel_rfl) (by kernel_rfl) (by kernel_rfl) (fun _ _ _ h => h) rfl rfl (ex_conv8 rfl Try.underlying3 Try.underlying5) ?_
        refine ha_take 16 rfl (by kernel_rfl) (by kernel_rfl) (by kernel_rfl) (fun _ _ _ h => h) rfl rfl (ex_addr_own rfl rfl Try.underlying28 size5 (by omega)) ?_
        refine ha_do 17 rfl (by kernel_rfl) (fun a _ => wanted_none rfl a) rfl (exw_store0 rfl rfl (vbs_getD _ _ (by rw [hexRow_length _ _ _ (by omega)]; omega)) rfl size5 (vbs_set _ _ _)) (by decide) (fun _ _ => .nil) (fun _ _ => ?_)
        refine ha_done (by kernel_rfl) ?_
        refine hk_block_normal ?_
        refine hk_then_code ?_
        refine hl_region ?_
        refine ho_val rfl rfl (ex_addN (q := 1) rfl rfl (by omega)) ?_
        refine ho_val rfl rfl (ex_move rfl) ?_
        refine ho_nil ?_
        refine hk_then_normal ?_
        exact hk_round (i + 1) (by omega) (by omega) ⟨rfl, rfl, rfl, rfl, trivial⟩ _ (by decide) (.cons 0 (by rw [← hexRow_step (by omega) rfl rfl ha hb]; rfl) .nil)
      · try simp only [decide_eq_true_eq, decide_eq_false_iff_not, beq_iff_eq, beq_eq_false_iff_ne, bne_iff_ne, bne_eq_false_iff_eq, ne_eq, Int.not_lt, Int.not_le, gt_iff_lt, ge_iff_le, Bool.not_eq_true', Bool.not_eq_false'] at hc2
        obtain rfl : i = L.length / 2 := by omega
        refine hl_exit ?_
        refine hk_then_exit ?_
        refine hk_then_exit ?_
        refine hk_block_hit ?_
        refine hk_then_code ?_
        refine hl_seq ?_
        refine hl_region ?_
        refine ho_val rfl rfl (ex_move rfl) ?_
        refine ho_val rfl rfl (ex_assign rfl) ?_
        refine ho_val rfl rfl (ex_assign rfl) ?_
        refine ho_val rfl rfl (ex_assign rfl) ?_
        refine ho_nil ?_
        refine hk_then_code ?_
        refine hl_ret ?_
        exact hk_ret3 rfl rfl rfl rfl (fun w' hw' => by rw [un16_ok hwr (by omega)]; refine rd_full (by rw [unhexTo_length]) (by rw [unhexTo_length]; simp only [maxLen]; omega) (hs := []) ?_; rw [← hexRow_done]; exact hw')
  · refine hl_region ?_
    refine ho_val rfl rfl (ex_assign rfl) ?_
    refine ho_val rfl rfl (ex_assign rfl) ?_
    refine ho_val rfl rfl (ex_assign rfl) ?_
    refine ho_nil ?_
    refine hk_then_code ?_
    refine hl_seq ?_
    refine hl_seq ?_
    refine hl_region ?_
    refine ho_val rfl rfl (ex_move rfl) ?_
    refine ho_do rfl rfl (exw_call_pure (v := .int .i64 (i : Nat)) Try.func29 rfl (by kernel_rfl) rfl (fun w' hw' => by rw [← wrongInt_some hwr]; exact wrong_any L d16 (by omega) w')) (fun _ _ => ?_)
    refine ho_val rfl rfl (ex_assign rfl) ?_
    refine ho_nil ?_
    refine hk_then_code ?_
    refine hl_seq ?_
    refine hl_region ?_
    refine ho_val rfl rfl (ex_move rfl) ?_
    refine ho_val rfl rfl (ex_geq (b := true) rfl rfl (decide_eq_true (by omega))) ?_
    refine ho_nil ?_
    refine hk_then_code ?_
    refine hl_true rfl ?_
    refine hl_seq ?_
    refine hl_region ?_
    refine ho_val rfl rfl (ex_move rfl) ?_
    refine ho_val rfl rfl (ex_assign rfl) ?_
    refine ho_val rfl rfl (ex_assign rfl) ?_
    refine ho_val rfl rfl (ex_assign rfl) ?_
    refine ho_nil ?_
    refine hk_then_code ?_
    refine hl_ret ?_
    refine hk_then_ret ?_
    exact hk_ret3 rfl rfl rfl rfl (fun w' hw' => by rw [un16_wrong hwr]; exact ⟨rfl, hw'.below⟩)

end Go.Proofs.Ytdmagjelmhcemaa
