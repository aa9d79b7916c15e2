/- Base32: what it answers. -/
import Derived.Test.YtdmagjelmhcemaaRows
import Derived.Test.YtdmagjelmhcemaaFacts
import Derived.Test.YtdmagjelmhcemaaB
import Derived.Test.YtdmagjelmhcemaaTextLaw
import Derived.Test.YtdmagjelmhcemaaTextLaw2
import Derived.KernelRfl
import Derived.Test.YtdmagjelmhcemaaTexts1
namespace Go.Proofs.Ytdmagjelmhcemaa
open Go.RowKit
set_option linter.unusedVariables false
set_option linter.unusedSimpArgs false

set_option maxHeartbeats 400000 in
theorem base32_any (l : List UInt8) (n : Nat) (hn : l.length = n) (p : Option Addr) (c : Nat) (hp : p = none → l.length = 0) (hl : l.length ≤ 1048576) (w : World) (hS : Sl w p (l.map vb)) :
    Calls Try.prog 12 #[slv p n c] w fun e w' => e = .returned (.string (bs (base32Of l))) ∧ Below w.heap.size w w' := by
  subst hn
  have hB : ∀ k, (b32To l ((8 * l.length + 4) / 5) k).length = ((8 * l.length + 4) / 5) := fun k => b32To_length _ _ _
  refine calls_enter (n := 61) (hs := []) (M := []) (vs := [slv p l.length c]) Try.func12 rfl rfl rfl (Hp.start w) ?_
  refine hl_seq ?_
  refine hl_region ?_
  refine ho_val rfl rfl (ex_assign rfl) ?_
  refine ho_nil ?_
  refine hk_then_code ?_
  refine hl_seq ?_
  refine hl_region ?_
  refine ho_val rfl rfl (ex_move rfl) ?_
  refine ho_val rfl rfl (ex_len_slice rfl Try.underlying28) ?_
  refine ho_val rfl rfl (ex_mulN (p := 8) rfl rfl (by omega)) ?_
  refine ho_val rfl rfl (ex_addN (q := 4) rfl rfl (by omega)) ?_
  refine ho_val rfl rfl (ex_quoN (q := 5) rfl rfl (by omega) (by omega)) ?_
  refine ho_do rfl rfl (exw_make rfl rfl Try.underlying28 info5 (by omega) (by omega) (by omega) (made_bytes _)) (fun b13 hb13 => ?_)
  refine ho_val rfl rfl (ex_assign rfl) ?_
  refine ho_nil ?_
  refine hk_then_code ?_
  refine hl_seq ?_
  refine hl_seq ?_
  refine hl_region ?_
  refine ho_val rfl rfl (ex_move rfl) ?_
  refine ho_val rfl rfl (ex_len_slice rfl Try.underlying28) ?_
  refine ho_val rfl rfl (ex_move rfl) ?_
  refine ho_nil ?_
  refine hk_then_code ?_
  refine hl_block ?_
  refine hl_loop (G := Nat) (fun g => ((8 * l.length + 4) / 5) - g) (fun g => g ≤ ((8 * l.length + 4) / 5)) (fun g => [(0, slv p l.length c), (3, slv (some ⟨b13, 0, none⟩) ((8 * l.length + 4) / 5) ((8 * l.length + 4) / 5)), (15, .int .i64 (((8 * l.length + 4) / 5) : Nat)), (16, .int .i64 (g : Nat))]) (fun g => [⟨some b13, vbs (b32To l ((8 * l.length + 4) / 5) g), 5, (0, 0)⟩]) 0 (by omega) ⟨rfl, rfl, rfl, rfl, trivial⟩ _ (by decide) (.cons 0 rfl .nil) (fun g hg => ?_)
  refine hl_seq ?_
  refine hl_region ?_
  refine ho_val rfl rfl (ex_lss rfl rfl rfl) ?_
  refine ho_nil ?_
  refine hk_then_code ?_
  refine hl_seq ?_
  refine hl_if rfl (fun hc0 => ?_) (fun hc0 => ?_)
  · try simp only [decide_eq_true_eq, decide_eq_false_iff_not, beq_iff_eq, beq_eq_false_iff_ne, bne_iff_ne, bne_eq_false_iff_eq, ne_eq, Int.not_lt, Int.not_le, gt_iff_lt, ge_iff_le] at hc0
    have hk : g < ((8 * l.length + 4) / 5) := by omega
    refine hl_skip ?_
    refine hk_then_code ?_
    refine hl_seq ?_
    refine hl_block ?_
    refine hl_seq ?_
    refine hl_region ?_
    refine ho_val rfl rfl (ex_move rfl) ?_
    refine ho_val rfl rfl (ex_assign rfl) ?_
    refine ho_nil ?_
    refine hk_then_code ?_
    refine hl_seq ?_
    refine hl_region ?_
    refine ho_val rfl rfl (ex_move rfl) ?_
    refine ho_val rfl rfl (ex_mulN (p := 5) rfl rfl (by omega)) ?_
    refine ho_val rfl rfl (ex_quoN (q := 8) rfl rfl (by omega) (by omega)) ?_
    refine ho_val rfl rfl (ex_move rfl) ?_
    refine ho_val rfl rfl (ex_mulN (p := 5) rfl rfl (by omega)) ?_
    refine ho_val rfl rfl (ex_remN (q := 8) rfl rfl (by omega) (by omega)) ?_
    refine ho_val rfl rfl (ex_assign rfl) ?_
    refine ho_val rfl rfl (ex_assign rfl) ?_
    refine ho_nil ?_
    refine hk_then_code ?_
    refine hl_seq ?_
    refine hl_region ?_
    refine ho_val rfl rfl (ex_move rfl) ?_
    refine ho_val rfl rfl (ex_move rfl) ?_
    refine ho_val rfl rfl (ex_addr_sl1 rfl rfl Try.underlying28 size5 (by omega) hp) ?_
    refine ho_val rfl rfl (ex_load_sl rfl (fun w' hw' => hS.old0 hw') (map_vb_get _ _ (by omega)) Try.underlying5 rfl) ?_
    refine ho_val rfl rfl (ex_convN rfl Try.underlying5 Try.underlying3 (by have := (l.getD (5 * g / 8) 0).toNat_lt; simp only [cap]; omega)) ?_
    refine ho_val rfl rfl (ex_move rfl) ?_
    refine ho_val rfl rfl (ex_shrN rfl rfl (by have := (l.getD (5 * g / 8) 0).toNat_lt; simp only [cap]; omega)) ?_
    refine ho_val rfl rfl (ex_assign rfl) ?_
    refine ho_nil ?_
    refine hk_then_code ?_
    refine hl_seq ?_
    refine hl_seq ?_
    refine hl_region ?_
    refine ho_val rfl rfl (ex_move rfl) ?_
    refine ho_val rfl rfl (ex_addN (q := 1) rfl rfl (by omega)) ?_
    refine ho_val rfl rfl (ex_move rfl) ?_
    refine ho_val rfl rfl (ex_len_slice rfl Try.underlying28) ?_
    refine ho_val rfl rfl (ex_lss rfl rfl rfl) ?_
    refine ho_nil ?_
    refine hk_then_code ?_
    refine hl_if rfl (fun hc1 => ?_) (fun hc1 => ?_)
    · try simp only [decide_eq_true_eq, decide_eq_false_iff_not, beq_iff_eq, beq_eq_false_iff_ne, bne_iff_ne, bne_eq_false_iff_eq, ne_eq, Int.not_lt, Int.not_le, gt_iff_lt, ge_iff_le] at hc1
      have hx := (l.getD (5 * g / 8) 0).toNat_lt
      have hy := (l.getD (5 * g / 8 + 1) 0).toNat_lt
      have hd : (l.getD (5 * g / 8) 0).toNat / 2 ^ (5 * g % 8) < 256 := Nat.lt_of_le_of_lt (Nat.div_le_self _ _) hx
      have hp2 : 2 ^ (8 - 5 * g % 8) ≤ 256 := by simpa using Nat.pow_le_pow_right (n := 2) (by decide) (show 8 - 5 * g % 8 ≤ 8 by omega)
      have hm : (l.getD (5 * g / 8 + 1) 0).toNat * 2 ^ (8 - 5 * g % 8) ≤ 65536 := Nat.le_trans (Nat.mul_le_mul (Nat.le_of_lt hy) hp2) (by decide)
      have hor : (l.getD (5 * g / 8) 0).toNat / 2 ^ (5 * g % 8) ||| (l.getD (5 * g / 8 + 1) 0).toNat * 2 ^ (8 - 5 * g % 8) < 2 ^ 17 := Nat.or_lt_two_pow (by omega) (by omega)
      refine hl_region ?_
      refine ho_val rfl rfl (ex_move rfl) ?_
      refine ho_val rfl rfl (ex_move rfl) ?_
      refine ho_val rfl rfl (ex_move rfl) ?_
      refine ho_val rfl rfl (ex_addN (q := 1) rfl rfl (by omega)) ?_
      refine ho_val rfl rfl (ex_addr_sl1 rfl rfl Try.underlying28 size5 (by omega) hp) ?_
      refine ho_val rfl rfl (ex_load_sl rfl (fun w' hw' => hS.old0 hw') (map_vb_get _ _ (by omega)) Try.underlying5 rfl) ?_
      refine ho_val rfl rfl (ex_convN rfl Try.underlying5 Try.underlying3 (by have := (l.getD (5 * g / 8 + 1) 0).toNat_lt; simp only [cap]; omega)) ?_
      refine ho_val rfl rfl (ex_move rfl) ?_
      refine ho_val rfl rfl (ex_subN (p := 8) rfl rfl (by omega) (by omega)) ?_
      refine ho_val rfl rfl (ex_shlN rfl rfl (by simp only [IntKind.bits]; omega) (by simp only [cap]; omega)) ?_
      refine ho_val rfl rfl (ex_orN rfl rfl (by simp only [cap]; omega) (by simp only [cap]; omega)) ?_
      refine ho_val rfl rfl (ex_assign rfl) ?_
      refine ho_nil ?_
      refine hk_then_code ?_
      refine hl_region ?_
      refine ho_val rfl rfl (ex_move rfl) ?_
      refine ho_val rfl rfl (ex_move rfl) ?_
      refine ho_val rfl rfl (ex_len_slice rfl Try.underlying28) ?_
      refine ho_val rfl rfl (ex_subN (q := 1) rfl rfl (by omega) (by omega)) ?_
      refine ho_val rfl rfl (ex_move rfl) ?_
      refine ho_val rfl rfl (ex_subN rfl rfl (by omega) (by omega)) ?_
      refine ho_val rfl rfl (ex_move rfl) ?_
      refine ho_val rfl rfl (ex_andN (q := 31) rfl rfl (by simp only [cap]; omega) (by decide)) ?_
      refine ho_val rfl rfl (ex_index_str rfl rfl Try.underlying9 (by rw [five_prog _ _ _ hx (Nat.mod_lt _ (by decide))]; exact five_lt l g)) ?_
      refine ho_val rfl rfl (ex_addr_own rfl rfl Try.underlying28 size5 (by omega)) ?_
      refine ho_do rfl rfl (exw_store0 rfl rfl (by rw [vbs_getD _ _ (by rw [hB]; omega)]) rfl size5 (vbs_set _ _ _)) (fun _ _ => ?_)
      refine ho_nil ?_
      refine hk_block_normal ?_
      refine hk_then_code ?_
      have hstep : (b32To l ((8 * l.length + 4) / 5) g).set (((8 * l.length + 4) / 5) - 1 - g) (d32.getD (((l.getD (5 * g / 8) 0).toNat / 2 ^ (5 * g % 8) ||| (l.getD (5 * g / 8 + 1) 0).toNat * 2 ^ (8 - 5 * g % 8)) &&& 31) 0) = b32To l ((8 * l.length + 4) / 5) (g + 1) := by rw [five_prog _ _ _ hx (Nat.mod_lt _ (by decide))]; rfl
      refine hl_region ?_
      refine ho_val rfl rfl (ex_addN (q := 1) rfl rfl (by omega)) ?_
      refine ho_val rfl rfl (ex_move rfl) ?_
      refine ho_nil ?_
      refine hk_then_normal ?_
      exact hk_round (g + 1) (by omega) (by omega) ⟨rfl, rfl, rfl, rfl, trivial⟩ _ (by decide) (.cons 0 (by rw [hstep]; rfl) .nil)
    · try simp only [decide_eq_true_eq, decide_eq_false_iff_not, beq_iff_eq, beq_eq_false_iff_ne, bne_iff_ne, bne_eq_false_iff_eq, ne_eq, Int.not_lt, Int.not_le, gt_iff_lt, ge_iff_le] at hc1
      refine hl_skip ?_
      refine hk_then_code ?_
      refine hl_region ?_
      refine ho_val rfl rfl (ex_move rfl) ?_
      refine ho_val rfl rfl (ex_move rfl) ?_
      refine ho_val rfl rfl (ex_len_slice rfl Try.underlying28) ?_
      refine ho_val rfl rfl (ex_subN (q := 1) rfl rfl (by omega) (by omega)) ?_
      refine ho_val rfl rfl (ex_move rfl) ?_
      refine ho_val rfl rfl (ex_subN rfl rfl (by omega) (by omega)) ?_
      refine ho_val rfl rfl (ex_move rfl) ?_
      refine ho_val rfl rfl (ex_andN (q := 31) rfl rfl (Nat.lt_of_le_of_lt (Nat.div_le_self _ _) (by have := (l.getD (5 * g / 8) 0).toNat_lt; simp only [cap]; omega)) (by decide)) ?_
      refine ho_val rfl rfl (ex_index_str rfl rfl Try.underlying9 (by rw [and31]; exact Nat.mod_lt _ (by decide))) ?_
      refine ho_val rfl rfl (ex_addr_own rfl rfl Try.underlying28 size5 (by omega)) ?_
      refine ho_do rfl rfl (exw_store0 rfl rfl (by rw [vbs_getD _ _ (by rw [hB]; omega)]) rfl size5 (vbs_set _ _ _)) (fun _ _ => ?_)
      refine ho_nil ?_
      refine hk_block_normal ?_
      refine hk_then_code ?_
      have hstep : (b32To l ((8 * l.length + 4) / 5) g).set (((8 * l.length + 4) / 5) - 1 - g) (d32.getD ((l.getD (5 * g / 8) 0).toNat / 2 ^ (5 * g % 8) &&& 31) 0) = b32To l ((8 * l.length + 4) / 5) (g + 1) := by rw [five_prog0 _ _ (l.getD (5 * g / 8) 0).toNat_lt (Nat.mod_lt _ (by decide))]; show _ = (b32To l ((8 * l.length + 4) / 5) g).set _ (d32.getD (five l g) 0); unfold five; rw [getD_over l (5 * g / 8 + 1) (by omega)]; rfl
      refine hl_region ?_
      refine ho_val rfl rfl (ex_addN (q := 1) rfl rfl (by omega)) ?_
      refine ho_val rfl rfl (ex_move rfl) ?_
      refine ho_nil ?_
      refine hk_then_normal ?_
      exact hk_round (g + 1) (by omega) (by omega) ⟨rfl, rfl, rfl, rfl, trivial⟩ _ (by decide) (.cons 0 (by rw [hstep]; rfl) .nil)
  · try simp only [decide_eq_true_eq, decide_eq_false_iff_not, beq_iff_eq, beq_eq_false_iff_ne, bne_iff_ne, bne_eq_false_iff_eq, ne_eq, Int.not_lt, Int.not_le, gt_iff_lt, ge_iff_le] at hc0
    have hk : g = ((8 * l.length + 4) / 5) := by omega
    refine hl_exit ?_
    refine hk_then_exit ?_
    refine hk_then_exit ?_
    refine hk_block_hit ?_
    refine hk_then_code ?_
    refine hl_seq ?_
    refine hl_region ?_
    refine ho_val rfl rfl (ex_move rfl) ?_
    refine ho_val rfl rfl (ex_conv_bytes rfl (fun w hw => Sl.ownBs hw 0 rfl) (by rw [hB]) Try.underlying28 Try.underlying5 Try.underlying9) ?_
    refine ho_val rfl rfl (ex_assign rfl) ?_
    refine ho_nil ?_
    refine hk_then_code ?_
    refine hl_ret ?_
    exact hk_ret rfl rfl (fun w' hw' => ⟨by subst hk; rfl, hw'.below⟩)

set_option maxHeartbeats 400000 in
theorem refbase32_any (l : List UInt8) (n : Nat) (hn : l.length = n) (p : Option Addr) (c : Nat) (hp : p = none → l.length = 0) (hl : l.length ≤ 1048576) (w : World) (hS : Sl w p (l.map vb)) :
    Calls Try.prog 13 #[slv p n c] w fun e w' => e = .returned (.string (bs (base32Of l))) ∧ Below w.heap.size w w' := by
  subst hn
  have hB : ∀ k, (b32To l ((8 * l.length + 4) / 5) k).length = ((8 * l.length + 4) / 5) := fun k => b32To_length _ _ _
  refine calls_enter (n := 45) (hs := []) (M := []) (vs := [slv p l.length c]) Try.func13 rfl rfl rfl (Hp.start w) ?_
  refine hl_seq ?_
  refine hl_region ?_
  refine ho_val rfl rfl (ex_assign rfl) ?_
  refine ho_nil ?_
  refine hk_then_code ?_
  refine hl_seq ?_
  refine hl_region ?_
  refine ho_val rfl rfl (ex_move rfl) ?_
  refine ho_val rfl rfl (ex_len_slice rfl Try.underlying28) ?_
  refine ho_val rfl rfl (ex_mulN (p := 8) rfl rfl (by omega)) ?_
  refine ho_val rfl rfl (ex_addN (q := 4) rfl rfl (by omega)) ?_
  refine ho_val rfl rfl (ex_quoN (q := 5) rfl rfl (by omega) (by omega)) ?_
  refine ho_val rfl rfl (ex_assign rfl) ?_
  refine ho_nil ?_
  refine hk_then_code ?_
  refine hl_seq ?_
  refine hl_region ?_
  refine ho_val rfl rfl (ex_move rfl) ?_
  refine ho_do rfl rfl (exw_make rfl rfl Try.underlying28 info5 (by omega) (by omega) (by omega) (made_bytes _)) (fun b14 hb14 => ?_)
  refine ho_val rfl rfl (ex_assign rfl) ?_
  refine ho_nil ?_
  refine hk_then_code ?_
  refine hl_seq ?_
  refine hl_seq ?_
  refine hl_region ?_
  refine ho_val rfl rfl (ex_assign rfl) ?_
  refine ho_nil ?_
  refine hk_then_code ?_
  refine hl_block ?_
  refine hl_loop (G := Nat) (fun g => ((8 * l.length + 4) / 5) - g) (fun g => g ≤ ((8 * l.length + 4) / 5)) (fun g => [(0, slv p l.length c), (3, .int .i64 (((8 * l.length + 4) / 5) : Nat)), (4, slv (some ⟨b14, 0, none⟩) ((8 * l.length + 4) / 5) ((8 * l.length + 4) / 5)), (5, .int .i64 (g : Nat))]) (fun g => [⟨some b14, vbs (b32To l ((8 * l.length + 4) / 5) g), 5, (0, 0)⟩]) 0 (by omega) ⟨rfl, rfl, rfl, rfl, trivial⟩ _ (by decide) (.cons 0 rfl .nil) (fun g hg => ?_)
  refine hl_seq ?_
  refine hl_seq ?_
  refine hl_region ?_
  refine ho_val rfl rfl (ex_move rfl) ?_
  refine ho_val rfl rfl (ex_move rfl) ?_
  refine ho_val rfl rfl (ex_lss rfl rfl rfl) ?_
  refine ho_nil ?_
  refine hk_then_code ?_
  refine hl_if rfl (fun hc0 => ?_) (fun hc0 => ?_)
  · try simp only [decide_eq_true_eq, decide_eq_false_iff_not, beq_iff_eq, beq_eq_false_iff_ne, bne_iff_ne, bne_eq_false_iff_eq, ne_eq, Int.not_lt, Int.not_le, gt_iff_lt, ge_iff_le] at hc0
    have hk : g < ((8 * l.length + 4) / 5) := by omega
    refine hl_skip ?_
    refine hk_then_code ?_
    refine hl_seq ?_
    refine hl_block ?_
    refine hl_seq ?_
    refine hl_region ?_
    refine ho_val rfl rfl (ex_assign rfl) ?_
    refine ho_nil ?_
    refine hk_then_code ?_
    refine hl_seq ?_
    refine hl_seq ?_
    refine hl_region ?_
    refine ho_val rfl rfl (ex_assign rfl) ?_
    refine ho_nil ?_
    refine hk_then_code ?_
    refine hl_block ?_
    refine hl_loop (G := Nat) (fun j => 5 - j) (fun j => j ≤ 5) (fun j => [(0, slv p l.length c), (3, .int .i64 (((8 * l.length + 4) / 5) : Nat)), (4, slv (some ⟨b14, 0, none⟩) ((8 * l.length + 4) / 5) ((8 * l.length + 4) / 5)), (5, .int .i64 (g : Nat)), (6, .int .i64 (sumTo l g j : Nat)), (7, .int .i64 (j : Nat))]) (fun j => [⟨some b14, vbs (b32To l ((8 * l.length + 4) / 5) g), 5, (0, 0)⟩]) 0 (by omega) ⟨rfl, rfl, rfl, rfl, rfl, rfl, trivial⟩ _ (by decide) (.cons 0 rfl .nil) (fun j hj => ?_)
    refine hl_seq ?_
    refine hl_seq ?_
    refine hl_region ?_
    refine ho_val rfl rfl (ex_move rfl) ?_
    refine ho_val rfl rfl (ex_lss rfl rfl rfl) ?_
    refine ho_nil ?_
    refine hk_then_code ?_
    refine hl_if rfl (fun hc1 => ?_) (fun hc1 => ?_)
    · try simp only [decide_eq_true_eq, decide_eq_false_iff_not, beq_iff_eq, beq_eq_false_iff_ne, bne_iff_ne, bne_eq_false_iff_eq, ne_eq, Int.not_lt, Int.not_le, gt_iff_lt, ge_iff_le] at hc1
      have hj5 : j < 5 := by omega
      refine hl_skip ?_
      refine hk_then_code ?_
      refine hl_seq ?_
      refine hl_block ?_
      have hb1 := bit_lt l (5 * g + j)
      have hs1 := sumTo_lt l g j
      have hj2 : 2 ^ j ≤ 16 := by simpa using Nat.pow_le_pow_right (n := 2) (by decide) (show j ≤ 4 by omega)
      have hm : bitOf l (5 * g + j) * 2 ^ j ≤ 16 := Nat.le_trans (Nat.mul_le_mul (show bitOf l (5 * g + j) ≤ 1 by omega) hj2) (by decide)
      refine hl_region ?_
      refine ho_val rfl rfl (ex_move rfl) ?_
      refine ho_val rfl rfl (ex_move rfl) ?_
      refine ho_val rfl rfl (ex_move rfl) ?_
      refine ho_val rfl rfl (ex_mulN (p := 5) rfl rfl (by omega)) ?_
      refine ho_val rfl rfl (ex_move rfl) ?_
      refine ho_val rfl rfl (ex_addN rfl rfl (by omega)) ?_
      refine ho_do rfl rfl (exw_call_pure Try.func28 rfl (by kernel_rfl) rfl (fun w' hw' => bit_any l _ rfl p c hp hl w' (hS.old0 hw') (5 * g + j) (by omega))) (fun _ _ => ?_)
      refine ho_val rfl rfl (ex_move rfl) ?_
      refine ho_val rfl rfl (ex_convN rfl Try.underlying3 Try.underlying50 (by simp only [cap]; omega)) ?_
      refine ho_val rfl rfl (ex_shlN rfl rfl (by simp only [IntKind.bits]; omega) (by simp only [cap]; omega)) ?_
      refine ho_val rfl rfl (ex_addN rfl rfl (by omega)) ?_
      refine ho_val rfl rfl (ex_assign rfl) ?_
      refine ho_nil ?_
      refine hk_block_normal ?_
      refine hk_then_code ?_
      refine hl_region ?_
      refine ho_val rfl rfl (ex_move rfl) ?_
      refine ho_val rfl rfl (ex_addN (q := 1) rfl rfl (by omega)) ?_
      refine ho_val rfl rfl (ex_assign rfl) ?_
      refine ho_nil ?_
      refine hk_then_normal ?_
      exact hk_round (j + 1) (by omega) (by omega) ⟨rfl, rfl, rfl, rfl, rfl, rfl, trivial⟩ _ (by decide) (.cons 0 rfl .nil)
    · try simp only [decide_eq_true_eq, decide_eq_false_iff_not, beq_iff_eq, beq_eq_false_iff_ne, bne_iff_ne, bne_eq_false_iff_eq, ne_eq, Int.not_lt, Int.not_le, gt_iff_lt, ge_iff_le] at hc1
      obtain rfl : j = 5 := by omega
      refine hl_exit ?_
      refine hk_then_exit ?_
      refine hk_then_exit ?_
      refine hk_block_hit ?_
      refine hk_then_code ?_
      refine hl_region ?_
      refine ho_val rfl rfl (ex_move rfl) ?_
      refine ho_val rfl rfl (ex_move rfl) ?_
      refine ho_val rfl rfl (ex_subN (q := 1) rfl rfl (by omega) (by omega)) ?_
      refine ho_val rfl rfl (ex_move rfl) ?_
      refine ho_val rfl rfl (ex_subN rfl rfl (by omega) (by omega)) ?_
      refine ho_val rfl rfl (ex_move rfl) ?_
      refine ho_val rfl rfl (ex_index_str rfl rfl Try.underlying9 (by rw [sumTo_five]; exact five_lt l g)) ?_
      refine ho_val rfl rfl (ex_addr_own rfl rfl Try.underlying28 size5 (by omega)) ?_
      refine ho_do rfl rfl (exw_store0 rfl rfl (by rw [vbs_getD _ _ (by rw [hB]; omega)]) rfl size5 (vbs_set _ _ _)) (fun _ _ => ?_)
      refine ho_nil ?_
      refine hk_block_normal ?_
      refine hk_then_code ?_
      refine hl_region ?_
      refine ho_val rfl rfl (ex_move rfl) ?_
      refine ho_val rfl rfl (ex_addN (q := 1) rfl rfl (by omega)) ?_
      refine ho_val rfl rfl (ex_assign rfl) ?_
      refine ho_nil ?_
      refine hk_then_normal ?_
      exact hk_round (g + 1) (by omega) (by omega) ⟨rfl, rfl, rfl, rfl, trivial⟩ _ (by decide) (.cons 0 (by rw [sumTo_five]; rfl) .nil)
  · try simp only [decide_eq_true_eq, decide_eq_false_iff_not, beq_iff_eq, beq_eq_false_iff_ne, bne_iff_ne, bne_eq_false_iff_eq, ne_eq, Int.not_lt, Int.not_le, gt_iff_lt, ge_iff_le] at hc0
    have hk : g = ((8 * l.length + 4) / 5) := by omega
    refine hl_exit ?_
    refine hk_then_exit ?_
    refine hk_then_exit ?_
    refine hk_block_hit ?_
    refine hk_then_code ?_
    refine hl_seq ?_
    refine hl_region ?_
    refine ho_val rfl rfl (ex_move rfl) ?_
    refine ho_val rfl rfl (ex_conv_bytes rfl (fun w hw => Sl.ownBs hw 0 rfl) (by rw [hB]) Try.underlying28 Try.underlying5 Try.underlying9) ?_
    refine ho_val rfl rfl (ex_assign rfl) ?_
    refine ho_nil ?_
    refine hk_then_code ?_
    refine hl_ret ?_
    exact hk_ret rfl rfl (fun w' hw' => ⟨by subst hk; rfl, hw'.below⟩)

end Go.Proofs.Ytdmagjelmhcemaa
