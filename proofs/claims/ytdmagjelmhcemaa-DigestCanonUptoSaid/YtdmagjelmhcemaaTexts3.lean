/- Base64: what it answers. -/
import Derived.Test.YtdmagjelmhcemaaRows
import Derived.Test.YtdmagjelmhcemaaFacts
import Derived.Test.YtdmagjelmhcemaaB
import Derived.Test.YtdmagjelmhcemaaTextLaw
import Derived.Test.YtdmagjelmhcemaaTextLaw2
import Derived.KernelRfl
import Derived.Test.YtdmagjelmhcemaaTexts1
namespace Go.Proofs.Ytdmagjelmhcemaa
open Go.RowKit
set_option linter.unusedVariables false
set_option linter.unusedSimpArgs false

set_option maxHeartbeats 400000 in
theorem base64_any (l : List UInt8) (n : Nat) (hn : l.length = n) (p : Option Addr) (c : Nat) (hp : p = none → l.length = 0) (hc : p = none → c = 0) (hlc : l.length ≤ c) (hl : l.length ≤ 1048576) (w : World) (hS : Sl w p (l.map vb)) :
    Calls Try.prog 14 #[slv p n c] w fun e w' => e = .returned (.string (bs (base64Of l))) ∧ Below w.heap.size w w' := by
  subst hn
  have hne : p = none → l.length = 0 ∧ c = 0 := fun h => ⟨hp h, hc h⟩
  refine calls_enter (n := 52) (hs := []) (M := []) (vs := [slv p l.length c]) Try.func14 rfl rfl rfl (Hp.start w) ?_
  refine hl_seq ?_
  refine hl_region ?_
  refine ho_val rfl rfl (ex_assign rfl) ?_
  refine ho_nil ?_
  refine hk_then_code ?_
  refine hl_seq ?_
  refine hl_region ?_
  refine ho_val rfl rfl (ex_assign rfl) ?_
  refine ho_nil ?_
  refine hk_then_code ?_
  refine hl_seq ?_
  refine hl_block ?_
  refine hl_nil_block 5 ?_
  refine hl_loop (G := Nat × Option Addr × Nat × Option Nat × Nat × List Value) (fun g => l.length - 3 * g.1) (fun g => 3 * g.1 ≤ l.length + 2 ∧ RowOk 1 g.2.2.2.1 (4 * g.1) g.2.2.2.2.1 ((b64To l g.1).map vb) g.2.2.2.2.2 ∧ (g.2.1 = none → l.length - 3 * g.1 = 0 ∧ g.2.2.1 = 0) ∧ l.length - 3 * g.1 ≤ g.2.2.1 ∧ Sl w g.2.1 ((l.drop (3 * g.1)).map vb)) (fun g => [(0, slv g.2.1 (l.length - 3 * g.1) g.2.2.1), (3, rowv g.2.2.2.1 (4 * g.1) g.2.2.2.2.1)]) (fun g => [⟨g.2.2.2.1, ((b64To l g.1).map vb ++ g.2.2.2.2.2).toArray, 5, (0, 0)⟩]) (0, p, c, none, 0, []) ⟨by omega, RowOk.start _, hne, hlc, hS⟩ ⟨rfl, rfl, trivial⟩ _ (by decide) (.cons 0 rfl .nil) (fun g ⟨hg, hok, hqn, hqc, hq⟩ => ?_)
  refine hl_seq ?_
  refine hl_seq ?_
  refine hl_region ?_
  refine ho_val rfl rfl (ex_move rfl) ?_
  refine ho_val rfl rfl (ex_len_slice rfl Try.underlying28) ?_
  refine ho_val rfl rfl (ex_gtr rfl rfl rfl) ?_
  refine ho_nil ?_
  refine hk_then_code ?_
  refine hl_if rfl (fun hc0 => ?_) (fun hc0 => ?_)
  · try simp only [decide_eq_true_eq, decide_eq_false_iff_not, beq_iff_eq, beq_eq_false_iff_ne, bne_iff_ne, bne_eq_false_iff_eq, ne_eq, Int.not_lt, Int.not_le, gt_iff_lt, ge_iff_le] at hc0
    have hk : 3 * g.1 < l.length := by omega
    refine hl_skip ?_
    refine hk_then_code ?_
    refine hl_block ?_
    refine hl_seq ?_
    refine hl_region ?_
    refine ho_do rfl rfl (exw_alloc_cs (z := .agg (vbs (List.replicate 3 0))) (vbs (List.replicate 3 0)) (by kernel_rfl) rfl) (fun b4 hb4 => ?_)
    refine ho_nil ?_
    refine hk_then_code ?_
    refine hl_seq ?_
    refine hl_region ?_
    refine ho_val rfl rfl (ex_slice_arr rfl Try.underlying52 _ size5) ?_
    refine ho_val rfl rfl (ex_move rfl) ?_
    refine ho_do rfl rfl (exw_copy0 rfl rfl (fun w' hw' => by have := (hq.old0 hw').take 3; rw [← List.map_take] at this; exact this) (by rw [List.length_map, List.length_take, List.length_drop]; exact Nat.min_comm _ _) (map_vb_one _) Try.underlying28 size5 (by simp [vbs_size]; omega) hqn (show _ = min (l.length - 3 * g.1) 3 by rw [List.length_map, List.length_take, List.length_drop]; exact Nat.min_comm _ _) (copy3 _)) (fun _ _ => ?_)
    refine ho_val rfl rfl (ex_assign rfl) ?_
    refine ho_nil ?_
    refine hk_then_code ?_
    refine hl_seq ?_
    refine hl_region ?_
    refine ho_val rfl rfl (ex_move rfl) ?_
    refine ho_val rfl rfl (ex_move rfl) ?_
    refine ho_val rfl rfl (ex_slice_lo rfl rfl Try.underlying28 _ size5 (by omega) (by omega)) ?_
    refine ho_val rfl rfl (ex_assign rfl) ?_
    refine ho_nil ?_
    refine hk_then_code ?_
    refine hl_seq ?_
    refine hl_region ?_
    refine ho_val rfl rfl (ex_addr_arr0 (k := 0) rfl rfl Try.underlying52 size5 (by decide)) ?_
    refine ho_val rfl rfl (ex_load rfl 0 rfl rfl (vbs_getD _ _ (by simp only [List.length_cons, List.length_nil]; omega)) Try.underlying5 rfl) ?_
    refine ho_val rfl rfl (ex_convN rfl Try.underlying5 Try.underlying3 (by exact Nat.lt_trans (UInt8.toNat_lt _) (by decide))) ?_
    refine ho_val rfl rfl (ex_shlN (q := 16) rfl rfl (by decide) (by have := UInt8.toNat_lt (List.getD [(l.drop (3 * g.1)).getD 0 0, (l.drop (3 * g.1)).getD 1 0, (l.drop (3 * g.1)).getD 2 0] 0 0); simp only [cap]; omega)) ?_
    refine ho_val rfl rfl (ex_addr_arr0 (k := 1) rfl rfl Try.underlying52 size5 (by decide)) ?_
    refine ho_val rfl rfl (ex_load rfl 0 rfl rfl (vbs_getD _ _ (by simp only [List.length_cons, List.length_nil]; omega)) Try.underlying5 rfl) ?_
    refine ho_val rfl rfl (ex_convN rfl Try.underlying5 Try.underlying3 (by exact Nat.lt_trans (UInt8.toNat_lt _) (by decide))) ?_
    refine ho_val rfl rfl (ex_shlN (q := 8) rfl rfl (by decide) (by have := UInt8.toNat_lt (List.getD [(l.drop (3 * g.1)).getD 0 0, (l.drop (3 * g.1)).getD 1 0, (l.drop (3 * g.1)).getD 2 0] 1 0); simp only [cap]; omega)) ?_
    refine ho_val rfl rfl (ex_orN rfl rfl (by have := UInt8.toNat_lt ((l.drop (3 * g.1)).getD 0 0); show ((l.drop (3 * g.1)).getD 0 0).toNat * 2 ^ 16 < _; simp only [cap]; omega) (by have := UInt8.toNat_lt ((l.drop (3 * g.1)).getD 1 0); show ((l.drop (3 * g.1)).getD 1 0).toNat * 2 ^ 8 < _; simp only [cap]; omega)) ?_
    refine ho_val rfl rfl (ex_addr_arr0 (k := 2) rfl rfl Try.underlying52 size5 (by decide)) ?_
    refine ho_val rfl rfl (ex_load rfl 0 rfl rfl (vbs_getD _ _ (by simp only [List.length_cons, List.length_nil]; omega)) Try.underlying5 rfl) ?_
    refine ho_val rfl rfl (ex_convN rfl Try.underlying5 Try.underlying3 (by exact Nat.lt_trans (UInt8.toNat_lt _) (by decide))) ?_
    refine ho_val rfl rfl (ex_orN rfl rfl (Nat.or_lt_two_pow (n := 63) (by have := UInt8.toNat_lt ((l.drop (3 * g.1)).getD 0 0); show ((l.drop (3 * g.1)).getD 0 0).toNat * 2 ^ 16 < _; omega) (by have := UInt8.toNat_lt ((l.drop (3 * g.1)).getD 1 0); show ((l.drop (3 * g.1)).getD 1 0).toNat * 2 ^ 8 < _; omega)) (by exact Nat.lt_trans (UInt8.toNat_lt _) (by decide))) ?_
    refine ho_val rfl rfl (ex_assign rfl) ?_
    refine ho_nil ?_
    refine hk_then_code ?_
    refine hl_seq ?_
    refine hl_region ?_
    refine ho_val rfl rfl (ex_move rfl) ?_
    refine ho_nil ?_
    refine hk_then_code ?_
    refine hl_block ?_
    refine hl_loop (G := Nat × Option Nat × Nat × List Value) (fun j => 4 - j.1) (fun j => j.1 ≤ 4 ∧ RowOk 1 j.2.1 (4 * g.1 + j.1) j.2.2.1 ((b64To l g.1 ++ encTo (l.drop (3 * g.1)) (min (l.length - 3 * g.1) 3) j.1).map vb) j.2.2.2) (fun j => [(0, slv (cut g.2.1 g.2.2.1 (min (l.length - 3 * g.1) 3) 1) (l.length - 3 * g.1 - (min (l.length - 3 * g.1) 3)) (g.2.2.1 - (min (l.length - 3 * g.1) 3))), (3, rowv j.2.1 (4 * g.1 + j.1) j.2.2.1), (5, .int .i64 (min (l.length - 3 * g.1) 3 : Nat)), (6, .int .i64 (three (l.drop (3 * g.1)) : Nat)), (30, .int .i64 (j.1 : Nat))]) (fun j => [⟨j.2.1, ((b64To l g.1 ++ encTo (l.drop (3 * g.1)) (min (l.length - 3 * g.1) 3) j.1).map vb ++ j.2.2.2).toArray, 5, (0, 0)⟩]) (0, g.2.2.2.1, g.2.2.2.2.1, g.2.2.2.2.2) ⟨Nat.zero_le _, by simpa [encTo] using hok⟩ ⟨rfl, rfl, rfl, (by unfold three; rw [← three_or _ _ _ (UInt8.toNat_lt _) (UInt8.toNat_lt _)]; rfl), rfl, trivial⟩ _ (by decide) (.cons 1 (by simp [encTo]) .nil) (fun j ⟨hj, hjk⟩ => ?_)
    refine hl_seq ?_
    refine hl_region ?_
    refine ho_val rfl rfl (ex_lss rfl rfl rfl) ?_
    refine ho_nil ?_
    refine hk_then_code ?_
    refine hl_seq ?_
    refine hl_if rfl (fun hc1 => ?_) (fun hc1 => ?_)
    · try simp only [decide_eq_true_eq, decide_eq_false_iff_not, beq_iff_eq, beq_eq_false_iff_ne, bne_iff_ne, bne_eq_false_iff_eq, ne_eq, Int.not_lt, Int.not_le, gt_iff_lt, ge_iff_le] at hc1
      have hj5 : j.1 < 4 := by omega
      refine hl_skip ?_
      refine hk_then_code ?_
      refine hl_seq ?_
      refine hl_block ?_
      refine hl_seq ?_
      refine hl_region ?_
      refine ho_val rfl rfl (ex_move rfl) ?_
      refine ho_val rfl rfl (ex_assign rfl) ?_
      refine ho_nil ?_
      refine hk_then_code ?_
      refine hl_seq ?_
      refine hl_seq ?_
      refine hl_region ?_
      refine ho_val rfl rfl (ex_move rfl) ?_
      refine ho_val rfl rfl (ex_move rfl) ?_
      refine ho_val rfl rfl (ex_gtr rfl rfl rfl) ?_
      refine ho_nil ?_
      refine hk_then_code ?_
      refine hl_if rfl (fun hc2 => ?_) (fun hc2 => ?_)
      · try simp only [decide_eq_true_eq, decide_eq_false_iff_not, beq_iff_eq, beq_eq_false_iff_ne, bne_iff_ne, bne_eq_false_iff_eq, ne_eq, Int.not_lt, Int.not_le, gt_iff_lt, ge_iff_le] at hc2
        have hjp : min (l.length - 3 * g.1) 3 < j.1 := by omega
        refine hl_seq ?_
        refine hl_region ?_
        refine ho_val rfl rfl (ex_move rfl) ?_
        refine ho_do rfl rfl (exw_list (xs := [.const (.int .u8 61)]) rfl rfl rfl Try.underlying28 info5 rfl rfl (by decide)) (fun b37 hb37 => ?_)
        refine ho_pick _ (by decide) (.cons 1 rfl (.cons 0 rfl .nil)) ?_
        refine ho_do rfl rfl (exw_append0 (xs := (b64To l g.1 ++ encTo (l.drop (3 * g.1)) (min (l.length - 3 * g.1) 3) j.1).map vb) (rest := j.2.2.2) rfl rfl rfl hjk (fun w hw => Sl.ownAll hw 1 rfl) rfl (by simp only [List.mem_cons, List.not_mem_nil, or_false, forall_eq]; rfl) Try.underlying28 info5 rfl (by decide) (by omega) (by simp only [maxLen]; omega) (fun h => nomatch h)) (fun y38 hk38 => ?_)
        refine ho_val rfl rfl (ex_assign rfl) ?_
        refine ho_nil ?_
        refine hk_then_code ?_
        refine hl_exit ?_
        refine hk_then_exit ?_
        refine hk_block_hit ?_
        refine hk_then_code ?_
        refine hl_region ?_
        refine ho_val rfl rfl (ex_addN (q := 1) rfl rfl (by omega)) ?_
        refine ho_val rfl rfl (ex_move rfl) ?_
        refine ho_nil ?_
        refine hk_then_normal ?_
        exact hk_round (j.1 + 1, y38.1, y38.2.1, y38.2.2) ⟨by dsimp only; omega, by rw [← enc_pad l (l.drop (3 * g.1)) g.1 (min (l.length - 3 * g.1) 3) j.1 hjp]; exact hk38⟩ (by dsimp only; omega) ⟨rfl, rfl, rfl, rfl, rfl, trivial⟩ _ (by decide) (.cons 0 (by rw [← enc_pad l (l.drop (3 * g.1)) g.1 (min (l.length - 3 * g.1) 3) j.1 hjp]; rfl) .nil)
      · try simp only [decide_eq_true_eq, decide_eq_false_iff_not, beq_iff_eq, beq_eq_false_iff_ne, bne_iff_ne, bne_eq_false_iff_eq, ne_eq, Int.not_lt, Int.not_le, gt_iff_lt, ge_iff_le] at hc2
        have hjp : ¬ min (l.length - 3 * g.1) 3 < j.1 := by omega
        refine hl_skip ?_
        refine hk_then_code ?_
        refine hl_region ?_
        refine ho_val rfl rfl (ex_move rfl) ?_
        refine ho_val rfl rfl (ex_move rfl) ?_
        refine ho_val rfl rfl (ex_move rfl) ?_
        refine ho_val rfl rfl (ex_mulN (p := 6) rfl rfl (by omega)) ?_
        refine ho_val rfl rfl (ex_subN (p := 18) rfl rfl (by omega) (by omega)) ?_
        refine ho_val rfl rfl (ex_shrN rfl rfl (by have := three_lt (l.drop (3 * g.1)); simp only [cap]; omega)) ?_
        refine ho_val rfl rfl (ex_andN (q := 63) rfl rfl (Nat.lt_of_le_of_lt (Nat.div_le_self _ _) (by have := three_lt (l.drop (3 * g.1)); simp only [cap]; omega)) (by decide)) ?_
        refine ho_val rfl rfl (ex_index_str rfl rfl Try.underlying9 (by rw [and63]; simp only [List.length_cons, List.length_nil]; exact Nat.mod_lt _ (by decide))) ?_
        refine ho_do rfl rfl (exw_list (xs := [.tmp 46]) rfl rfl rfl Try.underlying28 info5 rfl rfl (by decide)) (fun b47 hb47 => ?_)
        refine ho_pick _ (by decide) (.cons 1 rfl (.cons 0 rfl .nil)) ?_
        refine ho_do rfl rfl (exw_append0 (xs := (b64To l g.1 ++ encTo (l.drop (3 * g.1)) (min (l.length - 3 * g.1) 3) j.1).map vb) (rest := j.2.2.2) rfl rfl rfl hjk (fun w hw => Sl.ownAll hw 1 rfl) rfl (by simp only [List.mem_cons, List.not_mem_nil, or_false, forall_eq]; rfl) Try.underlying28 info5 rfl (by decide) (by omega) (by simp only [maxLen]; omega) (fun h => nomatch h)) (fun y48 hk48 => ?_)
        refine ho_val rfl rfl (ex_assign rfl) ?_
        refine ho_nil ?_
        refine hk_block_normal ?_
        refine hk_then_code ?_
        refine hl_region ?_
        refine ho_val rfl rfl (ex_addN (q := 1) rfl rfl (by omega)) ?_
        refine ho_val rfl rfl (ex_move rfl) ?_
        refine ho_nil ?_
        refine hk_then_normal ?_
        exact hk_round (j.1 + 1, y48.1, y48.2.1, y48.2.2) ⟨by dsimp only; omega, by rw [← enc_dig l (l.drop (3 * g.1)) g.1 (min (l.length - 3 * g.1) 3) j.1 hjp]; exact hk48⟩ (by dsimp only; omega) ⟨rfl, rfl, rfl, rfl, rfl, trivial⟩ _ (by decide) (.cons 0 (by rw [← enc_dig l (l.drop (3 * g.1)) g.1 (min (l.length - 3 * g.1) 3) j.1 hjp]; rfl) .nil)
    · try simp only [decide_eq_true_eq, decide_eq_false_iff_not, beq_iff_eq, beq_eq_false_iff_ne, bne_iff_ne, bne_eq_false_iff_eq, ne_eq, Int.not_lt, Int.not_le, gt_iff_lt, ge_iff_le] at hc1
      have hj4 : j.1 = 4 := by omega
      have hjk' := hjk
      rw [hj4] at hjk'
      refine hl_exit ?_
      refine hk_then_exit ?_
      refine hk_then_exit ?_
      refine hk_block_hit ?_
      refine hk_block_normal ?_
      refine hk_then_normal ?_
      exact hk_round (g.1 + 1, cut g.2.1 g.2.2.1 (min (l.length - 3 * g.1) 3) 1, g.2.2.1 - (min (l.length - 3 * g.1) 3), j.2.1, j.2.2.1, j.2.2.2) ⟨by dsimp only; omega, hjk', fun h => by have := hqn (cut_none h); dsimp only; omega, by dsimp only; omega, chunk_sl hq rfl hqc⟩ (by dsimp only; omega) ⟨(by rw [show l.length - 3 * (g.1 + 1) = l.length - 3 * g.1 - (min (l.length - 3 * g.1) 3) by omega]; rfl), (by rw [hj4]; rfl), trivial⟩ _ (by decide) (.cons 0 (by rw [hj4]; rfl) .nil)
  · try simp only [decide_eq_true_eq, decide_eq_false_iff_not, beq_iff_eq, beq_eq_false_iff_ne, bne_iff_ne, bne_eq_false_iff_eq, ne_eq, Int.not_lt, Int.not_le, gt_iff_lt, ge_iff_le] at hc0
    have hi : g.1 = (l.length + 2) / 3 := by omega
    refine hl_exit ?_
    refine hk_then_exit ?_
    refine hk_then_exit ?_
    refine hk_block_hit ?_
    refine hk_then_code ?_
    refine hl_seq ?_
    refine hl_region ?_
    refine ho_val rfl rfl (ex_move rfl) ?_
    refine ho_val rfl rfl (ex_conv_bytes rfl (fun w hw => Sl.ownRow hw 0 rfl (fun h => RowOk.empty hok h)) (by rw [b64To_length]) Try.underlying28 Try.underlying5 Try.underlying9) ?_
    refine ho_val rfl rfl (ex_assign rfl) ?_
    refine ho_nil ?_
    refine hk_then_code ?_
    refine hl_ret ?_
    exact hk_ret rfl rfl (fun w' hw' => ⟨by rw [hi]; rfl, hw'.below⟩)

set_option maxHeartbeats 400000 in
theorem refbase64_any (l : List UInt8) (n : Nat) (hn : l.length = n) (p : Option Addr) (c : Nat) (hp : p = none → l.length = 0) (hl : l.length ≤ 1048576) (w : World) (hS : Sl w p (l.map vb)) :
    Calls Try.prog 15 #[slv p n c] w fun e w' => e = .returned (.string (bs (base64Of l))) ∧ Below w.heap.size w w' := by
  subst hn
  refine calls_enter (n := 61) (hs := []) (M := []) (vs := [slv p l.length c]) Try.func15 rfl rfl rfl (Hp.start w) ?_
  refine hl_seq ?_
  refine hl_region ?_
  refine ho_val rfl rfl (ex_assign rfl) ?_
  refine ho_nil ?_
  refine hk_then_code ?_
  refine hl_seq ?_
  refine hl_region ?_
  refine ho_val rfl rfl (ex_assign rfl) ?_
  refine ho_nil ?_
  refine hk_then_code ?_
  refine hl_seq ?_
  refine hl_seq ?_
  refine hl_region ?_
  refine ho_val rfl rfl (ex_assign rfl) ?_
  refine ho_nil ?_
  refine hk_then_code ?_
  refine hl_block ?_
  refine hl_nil_block 5 ?_
  refine hl_loop (G := Nat × Option Nat × Nat × List Value) (fun g => l.length - 3 * g.1) (fun g => 3 * g.1 ≤ l.length + 2 ∧ RowOk 1 g.2.1 (4 * g.1) g.2.2.1 ((b64To l g.1).map vb) g.2.2.2) (fun g => [(0, slv p l.length c), (3, rowv g.2.1 (4 * g.1) g.2.2.1), (4, .int .i64 (3 * g.1 : Nat))]) (fun g => [⟨g.2.1, ((b64To l g.1).map vb ++ g.2.2.2).toArray, 5, (0, 0)⟩]) (0, none, 0, []) ⟨by omega, RowOk.start _⟩ ⟨rfl, rfl, rfl, trivial⟩ _ (by decide) (.cons 0 rfl .nil) (fun g ⟨hg, hok⟩ => ?_)
  refine hl_seq ?_
  refine hl_seq ?_
  refine hl_region ?_
  refine ho_val rfl rfl (ex_move rfl) ?_
  refine ho_val rfl rfl (ex_move rfl) ?_
  refine ho_val rfl rfl (ex_len_slice rfl Try.underlying28) ?_
  refine ho_val rfl rfl (ex_lss rfl rfl rfl) ?_
  refine ho_nil ?_
  refine hk_then_code ?_
  refine hl_if rfl (fun hc0 => ?_) (fun hc0 => ?_)
  · try simp only [decide_eq_true_eq, decide_eq_false_iff_not, beq_iff_eq, beq_eq_false_iff_ne, bne_iff_ne, bne_eq_false_iff_eq, ne_eq, Int.not_lt, Int.not_le, gt_iff_lt, ge_iff_le] at hc0
    have hk : 3 * g.1 < l.length := by omega
    refine hl_skip ?_
    refine hk_then_code ?_
    refine hl_seq ?_
    refine hl_block ?_
    refine hl_seq ?_
    refine hl_region ?_
    refine ho_val rfl rfl (ex_assign rfl) ?_
    refine ho_nil ?_
    refine hk_then_code ?_
    refine hl_seq ?_
    refine hl_region ?_
    refine ho_val rfl rfl (ex_assign rfl) ?_
    refine ho_nil ?_
    refine hk_then_code ?_
    refine hl_seq ?_
    refine hl_seq ?_
    refine hl_region ?_
    refine ho_val rfl rfl (ex_assign rfl) ?_
    refine ho_nil ?_
    refine hk_then_code ?_
    refine hl_block ?_
    refine hl_loop (G := Nat) (fun v => 3 - v) (fun v => v ≤ 3) (fun v => [(0, slv p l.length c), (3, rowv g.2.1 (4 * g.1) g.2.2.1), (4, .int .i64 (3 * g.1 : Nat)), (5, .int .i64 (vTo (l.drop (3 * g.1)) v : Nat)), (6, .int .i64 (min (l.length - 3 * g.1) v : Nat)), (7, .int .i64 (v : Nat))]) (fun v => [⟨g.2.1, ((b64To l g.1).map vb ++ g.2.2.2).toArray, 5, (0, 0)⟩]) 0 (by omega) ⟨rfl, rfl, rfl, rfl, (by rw [Nat.min_zero]; rfl), rfl, trivial⟩ _ (by decide) (.cons 0 rfl .nil) (fun v hv => ?_)
    refine hl_seq ?_
    refine hl_seq ?_
    refine hl_region ?_
    refine ho_val rfl rfl (ex_move rfl) ?_
    refine ho_val rfl rfl (ex_lss rfl rfl rfl) ?_
    refine ho_nil ?_
    refine hk_then_code ?_
    refine hl_if rfl (fun hc1 => ?_) (fun hc1 => ?_)
    · try simp only [decide_eq_true_eq, decide_eq_false_iff_not, beq_iff_eq, beq_eq_false_iff_ne, bne_iff_ne, bne_eq_false_iff_eq, ne_eq, Int.not_lt, Int.not_le, gt_iff_lt, ge_iff_le] at hc1
      have hv5 : v < 3 := by omega
      refine hl_skip ?_
      refine hk_then_code ?_
      refine hl_seq ?_
      refine hl_block ?_
      refine hl_seq ?_
      have hv3 := vTo_lt (l.drop (3 * g.1)) v
      have hv4 : 256 ^ v ≤ 65536 := by simpa using Nat.pow_le_pow_right (n := 256) (by decide) (show v ≤ 2 by omega)
      refine hl_region ?_
      refine ho_val rfl rfl (ex_move rfl) ?_
      refine ho_val rfl rfl (ex_mulN (q := 256) rfl rfl (by omega)) ?_
      refine ho_val rfl rfl (ex_assign rfl) ?_
      refine ho_nil ?_
      refine hk_then_code ?_
      refine hl_seq ?_
      have hv3 := vTo_lt (l.drop (3 * g.1)) v
      have hv4 : 256 ^ v ≤ 65536 := by simpa using Nat.pow_le_pow_right (n := 256) (by decide) (show v ≤ 2 by omega)
      refine hl_region ?_
      refine ho_val rfl rfl (ex_move rfl) ?_
      refine ho_val rfl rfl (ex_move rfl) ?_
      refine ho_val rfl rfl (ex_addN rfl rfl (by omega)) ?_
      refine ho_val rfl rfl (ex_move rfl) ?_
      refine ho_val rfl rfl (ex_len_slice rfl Try.underlying28) ?_
      refine ho_val rfl rfl (ex_lss rfl rfl rfl) ?_
      refine ho_nil ?_
      refine hk_then_code ?_
      refine hl_if rfl (fun hc2 => ?_) (fun hc2 => ?_)
      · try simp only [decide_eq_true_eq, decide_eq_false_iff_not, beq_iff_eq, beq_eq_false_iff_ne, bne_iff_ne, bne_eq_false_iff_eq, ne_eq, Int.not_lt, Int.not_le, gt_iff_lt, ge_iff_le] at hc2
        refine hl_seq ?_
        refine hl_region ?_
        refine ho_val rfl rfl (ex_move rfl) ?_
        refine ho_val rfl rfl (ex_move rfl) ?_
        refine ho_val rfl rfl (ex_move rfl) ?_
        refine ho_val rfl rfl (ex_move rfl) ?_
        refine ho_val rfl rfl (ex_addN rfl rfl (by omega)) ?_
        refine ho_val rfl rfl (ex_addr_sl1 rfl rfl Try.underlying28 size5 (by omega) hp) ?_
        refine ho_val rfl rfl (ex_load_sl rfl (fun w' hw' => hS.old0 hw') (map_vb_get _ _ (by omega)) Try.underlying5 rfl) ?_
        refine ho_val rfl rfl (ex_convN rfl Try.underlying5 Try.underlying3 (by exact Nat.lt_trans (UInt8.toNat_lt _) (by decide))) ?_
        refine ho_val rfl rfl (ex_addN rfl rfl (by have := UInt8.toNat_lt (l.getD (3 * g.1 + v) 0); omega)) ?_
        refine ho_val rfl rfl (ex_assign rfl) ?_
        refine ho_nil ?_
        refine hk_then_code ?_
        refine hl_region ?_
        refine ho_val rfl rfl (ex_move rfl) ?_
        refine ho_val rfl rfl (ex_addN (q := 1) rfl rfl (by omega)) ?_
        refine ho_val rfl rfl (ex_assign rfl) ?_
        refine ho_nil ?_
        refine hk_block_normal ?_
        refine hk_then_code ?_
        refine hl_region ?_
        refine ho_val rfl rfl (ex_move rfl) ?_
        refine ho_val rfl rfl (ex_addN (q := 1) rfl rfl (by omega)) ?_
        refine ho_val rfl rfl (ex_assign rfl) ?_
        refine ho_nil ?_
        refine hk_then_normal ?_
        exact hk_round (v + 1) (by omega) (by omega) ⟨rfl, rfl, rfl, (by rw [vTo, drop_getD]; rfl), (by rw [show min (l.length - 3 * g.1) (v + 1) = min (l.length - 3 * g.1) v + 1 by omega]; rfl), rfl, trivial⟩ _ (by decide) (.cons 0 rfl .nil)
      · try simp only [decide_eq_true_eq, decide_eq_false_iff_not, beq_iff_eq, beq_eq_false_iff_ne, bne_iff_ne, bne_eq_false_iff_eq, ne_eq, Int.not_lt, Int.not_le, gt_iff_lt, ge_iff_le] at hc2
        refine hl_skip ?_
        refine hk_block_normal ?_
        refine hk_then_code ?_
        refine hl_region ?_
        refine ho_val rfl rfl (ex_move rfl) ?_
        refine ho_val rfl rfl (ex_addN (q := 1) rfl rfl (by omega)) ?_
        refine ho_val rfl rfl (ex_assign rfl) ?_
        refine ho_nil ?_
        refine hk_then_normal ?_
        exact hk_round (v + 1) (by omega) (by omega) ⟨rfl, rfl, rfl, (by rw [vTo_none l _ v (by omega)]; rfl), (by rw [show min (l.length - 3 * g.1) (v + 1) = min (l.length - 3 * g.1) v by omega]; rfl), rfl, trivial⟩ _ (by decide) (.cons 0 rfl .nil)
    · try simp only [decide_eq_true_eq, decide_eq_false_iff_not, beq_iff_eq, beq_eq_false_iff_ne, bne_iff_ne, bne_eq_false_iff_eq, ne_eq, Int.not_lt, Int.not_le, gt_iff_lt, ge_iff_le] at hc1
      obtain rfl : v = 3 := by omega
      refine hl_exit ?_
      refine hk_then_exit ?_
      refine hk_then_exit ?_
      refine hk_block_hit ?_
      refine hk_then_code ?_
      refine hl_seq ?_
      refine hl_region ?_
      refine ho_val rfl rfl (ex_assign rfl) ?_
      refine ho_nil ?_
      refine hk_then_code ?_
      refine hl_block ?_
      refine hl_loop (G := Nat × Option Nat × Nat × List Value) (fun j => 4 - j.1) (fun j => j.1 ≤ 4 ∧ RowOk 1 j.2.1 (4 * g.1 + j.1) j.2.2.1 ((b64To l g.1 ++ encTo (l.drop (3 * g.1)) (min (l.length - 3 * g.1) 3) j.1).map vb) j.2.2.2) (fun j => [(0, slv p l.length c), (3, rowv j.2.1 (4 * g.1 + j.1) j.2.2.1), (4, .int .i64 (3 * g.1 : Nat)), (5, .int .i64 (three (l.drop (3 * g.1)) : Nat)), (6, .int .i64 (min (l.length - 3 * g.1) 3 : Nat)), (8, .int .i64 (j.1 : Nat))]) (fun j => [⟨j.2.1, ((b64To l g.1 ++ encTo (l.drop (3 * g.1)) (min (l.length - 3 * g.1) 3) j.1).map vb ++ j.2.2.2).toArray, 5, (0, 0)⟩]) (0, g.2.1, g.2.2.1, g.2.2.2) ⟨Nat.zero_le _, by simpa [encTo] using hok⟩ ⟨rfl, rfl, rfl, (by rw [← vTo_three]; rfl), rfl, rfl, trivial⟩ _ (by decide) (.cons 0 (by simp [encTo]) .nil) (fun j ⟨hj, hjk⟩ => ?_)
      refine hl_seq ?_
      refine hl_seq ?_
      refine hl_region ?_
      refine ho_val rfl rfl (ex_move rfl) ?_
      refine ho_val rfl rfl (ex_lss rfl rfl rfl) ?_
      refine ho_nil ?_
      refine hk_then_code ?_
      refine hl_if rfl (fun hc3 => ?_) (fun hc3 => ?_)
      · try simp only [decide_eq_true_eq, decide_eq_false_iff_not, beq_iff_eq, beq_eq_false_iff_ne, bne_iff_ne, bne_eq_false_iff_eq, ne_eq, Int.not_lt, Int.not_le, gt_iff_lt, ge_iff_le] at hc3
        have hj5 : j.1 < 4 := by omega
        refine hl_skip ?_
        refine hk_then_code ?_
        refine hl_seq ?_
        refine hl_block ?_
        refine hl_seq ?_
        refine hl_region ?_
        refine ho_val rfl rfl (ex_move rfl) ?_
        refine ho_val rfl rfl (ex_move rfl) ?_
        refine ho_val rfl rfl (ex_leq rfl rfl rfl) ?_
        refine ho_nil ?_
        refine hk_then_code ?_
        refine hl_if rfl (fun hc4 => ?_) (fun hc4 => ?_)
        · try simp only [decide_eq_true_eq, decide_eq_false_iff_not, beq_iff_eq, beq_eq_false_iff_ne, bne_iff_ne, bne_eq_false_iff_eq, ne_eq, Int.not_lt, Int.not_le, gt_iff_lt, ge_iff_le] at hc4
          have hjp : ¬ min (l.length - 3 * g.1) 3 < j.1 := by omega
          refine hl_region ?_
          refine ho_val rfl rfl (ex_move rfl) ?_
          refine ho_val rfl rfl (ex_move rfl) ?_
          refine ho_val rfl rfl (ex_move rfl) ?_
          refine ho_val rfl rfl (ex_mulN (p := 6) rfl rfl (by omega)) ?_
          refine ho_val rfl rfl (ex_subN (p := 18) rfl rfl (by omega) (by omega)) ?_
          refine ho_val rfl rfl (ex_convN rfl Try.underlying3 Try.underlying50 (by simp only [cap]; omega)) ?_
          refine ho_val rfl rfl (ex_shrN rfl rfl (by have := three_lt (l.drop (3 * g.1)); simp only [cap]; omega)) ?_
          refine ho_val rfl rfl (ex_andN (q := 63) rfl rfl (Nat.lt_of_le_of_lt (Nat.div_le_self _ _) (by have := three_lt (l.drop (3 * g.1)); simp only [cap]; omega)) (by decide)) ?_
          refine ho_val rfl rfl (ex_index_str rfl rfl Try.underlying9 (by rw [and63]; simp only [List.length_cons, List.length_nil]; exact Nat.mod_lt _ (by decide))) ?_
          refine ho_do rfl rfl (exw_list (xs := [.tmp 53]) rfl rfl rfl Try.underlying28 info5 rfl rfl (by decide)) (fun b54 hb54 => ?_)
          refine ho_pick _ (by decide) (.cons 1 rfl (.cons 0 rfl .nil)) ?_
          refine ho_do rfl rfl (exw_append0 (xs := (b64To l g.1 ++ encTo (l.drop (3 * g.1)) (min (l.length - 3 * g.1) 3) j.1).map vb) (rest := j.2.2.2) rfl rfl rfl hjk (fun w hw => Sl.ownAll hw 1 rfl) rfl (by simp only [List.mem_cons, List.not_mem_nil, or_false, forall_eq]; rfl) Try.underlying28 info5 rfl (by decide) (by omega) (by simp only [maxLen]; omega) (fun h => nomatch h)) (fun y55 hk55 => ?_)
          refine ho_val rfl rfl (ex_assign rfl) ?_
          refine ho_nil ?_
          refine hk_block_normal ?_
          refine hk_then_code ?_
          refine hl_region ?_
          refine ho_val rfl rfl (ex_move rfl) ?_
          refine ho_val rfl rfl (ex_addN (q := 1) rfl rfl (by omega)) ?_
          refine ho_val rfl rfl (ex_assign rfl) ?_
          refine ho_nil ?_
          refine hk_then_normal ?_
          exact hk_round (j.1 + 1, y55.1, y55.2.1, y55.2.2) ⟨by dsimp only; omega, by rw [← enc_dig l (l.drop (3 * g.1)) g.1 (min (l.length - 3 * g.1) 3) j.1 hjp]; exact hk55⟩ (by dsimp only; omega) ⟨rfl, rfl, rfl, rfl, rfl, rfl, trivial⟩ _ (by decide) (.cons 0 (by rw [← enc_dig l (l.drop (3 * g.1)) g.1 (min (l.length - 3 * g.1) 3) j.1 hjp]; rfl) .nil)
        · try simp only [decide_eq_true_eq, decide_eq_false_iff_not, beq_iff_eq, beq_eq_false_iff_ne, bne_iff_ne, bne_eq_false_iff_eq, ne_eq, Int.not_lt, Int.not_le, gt_iff_lt, ge_iff_le] at hc4
          have hjp : min (l.length - 3 * g.1) 3 < j.1 := by omega
          refine hl_region ?_
          refine ho_val rfl rfl (ex_move rfl) ?_
          refine ho_do rfl rfl (exw_list (xs := [.const (.int .u8 61)]) rfl rfl rfl Try.underlying28 info5 rfl rfl (by decide)) (fun b57 hb57 => ?_)
          refine ho_pick _ (by decide) (.cons 1 rfl (.cons 0 rfl .nil)) ?_
          refine ho_do rfl rfl (exw_append0 (xs := (b64To l g.1 ++ encTo (l.drop (3 * g.1)) (min (l.length - 3 * g.1) 3) j.1).map vb) (rest := j.2.2.2) rfl rfl rfl hjk (fun w hw => Sl.ownAll hw 1 rfl) rfl (by simp only [List.mem_cons, List.not_mem_nil, or_false, forall_eq]; rfl) Try.underlying28 info5 rfl (by decide) (by omega) (by simp only [maxLen]; omega) (fun h => nomatch h)) (fun y58 hk58 => ?_)
          refine ho_val rfl rfl (ex_assign rfl) ?_
          refine ho_nil ?_
          refine hk_block_normal ?_
          refine hk_then_code ?_
          refine hl_region ?_
          refine ho_val rfl rfl (ex_move rfl) ?_
          refine ho_val rfl rfl (ex_addN (q := 1) rfl rfl (by omega)) ?_
          refine ho_val rfl rfl (ex_assign rfl) ?_
          refine ho_nil ?_
          refine hk_then_normal ?_
          exact hk_round (j.1 + 1, y58.1, y58.2.1, y58.2.2) ⟨by dsimp only; omega, by rw [← enc_pad l (l.drop (3 * g.1)) g.1 (min (l.length - 3 * g.1) 3) j.1 hjp]; exact hk58⟩ (by dsimp only; omega) ⟨rfl, rfl, rfl, rfl, rfl, rfl, trivial⟩ _ (by decide) (.cons 0 (by rw [← enc_pad l (l.drop (3 * g.1)) g.1 (min (l.length - 3 * g.1) 3) j.1 hjp]; rfl) .nil)
      · try simp only [decide_eq_true_eq, decide_eq_false_iff_not, beq_iff_eq, beq_eq_false_iff_ne, bne_iff_ne, bne_eq_false_iff_eq, ne_eq, Int.not_lt, Int.not_le, gt_iff_lt, ge_iff_le] at hc3
        have hj4 : j.1 = 4 := by omega
        have hjk' := hjk
        rw [hj4] at hjk'
        refine hl_exit ?_
        refine hk_then_exit ?_
        refine hk_then_exit ?_
        refine hk_block_hit ?_
        refine hk_block_normal ?_
        refine hk_then_code ?_
        refine hl_region ?_
        refine ho_val rfl rfl (ex_move rfl) ?_
        refine ho_val rfl rfl (ex_addN (q := 3) rfl rfl (by omega)) ?_
        refine ho_val rfl rfl (ex_assign rfl) ?_
        refine ho_nil ?_
        refine hk_then_normal ?_
        exact hk_round (g.1 + 1, j.2.1, j.2.2.1, j.2.2.2) ⟨by dsimp only; omega, hjk'⟩ (by dsimp only; omega) ⟨rfl, (by rw [hj4]; rfl), rfl, trivial⟩ _ (by decide) (.cons 0 (by rw [hj4]; rfl) .nil)
  · try simp only [decide_eq_true_eq, decide_eq_false_iff_not, beq_iff_eq, beq_eq_false_iff_ne, bne_iff_ne, bne_eq_false_iff_eq, ne_eq, Int.not_lt, Int.not_le, gt_iff_lt, ge_iff_le] at hc0
    have hi : g.1 = (l.length + 2) / 3 := by omega
    refine hl_exit ?_
    refine hk_then_exit ?_
    refine hk_then_exit ?_
    refine hk_block_hit ?_
    refine hk_then_code ?_
    refine hl_seq ?_
    refine hl_region ?_
    refine ho_val rfl rfl (ex_move rfl) ?_
    refine ho_val rfl rfl (ex_conv_bytes rfl (fun w hw => Sl.ownRow hw 0 rfl (fun h => RowOk.empty hok h)) (by rw [b64To_length]) Try.underlying28 Try.underlying5 Try.underlying9) ?_
    refine ho_val rfl rfl (ex_assign rfl) ?_
    refine ho_nil ?_
    refine hk_then_code ?_
    refine hl_ret ?_
    exact hk_ret rfl rfl (fun w' hw' => ⟨by rw [hi]; rfl, hw'.below⟩)

end Go.Proofs.Ytdmagjelmhcemaa
