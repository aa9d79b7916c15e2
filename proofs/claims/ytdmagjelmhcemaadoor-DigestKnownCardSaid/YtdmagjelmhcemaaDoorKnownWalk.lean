/- The law DigestKnown, walked. -/
import Derived.Test.YtdmagjelmhcemaaDoorNils
import Derived.Test.YtdmagjelmhcemaaDoorKnown
namespace Go.Proofs.YtdmagjelmhcemaaDoor
open Go.RowKit
set_option linter.unusedVariables false
set_option linter.unusedSimpArgs false

set_option maxHeartbeats 1600000 in
theorem known_law (w : World) (hH : Sl w (some (2, 0)) (tH.map vw)) (hK : Sl w (some (3, 0)) (tK.map vw)) :
    Calls Tryd.prog 9 #[] w fun e w' => e = .returned (.bool true) ∧ Below w.heap.size w w' := by
  refine calls_enter (n := 47) (hs := []) (M := []) (vs := []) Tryd.func9 rfl rfl rfl (Hp.start w) ?_
  refine hl_seq ?_
  refine hl_region ?_
  refine ho_val rfl rfl (ex_assign rfl) ?_
  refine ho_nil ?_
  refine hk_then_code ?_
  refine hl_seq ?_
  refine hl_region ?_
  refine ho_val rfl rfl (ex_assign rfl) ?_
  refine ho_nil ?_
  refine hk_then_code ?_
  refine hl_seq ?_
  refine hl_seq ?_
  refine hl_region ?_
  refine ho_val rfl rfl (ex_assign rfl) ?_
  refine ho_nil ?_
  refine hk_then_code ?_
  refine hl_block ?_
  refine hl_nil_block 5 ?_
  refine hl_loop (G := Nat × Option Nat × Nat × List Value) (fun g => 1000 - g.1) (fun g => g.1 ≤ 1000 ∧ RowOk 1 g.2.1 g.1 g.2.2.1 ((List.replicate g.1 (97 : UInt8)).map vb) g.2.2.2) (fun g => [(1, rowv g.2.1 g.1 g.2.2.1), (2, .int .i64 (g.1 : Nat))]) (fun g => [⟨g.2.1, ((List.replicate g.1 (97 : UInt8)).map vb ++ g.2.2.2).toArray, 5, (0, 0)⟩]) (0, none, 0, []) ⟨Nat.zero_le _, RowOk.start _⟩ ⟨rfl, rfl, trivial⟩ _ (by decide) (.cons 0 rfl .nil) (fun g ⟨hg, hok⟩ => ?_)
  refine hl_seq ?_
  refine hl_seq ?_
  refine hl_region ?_
  refine ho_val rfl rfl (ex_move rfl) ?_
  refine ho_val rfl rfl (ex_lss rfl rfl rfl) ?_
  refine ho_nil ?_
  refine hk_then_code ?_
  refine hl_if rfl (fun hc0 => ?_) (fun hc0 => ?_)
  · try simp only [decide_eq_true_eq, decide_eq_false_iff_not, beq_iff_eq, beq_eq_false_iff_ne, bne_iff_ne, bne_eq_false_iff_eq, ne_eq, Int.not_lt, Int.not_le, gt_iff_lt, ge_iff_le] at hc0
    refine hl_skip ?_
    refine hk_then_code ?_
    refine hl_seq ?_
    refine hl_block ?_
    refine hl_region ?_
    refine ho_val rfl rfl (ex_move rfl) ?_
    refine ho_do rfl rfl (exw_list (xs := [.const (.int .u8 97)]) rfl rfl rfl Tryd.underlying22 info5 rfl rfl (by decide)) (fun b10 hb10 => ?_)
    refine ho_pick _ (by decide) (.cons 1 rfl (.cons 0 rfl .nil)) ?_
    refine ho_do rfl rfl (exw_append0 (xs := (List.replicate g.1 (97 : UInt8)).map vb) (rest := g.2.2.2) rfl rfl rfl hok (fun w hw => Sl.ownAll hw 1 rfl) rfl (by simp only [List.mem_cons, List.not_mem_nil, or_false, forall_eq]; rfl) Tryd.underlying22 info5 rfl (by decide) (by omega) (by simp only [maxLen]; omega) (fun h => nomatch h)) (fun y11 hk11 => ?_)
    refine ho_val rfl rfl (ex_assign rfl) ?_
    refine ho_nil ?_
    refine hk_block_normal ?_
    refine hk_then_code ?_
    refine hl_region ?_
    refine ho_val rfl rfl (ex_move rfl) ?_
    refine ho_val rfl rfl (ex_addN (q := 1) rfl rfl (by omega)) ?_
    refine ho_val rfl rfl (ex_assign rfl) ?_
    refine ho_nil ?_
    refine hk_then_normal ?_
    exact hk_round (g.1 + 1, y11) ⟨by dsimp only; omega, by rw [List.replicate_succ', List.map_append]; exact hk11⟩ (by dsimp only; omega) ⟨rfl, rfl, trivial⟩ _ (by decide) (.cons 0 (by rw [List.replicate_succ', List.map_append]; rfl) .nil)
  · try simp only [decide_eq_true_eq, decide_eq_false_iff_not, beq_iff_eq, beq_eq_false_iff_ne, bne_iff_ne, bne_eq_false_iff_eq, ne_eq, Int.not_lt, Int.not_le, gt_iff_lt, ge_iff_le] at hc0
    have hk6 : g.1 = 1000 := by omega
    refine hl_exit ?_
    refine hk_then_exit ?_
    refine hk_then_exit ?_
    refine hk_block_hit ?_
    refine hk_then_code ?_
    refine hl_seq ?_
    refine hl_seq ?_
    refine hl_region ?_
    refine ho_do rfl rfl (exw_call_pure Tryd.func13 rfl (by kernel_rfl) rfl (fun w' hw' => of_any [] 0 rfl none 0 (fun _ => rfl) (fun _ => rfl) (Nat.le_refl _) (by decide) w' (Sl.nil _ _) (hH.old0 hw') (hK.old0 hw'))) (fun _ _ => ?_)
    refine ho_do rfl rfl (exw_call_pure Tryd.func31 rfl (by kernel_rfl) rfl (fun w' hw' => hex32_any (sha tK tH []) (sha_length _ _ _) w')) (fun _ _ => ?_)
    refine ho_val rfl rfl (ex_neq_str (b := false) rfl rfl (neq_false_of_eq known_nil)) ?_
    refine ho_val rfl rfl (ex_move rfl) ?_
    refine ho_do_want rfl rfl rfl rfl rfl (exw_list (xs := [.const (.int .u8 97), .const (.int .u8 98), .const (.int .u8 99)]) rfl rfl rfl Tryd.underlying22 info5 rfl rfl (by decide)) (fun b16 hb16 => ?_)
    refine ho_do_want rfl rfl rfl rfl rfl (exw_conv_lit rfl Tryd.underlying22 Tryd.underlying5) (fun _ _ => ?_)
    refine ho_do_want rfl rfl rfl rfl rfl (exw_call_pure Tryd.func13 rfl (by kernel_rfl) rfl (fun w' hw' => of_any cABC 3 rfl (some (b16, 0)) 3 (fun h => nomatch h) (fun h => nomatch h) (Nat.le_refl _) (by decide) w' (show Sl w' _ (cABC.map vb) from Sl.ownAll hw' 0 rfl) (hH.old0 hw') (hK.old0 hw'))) (fun _ _ => ?_)
    refine ho_do_want rfl rfl rfl rfl rfl (exw_call_pure Tryd.func31 rfl (by kernel_rfl) rfl (fun w' hw' => hex32_any (sha tK tH cABC) (sha_length _ _ _) w')) (fun _ _ => ?_)
    refine ho_want rfl rfl rfl rfl rfl (ex_neq_str (b := false) rfl rfl (neq_false_of_eq known_abc)) ?_
    refine ho_val rfl rfl (ex_pick_false rfl rfl) ?_
    refine ho_nil ?_
    refine hk_then_code ?_
    refine hl_false rfl ?_
    refine hl_skip ?_
    refine hk_then_code ?_
    refine hl_seq ?_
    refine hl_seq ?_
    refine hl_region ?_
    refine ho_do rfl rfl (exw_list (xs := [.const (.int .u8 97), .const (.int .u8 98), .const (.int .u8 99), .const (.int .u8 100), .const (.int .u8 98), .const (.int .u8 99), .const (.int .u8 100), .const (.int .u8 101), .const (.int .u8 99), .const (.int .u8 100), .const (.int .u8 101), .const (.int .u8 102), .const (.int .u8 100), .const (.int .u8 101), .const (.int .u8 102), .const (.int .u8 103), .const (.int .u8 101), .const (.int .u8 102), .const (.int .u8 103), .const (.int .u8 104), .const (.int .u8 102), .const (.int .u8 103), .const (.int .u8 104), .const (.int .u8 105), .const (.int .u8 103), .const (.int .u8 104), .const (.int .u8 105), .const (.int .u8 106), .const (.int .u8 104), .const (.int .u8 105), .const (.int .u8 106), .const (.int .u8 107), .const (.int .u8 105), .const (.int .u8 106), .const (.int .u8 107), .const (.int .u8 108), .const (.int .u8 106), .const (.int .u8 107), .const (.int .u8 108), .const (.int .u8 109), .const (.int .u8 107), .const (.int .u8 108), .const (.int .u8 109), .const (.int .u8 110), .const (.int .u8 108), .const (.int .u8 109), .const (.int .u8 110), .const (.int .u8 111), .const (.int .u8 109), .const (.int .u8 110), .const (.int .u8 111), .const (.int .u8 112), .const (.int .u8 110), .const (.int .u8 111), .const (.int .u8 112), .const (.int .u8 113)]) rfl rfl rfl Tryd.underlying22 info5 rfl rfl (by decide)) (fun b22 hb22 => ?_)
    refine ho_do rfl rfl (exw_conv_lit rfl Tryd.underlying22 Tryd.underlying5) (fun _ _ => ?_)
    refine ho_do rfl rfl (exw_call_pure Tryd.func13 rfl (by kernel_rfl) rfl (fun w' hw' => of_any cTwo 56 rfl (some (b22, 0)) 56 (fun h => nomatch h) (fun h => nomatch h) (Nat.le_refl _) (by decide) w' (show Sl w' _ (cTwo.map vb) from Sl.ownAll hw' 0 rfl) (hH.old0 hw') (hK.old0 hw'))) (fun _ _ => ?_)
    refine ho_do rfl rfl (exw_call_pure Tryd.func31 rfl (by kernel_rfl) rfl (fun w' hw' => hex32_any (sha tK tH cTwo) (sha_length _ _ _) w')) (fun _ _ => ?_)
    refine ho_val rfl rfl (ex_neq_str (b := false) rfl rfl (neq_false_of_eq known_two)) ?_
    refine ho_val rfl rfl (ex_move rfl) ?_
    refine ho_want rfl rfl rfl rfl rfl (ex_move rfl) ?_
    refine ho_do_want rfl rfl rfl rfl rfl (exw_call_pure Tryd.func13 rfl (by kernel_rfl) rfl (fun w' hw' => of_any (List.replicate 1000 97) _ (by rw [List.length_replicate]; omega) (rowp g.2.1) g.2.2.1 (fun h => by have := hok.empty' h; omega) (fun h => (hok.empty' h).2) (by have := hok.le; rw [List.length_replicate]; omega) (by rw [List.length_replicate]; decide) w' (hk6 ▸ Sl.ownRow hw' 2 rfl (fun h => RowOk.empty hok h)) (hH.old0 hw') (hK.old0 hw'))) (fun _ _ => ?_)
    refine ho_do_want rfl rfl rfl rfl rfl (exw_call_pure Tryd.func31 rfl (by kernel_rfl) rfl (fun w' hw' => hex32_any (sha tK tH (List.replicate 1000 97)) (sha_length _ _ _) w')) (fun _ _ => ?_)
    refine ho_want rfl rfl rfl rfl rfl (ex_neq_str (b := false) rfl rfl (neq_false_of_eq known_many)) ?_
    refine ho_val rfl rfl (ex_pick_false rfl rfl) ?_
    refine ho_nil ?_
    refine hk_then_code ?_
    refine hl_false rfl ?_
    refine hl_skip ?_
    refine hk_then_code ?_
    refine hl_seq ?_
    refine hl_region ?_
    refine ho_do rfl rfl (exw_list (xs := [.const (.int .u8 107), .const (.int .u8 101), .const (.int .u8 121)]) rfl rfl rfl Tryd.underlying22 info5 rfl rfl (by decide)) (fun b33 hb33 => ?_)
    refine ho_do rfl rfl (exw_conv_lit rfl Tryd.underlying22 Tryd.underlying5) (fun _ _ => ?_)
    refine ho_do rfl rfl (exw_list (xs := [.const (.int .u8 84), .const (.int .u8 104), .const (.int .u8 101), .const (.int .u8 32), .const (.int .u8 113), .const (.int .u8 117), .const (.int .u8 105), .const (.int .u8 99), .const (.int .u8 107), .const (.int .u8 32), .const (.int .u8 98), .const (.int .u8 114), .const (.int .u8 111), .const (.int .u8 119), .const (.int .u8 110), .const (.int .u8 32), .const (.int .u8 102), .const (.int .u8 111), .const (.int .u8 120), .const (.int .u8 32), .const (.int .u8 106), .const (.int .u8 117), .const (.int .u8 109), .const (.int .u8 112), .const (.int .u8 115), .const (.int .u8 32), .const (.int .u8 111), .const (.int .u8 118), .const (.int .u8 101), .const (.int .u8 114), .const (.int .u8 32), .const (.int .u8 116), .const (.int .u8 104), .const (.int .u8 101), .const (.int .u8 32), .const (.int .u8 108), .const (.int .u8 97), .const (.int .u8 122), .const (.int .u8 121), .const (.int .u8 32), .const (.int .u8 100), .const (.int .u8 111), .const (.int .u8 103)]) rfl rfl rfl Tryd.underlying22 info5 rfl rfl (by decide)) (fun b35 hb35 => ?_)
    refine ho_do rfl rfl (exw_conv_lit rfl Tryd.underlying22 Tryd.underlying5) (fun _ _ => ?_)
    refine ho_do rfl rfl (exw_call_pure Tryd.func32 rfl (by kernel_rfl) rfl (fun w' hw' => mac_any cKey cFox 3 43 rfl rfl (some (b33, 0)) 3 (fun h => nomatch h) (fun h => nomatch h) (Nat.le_refl _) (some (b35, 0)) 43 (fun h => nomatch h) (fun h => nomatch h) (Nat.le_refl _) (by decide) (by decide) w' (show Sl w' _ (cKey.map vb) from Sl.ownAll hw' 1 rfl) (show Sl w' _ (cFox.map vb) from Sl.ownAll hw' 0 rfl) (hH.old0 hw') (hK.old0 hw'))) (fun _ _ => ?_)
    refine ho_do rfl rfl (exw_alloc_cs (z := .agg (vbs (List.replicate 32 0))) (vbs (List.replicate 32 0)) (by kernel_rfl) rfl) (fun b3 hb3 => ?_)
    refine ho_do rfl rfl (exw_store_row0 rfl rfl (by rw [size25, vbs_size, hmac_length]) (by rw [vbs_size, vbs_size, hmac_length]; rfl) (vbs_one _)) (fun _ _ => ?_)
    refine ho_nil ?_
    refine hk_then_code ?_
    refine hl_seq ?_
    refine hl_region ?_
    refine ho_do rfl rfl (exw_call_pure Tryd.func32 rfl (by kernel_rfl) rfl (fun w' hw' => mac_any [] [] 0 0 rfl rfl none 0 (fun _ => rfl) (fun _ => rfl) (Nat.le_refl _) none 0 (fun _ => rfl) (fun _ => rfl) (Nat.le_refl _) (by decide) (by decide) w' (Sl.nil _ _) (Sl.nil _ _) (hH.old0 hw') (hK.old0 hw'))) (fun _ _ => ?_)
    refine ho_do rfl rfl (exw_alloc_cs (z := .agg (vbs (List.replicate 32 0))) (vbs (List.replicate 32 0)) (by kernel_rfl) rfl) (fun b4 hb4 => ?_)
    refine ho_do rfl rfl (exw_store_row0 rfl rfl (by rw [size25, vbs_size, hmac_length]) (by rw [vbs_size, vbs_size, hmac_length]; rfl) (vbs_one _)) (fun _ _ => ?_)
    refine ho_nil ?_
    refine hk_then_code ?_
    refine hl_seq ?_
    refine hl_region ?_
    refine ho_val rfl rfl (ex_load_row rfl 1 rfl rfl Tryd.underlying25 rfl (by rw [size25, vbs_size, hmac_length])) ?_
    refine ho_do rfl rfl (exw_call_pure Tryd.func31 rfl (by kernel_rfl) rfl (fun w' hw' => hex32_any (hmac cKey cFox) (hmac_length _ _) w')) (fun _ _ => ?_)
    refine ho_val rfl rfl (ex_eql_str (b := true) rfl rfl (eql_true_of_eq known_fox)) ?_
    refine ho_val rfl rfl (ex_move rfl) ?_
    refine ho_want rfl rfl rfl rfl rfl (ex_load_row rfl 0 rfl rfl Tryd.underlying25 rfl (by rw [size25, vbs_size, hmac_length])) ?_
    refine ho_do_want rfl rfl rfl rfl rfl (exw_call_pure Tryd.func31 rfl (by kernel_rfl) rfl (fun w' hw' => hex32_any (hmac [] []) (hmac_length _ _) w')) (fun _ _ => ?_)
    refine ho_want rfl rfl rfl rfl rfl (ex_eql_str (b := true) rfl rfl (eql_true_of_eq known_none)) ?_
    refine ho_val rfl rfl (ex_pick_true rfl rfl) ?_
    refine ho_val rfl rfl (ex_assign rfl) ?_
    refine ho_nil ?_
    refine hk_then_code ?_
    refine hl_ret ?_
    exact hk_ret rfl rfl (fun w' hw' => ⟨rfl, hw'.below⟩)

end Go.Proofs.YtdmagjelmhcemaaDoor
