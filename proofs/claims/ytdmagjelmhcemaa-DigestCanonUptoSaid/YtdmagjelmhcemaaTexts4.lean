/- The law DigestTexts, walked. -/
import Derived.Test.YtdmagjelmhcemaaRows
import Derived.Test.YtdmagjelmhcemaaFacts
import Derived.Test.YtdmagjelmhcemaaB
import Derived.Test.YtdmagjelmhcemaaTextLaw
import Derived.Test.YtdmagjelmhcemaaTextLaw2
import Derived.KernelRfl
import Derived.Test.YtdmagjelmhcemaaTexts1
import Derived.Test.YtdmagjelmhcemaaTexts2
import Derived.Test.YtdmagjelmhcemaaTexts3
namespace Go.Proofs.Ytdmagjelmhcemaa
open Go.RowKit
set_option linter.unusedVariables false
set_option linter.unusedSimpArgs false

set_option maxHeartbeats 400000 in
theorem show_any (l : List UInt8) (hl : l.length = 32) (form : Int) (w : World) :
    Calls Try.prog 16 #[Value.agg (vbs l), Value.int .i64 form] w fun e w' => e = .returned (.string (bs (showOf l form))) ∧ Below w.heap.size w w' := by
  refine calls_enter (n := 21) (hs := []) (M := []) (vs := [Value.agg (vbs l), Value.int .i64 form]) Try.func16 rfl rfl rfl (Hp.start w) ?_
  refine hl_seq ?_
  refine hl_region ?_
  refine ho_do rfl rfl (exw_box_agg rfl) (fun b2 hb2 => ?_)
  refine ho_val rfl rfl (ex_assign rfl) ?_
  refine ho_nil ?_
  refine hk_then_code ?_
  refine hl_seq ?_
  refine hl_seq ?_
  refine hl_region ?_
  refine ho_val rfl rfl (ex_move rfl) ?_
  refine ho_nil ?_
  refine hk_then_code ?_
  refine hl_block ?_
  refine hl_seq ?_
  refine hl_region ?_
  refine ho_val rfl rfl (ex_eql rfl rfl rfl) ?_
  refine ho_val rfl rfl (ex_assign rfl) ?_
  refine ho_nil ?_
  refine hk_then_code ?_
  refine hl_if rfl (fun hc0 => ?_) (fun hc0 => ?_)
  · try simp only [decide_eq_true_eq, decide_eq_false_iff_not, beq_iff_eq, beq_eq_false_iff_ne, bne_iff_ne, bne_eq_false_iff_eq, ne_eq, Int.not_lt, Int.not_le, gt_iff_lt, ge_iff_le] at hc0
    refine hl_seq ?_
    refine hl_region ?_
    refine ho_val rfl rfl (ex_slice_arr rfl Try.underlying23 _ size5) ?_
    refine ho_do rfl rfl (exw_call_pure Try.func10 rfl (by kernel_rfl) rfl (fun w' hw' => hex_any l 32 hl (some ⟨b2, 0, none⟩) 32 (fun h => nomatch h) (by omega) w' (Sl.ownBs hw' 0 rfl))) (fun _ _ => ?_)
    refine ho_val rfl rfl (ex_cat rfl rfl (by simp only [List.length_cons, List.length_nil, hexOf_length, hl]; omega)) ?_
    refine ho_val rfl rfl (ex_assign rfl) ?_
    refine ho_nil ?_
    refine hk_then_code ?_
    refine hl_ret ?_
    refine hk_block_ret ?_
    refine hk_then_ret ?_
    exact hk_ret rfl rfl (fun w' hw' => ⟨by simp [showOf, hc0] <;> rfl, hw'.below⟩)
  · try simp only [decide_eq_true_eq, decide_eq_false_iff_not, beq_iff_eq, beq_eq_false_iff_ne, bne_iff_ne, bne_eq_false_iff_eq, ne_eq, Int.not_lt, Int.not_le, gt_iff_lt, ge_iff_le] at hc0
    refine hl_seq ?_
    refine hl_region ?_
    refine ho_val rfl rfl (ex_eql rfl rfl rfl) ?_
    refine ho_val rfl rfl (ex_assign rfl) ?_
    refine ho_nil ?_
    refine hk_then_code ?_
    refine hl_if rfl (fun hc1 => ?_) (fun hc1 => ?_)
    · try simp only [decide_eq_true_eq, decide_eq_false_iff_not, beq_iff_eq, beq_eq_false_iff_ne, bne_iff_ne, bne_eq_false_iff_eq, ne_eq, Int.not_lt, Int.not_le, gt_iff_lt, ge_iff_le] at hc1
      refine hl_seq ?_
      refine hl_region ?_
      refine ho_val rfl rfl (ex_slice_arr rfl Try.underlying23 _ size5) ?_
      refine ho_do rfl rfl (exw_call_pure Try.func12 rfl (by kernel_rfl) rfl (fun w' hw' => base32_any l 32 hl (some ⟨b2, 0, none⟩) 32 (fun h => nomatch h) (by omega) w' (Sl.ownBs hw' 0 rfl))) (fun _ _ => ?_)
      refine ho_val rfl rfl (ex_cat rfl rfl (by simp only [List.length_cons, List.length_nil, base32Of_length, hl]; omega)) ?_
      refine ho_val rfl rfl (ex_assign rfl) ?_
      refine ho_nil ?_
      refine hk_then_code ?_
      refine hl_ret ?_
      refine hk_block_ret ?_
      refine hk_then_ret ?_
      exact hk_ret rfl rfl (fun w' hw' => ⟨by simp [showOf, hc0, hc1] <;> rfl, hw'.below⟩)
    · try simp only [decide_eq_true_eq, decide_eq_false_iff_not, beq_iff_eq, beq_eq_false_iff_ne, bne_iff_ne, bne_eq_false_iff_eq, ne_eq, Int.not_lt, Int.not_le, gt_iff_lt, ge_iff_le] at hc1
      refine hl_seq ?_
      refine hl_region ?_
      refine ho_val rfl rfl (ex_eql rfl rfl rfl) ?_
      refine ho_val rfl rfl (ex_assign rfl) ?_
      refine ho_nil ?_
      refine hk_then_code ?_
      refine hl_if rfl (fun hc2 => ?_) (fun hc2 => ?_)
      · try simp only [decide_eq_true_eq, decide_eq_false_iff_not, beq_iff_eq, beq_eq_false_iff_ne, bne_iff_ne, bne_eq_false_iff_eq, ne_eq, Int.not_lt, Int.not_le, gt_iff_lt, ge_iff_le] at hc2
        refine hl_seq ?_
        refine hl_region ?_
        refine ho_val rfl rfl (ex_slice_arr rfl Try.underlying23 _ size5) ?_
        refine ho_do rfl rfl (exw_call_pure Try.func14 rfl (by kernel_rfl) rfl (fun w' hw' => base64_any l 32 hl (some ⟨b2, 0, none⟩) 32 (fun h => nomatch h) (fun h => nomatch h) (by omega) (by omega) w' (Sl.ownBs hw' 0 rfl))) (fun _ _ => ?_)
        refine ho_val rfl rfl (ex_cat rfl rfl (by simp only [List.length_cons, List.length_nil, base64Of_length, hl]; omega)) ?_
        refine ho_val rfl rfl (ex_assign rfl) ?_
        refine ho_nil ?_
        refine hk_then_code ?_
        refine hl_ret ?_
        refine hk_block_ret ?_
        refine hk_then_ret ?_
        exact hk_ret rfl rfl (fun w' hw' => ⟨by simp [showOf, hc0, hc1, hc2] <;> rfl, hw'.below⟩)
      · try simp only [decide_eq_true_eq, decide_eq_false_iff_not, beq_iff_eq, beq_eq_false_iff_ne, bne_iff_ne, bne_eq_false_iff_eq, ne_eq, Int.not_lt, Int.not_le, gt_iff_lt, ge_iff_le] at hc2
        refine hl_skip ?_
        refine hk_block_normal ?_
        refine hk_then_code ?_
        refine hl_seq ?_
        refine hl_region ?_
        refine ho_val rfl rfl (ex_assign rfl) ?_
        refine ho_nil ?_
        refine hk_then_code ?_
        refine hl_ret ?_
        exact hk_ret rfl rfl (fun w' hw' => ⟨by simp [showOf, hc0, hc1, hc2] <;> rfl, hw'.below⟩)

set_option maxHeartbeats 400000 in
theorem refshow_any (l : List UInt8) (hl : l.length = 32) (form : Int) (w : World) :
    Calls Try.prog 17 #[Value.agg (vbs l), Value.int .i64 form] w fun e w' => e = .returned (.string (bs (showOf l form))) ∧ Below w.heap.size w w' := by
  refine calls_enter (n := 21) (hs := []) (M := []) (vs := [Value.agg (vbs l), Value.int .i64 form]) Try.func17 rfl rfl rfl (Hp.start w) ?_
  refine hl_seq ?_
  refine hl_region ?_
  refine ho_do rfl rfl (exw_box_agg rfl) (fun b2 hb2 => ?_)
  refine ho_val rfl rfl (ex_assign rfl) ?_
  refine ho_nil ?_
  refine hk_then_code ?_
  refine hl_seq ?_
  refine hl_seq ?_
  refine hl_region ?_
  refine ho_val rfl rfl (ex_move rfl) ?_
  refine ho_nil ?_
  refine hk_then_code ?_
  refine hl_block ?_
  refine hl_seq ?_
  refine hl_region ?_
  refine ho_val rfl rfl (ex_eql rfl rfl rfl) ?_
  refine ho_val rfl rfl (ex_assign rfl) ?_
  refine ho_nil ?_
  refine hk_then_code ?_
  refine hl_if rfl (fun hc0 => ?_) (fun hc0 => ?_)
  · try simp only [decide_eq_true_eq, decide_eq_false_iff_not, beq_iff_eq, beq_eq_false_iff_ne, bne_iff_ne, bne_eq_false_iff_eq, ne_eq, Int.not_lt, Int.not_le, gt_iff_lt, ge_iff_le] at hc0
    refine hl_seq ?_
    refine hl_region ?_
    refine ho_val rfl rfl (ex_slice_arr rfl Try.underlying23 _ size5) ?_
    refine ho_do rfl rfl (exw_call_pure Try.func11 rfl (by kernel_rfl) rfl (fun w' hw' => refhex_any l 32 hl (some ⟨b2, 0, none⟩) 32 (fun h => nomatch h) (by omega) w' (Sl.ownBs hw' 0 rfl))) (fun _ _ => ?_)
    refine ho_val rfl rfl (ex_cat rfl rfl (by simp only [List.length_cons, List.length_nil, hexOf_length, hl]; omega)) ?_
    refine ho_val rfl rfl (ex_assign rfl) ?_
    refine ho_nil ?_
    refine hk_then_code ?_
    refine hl_ret ?_
    refine hk_block_ret ?_
    refine hk_then_ret ?_
    exact hk_ret rfl rfl (fun w' hw' => ⟨by simp [showOf, hc0] <;> rfl, hw'.below⟩)
  · try simp only [decide_eq_true_eq, decide_eq_false_iff_not, beq_iff_eq, beq_eq_false_iff_ne, bne_iff_ne, bne_eq_false_iff_eq, ne_eq, Int.not_lt, Int.not_le, gt_iff_lt, ge_iff_le] at hc0
    refine hl_seq ?_
    refine hl_region ?_
    refine ho_val rfl rfl (ex_eql rfl rfl rfl) ?_
    refine ho_val rfl rfl (ex_assign rfl) ?_
    refine ho_nil ?_
    refine hk_then_code ?_
    refine hl_if rfl (fun hc1 => ?_) (fun hc1 => ?_)
    · try simp only [decide_eq_true_eq, decide_eq_false_iff_not, beq_iff_eq, beq_eq_false_iff_ne, bne_iff_ne, bne_eq_false_iff_eq, ne_eq, Int.not_lt, Int.not_le, gt_iff_lt, ge_iff_le] at hc1
      refine hl_seq ?_
      refine hl_region ?_
      refine ho_val rfl rfl (ex_slice_arr rfl Try.underlying23 _ size5) ?_
      refine ho_do rfl rfl (exw_call_pure Try.func13 rfl (by kernel_rfl) rfl (fun w' hw' => refbase32_any l 32 hl (some ⟨b2, 0, none⟩) 32 (fun h => nomatch h) (by omega) w' (Sl.ownBs hw' 0 rfl))) (fun _ _ => ?_)
      refine ho_val rfl rfl (ex_cat rfl rfl (by simp only [List.length_cons, List.length_nil, base32Of_length, hl]; omega)) ?_
      refine ho_val rfl rfl (ex_assign rfl) ?_
      refine ho_nil ?_
      refine hk_then_code ?_
      refine hl_ret ?_
      refine hk_block_ret ?_
      refine hk_then_ret ?_
      exact hk_ret rfl rfl (fun w' hw' => ⟨by simp [showOf, hc0, hc1] <;> rfl, hw'.below⟩)
    · try simp only [decide_eq_true_eq, decide_eq_false_iff_not, beq_iff_eq, beq_eq_false_iff_ne, bne_iff_ne, bne_eq_false_iff_eq, ne_eq, Int.not_lt, Int.not_le, gt_iff_lt, ge_iff_le] at hc1
      refine hl_seq ?_
      refine hl_region ?_
      refine ho_val rfl rfl (ex_eql rfl rfl rfl) ?_
      refine ho_val rfl rfl (ex_assign rfl) ?_
      refine ho_nil ?_
      refine hk_then_code ?_
      refine hl_if rfl (fun hc2 => ?_) (fun hc2 => ?_)
      · try simp only [decide_eq_true_eq, decide_eq_false_iff_not, beq_iff_eq, beq_eq_false_iff_ne, bne_iff_ne, bne_eq_false_iff_eq, ne_eq, Int.not_lt, Int.not_le, gt_iff_lt, ge_iff_le] at hc2
        refine hl_seq ?_
        refine hl_region ?_
        refine ho_val rfl rfl (ex_slice_arr rfl Try.underlying23 _ size5) ?_
        refine ho_do rfl rfl (exw_call_pure Try.func15 rfl (by kernel_rfl) rfl (fun w' hw' => refbase64_any l 32 hl (some ⟨b2, 0, none⟩) 32 (fun h => nomatch h) (by omega) w' (Sl.ownBs hw' 0 rfl))) (fun _ _ => ?_)
        refine ho_val rfl rfl (ex_cat rfl rfl (by simp only [List.length_cons, List.length_nil, base64Of_length, hl]; omega)) ?_
        refine ho_val rfl rfl (ex_assign rfl) ?_
        refine ho_nil ?_
        refine hk_then_code ?_
        refine hl_ret ?_
        refine hk_block_ret ?_
        refine hk_then_ret ?_
        exact hk_ret rfl rfl (fun w' hw' => ⟨by simp [showOf, hc0, hc1, hc2] <;> rfl, hw'.below⟩)
      · try simp only [decide_eq_true_eq, decide_eq_false_iff_not, beq_iff_eq, beq_eq_false_iff_ne, bne_iff_ne, bne_eq_false_iff_eq, ne_eq, Int.not_lt, Int.not_le, gt_iff_lt, ge_iff_le] at hc2
        refine hl_skip ?_
        refine hk_block_normal ?_
        refine hk_then_code ?_
        refine hl_seq ?_
        refine hl_region ?_
        refine ho_val rfl rfl (ex_assign rfl) ?_
        refine ho_nil ?_
        refine hk_then_code ?_
        refine hl_ret ?_
        exact hk_ret rfl rfl (fun w' hw' => ⟨by simp [showOf, hc0, hc1, hc2] <;> rfl, hw'.below⟩)

set_option maxHeartbeats 400000 in
theorem texts_any (l : List UInt8) (p : Option Addr) (c : Nat) (hne : p = none → l.length = 0 ∧ c = 0) (hlc : l.length ≤ c) (hl : l.length ≤ 1048576) (y : List UInt8) (hy : y.length = 32) (form : Int) (w : World) (hS : Sl w p (l.map vb)) :
    Calls Try.prog 4 #[slv p l.length c, Value.agg (vbs y), Value.int .i64 form] w fun e w' => e = .returned (.bool true) ∧ Below w.heap.size w w' := by
  have hTl : (turnTo1 l l.length).length = l.length := turnTo1_length l l.length
  refine calls_enter (n := 69) (hs := []) (M := []) (vs := [slv p l.length c, Value.agg (vbs y), Value.int .i64 form]) Try.func4 rfl rfl rfl (Hp.start w) ?_
  refine hl_seq ?_
  refine hl_region ?_
  refine ho_do rfl rfl (exw_box_agg rfl) (fun b4 hb4 => ?_)
  refine ho_val rfl rfl (ex_assign rfl) ?_
  refine ho_nil ?_
  refine hk_then_code ?_
  refine hl_seq ?_
  refine hl_region ?_
  refine ho_val rfl rfl (ex_move rfl) ?_
  refine ho_do rfl rfl (exw_call Try.func9 rfl (by kernel_rfl) rfl (val := fun x : Nat × Nat × List Value => rowv (some x.1) (l.length + 8) x.2.1) (hs' := fun x => ⟨some x.1, vrow l (marks.map vb ++ x.2.2), 5, (0, 0)⟩ :: _) (pre := fun x => RowOk 1 (some x.1) (l.length + 8) x.2.1 ((l ++ marks).map vb) x.2.2) (fun w' hw' => (padded_any l _ rfl p c (fun h => (hne h).1) (fun h => (hne h).2) (by omega) w' (hS.old0 hw')).mono fun e w2 ⟨g, c', r, h1, h2, h3⟩ => ⟨(g, c', r), h1, h2, hw'.comp (A := []) (by simp) h3⟩)) (fun x10 hx10 => ?_)
  refine ho_val rfl rfl (ex_assign rfl) ?_
  refine ho_nil ?_
  refine hk_then_code ?_
  refine hl_seq ?_
  have hcap : l.length + 8 ≤ x10.2.1 := RowOk.le hx10
  refine hl_region ?_
  refine ho_val rfl rfl (ex_move rfl) ?_
  refine ho_val rfl rfl (ex_move rfl) ?_
  refine ho_val rfl rfl (ex_len_slice rfl Try.underlying28) ?_
  refine ho_val rfl rfl (ex_slice_hi rfl rfl Try.underlying28 _ size5 (by omega)) ?_
  refine ho_val rfl rfl (ex_assign rfl) ?_
  refine ho_nil ?_
  refine hk_then_code ?_
  refine hl_seq ?_
  refine hl_seq ?_
  refine hl_region ?_
  refine ho_val rfl rfl (ex_move rfl) ?_
  refine ho_do rfl rfl (exw_call_pure Try.func10 rfl (by kernel_rfl) rfl (fun w' hw' => hex_any l _ rfl (some ⟨x10.1, 0, none⟩) x10.2.1 (fun h => nomatch h) (by omega) w' (Sl.own hw' 0 rfl rfl (vrow_own _ _)))) (fun _ _ => ?_)
  refine ho_val rfl rfl (ex_move rfl) ?_
  refine ho_do rfl rfl (exw_call_pure Try.func11 rfl (by kernel_rfl) rfl (fun w' hw' => refhex_any l _ rfl p c (fun h => (hne h).1) (by omega) w' (hS.old0 hw'))) (fun _ _ => ?_)
  refine ho_val rfl rfl (ex_neq_str (b := false) rfl rfl (neq_false_of_eq rfl)) ?_
  refine ho_val rfl rfl (ex_move rfl) ?_
  refine ho_want rfl rfl rfl rfl rfl (ex_move rfl) ?_
  refine ho_do_want rfl rfl rfl rfl rfl (exw_call_pure Try.func12 rfl (by kernel_rfl) rfl (fun w' hw' => base32_any l _ rfl (some ⟨x10.1, 0, none⟩) x10.2.1 (fun h => nomatch h) (by omega) w' (Sl.own hw' 0 rfl rfl (vrow_own _ _)))) (fun _ _ => ?_)
  refine ho_want rfl rfl rfl rfl rfl (ex_move rfl) ?_
  refine ho_do_want rfl rfl rfl rfl rfl (exw_call_pure Try.func13 rfl (by kernel_rfl) rfl (fun w' hw' => refbase32_any l _ rfl p c (fun h => (hne h).1) (by omega) w' (hS.old0 hw'))) (fun _ _ => ?_)
  refine ho_want rfl rfl rfl rfl rfl (ex_neq_str (b := false) rfl rfl (neq_false_of_eq rfl)) ?_
  refine ho_val rfl rfl (ex_pick_false rfl rfl) ?_
  refine ho_val rfl rfl (ex_move rfl) ?_
  refine ho_want rfl rfl rfl rfl rfl (ex_move rfl) ?_
  refine ho_do_want rfl rfl rfl rfl rfl (exw_call_pure Try.func14 rfl (by kernel_rfl) rfl (fun w' hw' => base64_any l _ rfl (some ⟨x10.1, 0, none⟩) x10.2.1 (fun h => nomatch h) (fun h => nomatch h) (by omega) (by omega) w' (Sl.own hw' 0 rfl rfl (vrow_own _ _)))) (fun _ _ => ?_)
  refine ho_want rfl rfl rfl rfl rfl (ex_move rfl) ?_
  refine ho_do_want rfl rfl rfl rfl rfl (exw_call_pure Try.func15 rfl (by kernel_rfl) rfl (fun w' hw' => refbase64_any l _ rfl p c (fun h => (hne h).1) (by omega) w' (hS.old0 hw'))) (fun _ _ => ?_)
  refine ho_want rfl rfl rfl rfl rfl (ex_neq_str (b := false) rfl rfl (neq_false_of_eq rfl)) ?_
  refine ho_val rfl rfl (ex_pick_false rfl rfl) ?_
  refine ho_nil ?_
  refine hk_then_code ?_
  refine hl_false rfl ?_
  refine hl_skip ?_
  refine hk_then_code ?_
  refine hl_seq ?_
  refine hl_seq ?_
  refine hl_held _ (by kernel_rfl) (by decide) (.cons 0 rfl (.cons 1 rfl .nil)) ?_
  refine ha_take 0 rfl (by kernel_rfl) (by kernel_rfl) (by kernel_rfl) (fun _ _ _ h => h) rfl rfl (ex_load_row rfl 1 rfl rfl Try.underlying23 rfl (by rw [size23, vbs_size, hy])) ?_
  refine ha_take 1 rfl (by kernel_rfl) (by kernel_rfl) (by kernel_rfl) (fun _ _ _ h => h) rfl rfl (ex_move rfl) ?_
  refine ha_take 3 rfl (by kernel_rfl) (by kernel_rfl) (by kernel_rfl) (fun _ _ _ h => h) rfl rfl (ex_load_row rfl 1 rfl rfl Try.underlying23 rfl (by rw [size23, vbs_size, hy])) ?_
  refine ha_take 4 rfl (by kernel_rfl) (by kernel_rfl) (by kernel_rfl) (fun _ _ _ h => h) rfl rfl (ex_move rfl) ?_
  refine ha_do 2 rfl (by kernel_rfl) (fun a _ => wanted_none rfl a) rfl (exw_call_pure Try.func16 rfl (by kernel_rfl) rfl (fun w' hw' => show_any y hy form w')) (by decide) (fun _ _ => (.cons 0 rfl (.cons 1 rfl .nil))) (fun _ _ => ?_)
  refine ha_do 5 rfl (by kernel_rfl) (fun a _ => wanted_none rfl a) rfl (exw_call_pure Try.func17 rfl (by kernel_rfl) rfl (fun w' hw' => refshow_any y hy form w')) (by decide) (fun _ _ => (.cons 0 rfl (.cons 1 rfl .nil))) (fun _ _ => ?_)
  refine ha_take 6 rfl (by kernel_rfl) (by kernel_rfl) (by kernel_rfl) (fun _ _ _ h => h) rfl rfl (ex_neq_str (b := false) rfl rfl (neq_false_of_eq rfl)) ?_
  refine ha_take 7 rfl (by kernel_rfl) (by kernel_rfl) (by kernel_rfl) (fun _ _ _ h => h) rfl rfl (ex_move rfl) ?_
  refine ha_want 8 rfl (by kernel_rfl) (by kernel_rfl) (by kernel_rfl) (fun _ _ _ h => h) rfl rfl rfl rfl rfl (ex_move rfl) ?_
  refine ha_want 9 rfl (by kernel_rfl) (by kernel_rfl) (by kernel_rfl) (fun _ _ _ h => h) rfl rfl rfl rfl rfl (ex_move rfl) ?_
  refine ha_do 10 rfl (by kernel_rfl) (want_of rfl rfl rfl rfl) rfl (exw_call Try.func9 rfl (by kernel_rfl) rfl (val := fun x : Nat × Nat × List Value => rowv (some x.1) (l.length + 8) x.2.1) (hs' := fun x => ⟨some x.1, vrow l (marks.map vb ++ x.2.2), 5, (0, 0)⟩ :: _) (pre := fun x => RowOk 1 (some x.1) (l.length + 8) x.2.1 ((l ++ marks).map vb) x.2.2) (fun w' hw' => (padded_any l _ rfl p c (fun h => (hne h).1) (fun h => (hne h).2) (by omega) w' (hS.old0 hw')).mono fun e w2 ⟨g, c', r, h1, h2, h3⟩ => ⟨(g, c', r), h1, h2, hw'.comp (A := []) (by simp) h3⟩)) (by decide) (fun x44 hx44 => (.cons 1 rfl (.cons 2 rfl .nil))) (fun x44 hx44 => ?_)
  refine ha_do 11 rfl (by kernel_rfl) (want_of rfl rfl rfl rfl) rfl (exw_call_pure Try.func18 rfl (by kernel_rfl) rfl (fun w' hw' => bytes_any (l ++ marks) (l ++ marks) _ _ (pad_length l) (pad_length l) (some ⟨x10.1, 0, none⟩) (some ⟨x44.1, 0, none⟩) x10.2.1 x44.2.1 (fun h => nomatch h) (fun h => nomatch h) (by rw [pad_length]; omega) (by rw [pad_length]; omega) w' (Sl.own hw' 1 rfl rfl (vrow_all _ _ _)) (Sl.own hw' 0 rfl rfl (vrow_all _ _ _)))) (by decide) (fun _ _ => (.cons 1 rfl (.cons 2 rfl .nil))) (fun _ _ => ?_)
  refine ha_want 12 rfl (by kernel_rfl) (by kernel_rfl) (by kernel_rfl) (fun _ _ _ h => h) rfl rfl rfl rfl rfl (ex_not (b := true) (by rw [show ((l ++ marks) == (l ++ marks)) = true by simp]; rfl)) ?_
  refine ha_take 13 rfl (by kernel_rfl) (by kernel_rfl) (by kernel_rfl) (fun _ _ _ h => h) rfl rfl (ex_pick_false rfl rfl) ?_
  refine ha_done (by kernel_rfl) ?_
  refine hk_then_code ?_
  refine hl_false rfl ?_
  refine hl_skip ?_
  refine hk_then_code ?_
  refine hl_seq ?_
  refine hl_region ?_
  refine ho_val rfl rfl (ex_move rfl) ?_
  refine ho_pick _ (by decide) (.cons 1 rfl (.cons 0 rfl (.cons 2 rfl .nil))) ?_
  refine ho_do rfl rfl (exw_call Try.func19 rfl (by kernel_rfl) rfl (val := fun _ : Unit => .tuple #[]) (hs' := fun _ => ⟨some x10.1, vrow (turnTo1 l l.length) (marks.map vb ++ x10.2.2), 5, (0, 0)⟩ :: _) (pre := fun _ => True) (fun w' hw' => (turned_any l _ rfl (marks.map vb ++ x10.2.2) x10.1 x10.2.1 (by omega) w' (hw'.own _ (List.mem_cons_self) x10.1 rfl)).mono fun e w2 ⟨h1, h2⟩ => ⟨(), trivial, h1, hw'.comp (A := [_]) (fun g hg => ⟨_, List.mem_cons_self, by rw [List.mem_singleton.1 hg]⟩) h2⟩)) (fun _ _ => ?_)
  refine ho_nil ?_
  refine hk_then_code ?_
  refine hl_seq ?_
  refine hl_region ?_
  refine ho_val rfl rfl (ex_move rfl) ?_
  refine ho_do rfl rfl (exw_call_pure Try.func10 rfl (by kernel_rfl) rfl (fun w' hw' => hex_any (turnTo1 l l.length) _ hTl (some ⟨x10.1, 0, none⟩) x10.2.1 (fun h => nomatch h) (by omega) w' (Sl.own hw' 0 rfl rfl (vrow_own _ _)))) (fun _ _ => ?_)
  refine ho_val rfl rfl (ex_move rfl) ?_
  refine ho_do rfl rfl (exw_call_pure Try.func11 rfl (by kernel_rfl) rfl (fun w' hw' => refhex_any (turnTo1 l l.length) _ hTl (some ⟨x10.1, 0, none⟩) x10.2.1 (fun h => nomatch h) (by omega) w' (Sl.own hw' 0 rfl rfl (vrow_own _ _)))) (fun _ _ => ?_)
  refine ho_val rfl rfl (ex_eql_str (b := true) rfl rfl (eql_true_of_eq rfl)) ?_
  refine ho_val rfl rfl (ex_move rfl) ?_
  refine ho_want rfl rfl rfl rfl rfl (ex_move rfl) ?_
  refine ho_do_want rfl rfl rfl rfl rfl (exw_call_pure Try.func12 rfl (by kernel_rfl) rfl (fun w' hw' => base32_any (turnTo1 l l.length) _ hTl (some ⟨x10.1, 0, none⟩) x10.2.1 (fun h => nomatch h) (by omega) w' (Sl.own hw' 0 rfl rfl (vrow_own _ _)))) (fun _ _ => ?_)
  refine ho_want rfl rfl rfl rfl rfl (ex_move rfl) ?_
  refine ho_do_want rfl rfl rfl rfl rfl (exw_call_pure Try.func13 rfl (by kernel_rfl) rfl (fun w' hw' => refbase32_any (turnTo1 l l.length) _ hTl (some ⟨x10.1, 0, none⟩) x10.2.1 (fun h => nomatch h) (by omega) w' (Sl.own hw' 0 rfl rfl (vrow_own _ _)))) (fun _ _ => ?_)
  refine ho_want rfl rfl rfl rfl rfl (ex_eql_str (b := true) rfl rfl (eql_true_of_eq rfl)) ?_
  refine ho_val rfl rfl (ex_pick_true rfl rfl) ?_
  refine ho_val rfl rfl (ex_move rfl) ?_
  refine ho_want rfl rfl rfl rfl rfl (ex_move rfl) ?_
  refine ho_do_want rfl rfl rfl rfl rfl (exw_call_pure Try.func14 rfl (by kernel_rfl) rfl (fun w' hw' => base64_any (turnTo1 l l.length) _ hTl (some ⟨x10.1, 0, none⟩) x10.2.1 (fun h => nomatch h) (fun h => nomatch h) (by omega) (by omega) w' (Sl.own hw' 0 rfl rfl (vrow_own _ _)))) (fun _ _ => ?_)
  refine ho_want rfl rfl rfl rfl rfl (ex_move rfl) ?_
  refine ho_do_want rfl rfl rfl rfl rfl (exw_call_pure Try.func15 rfl (by kernel_rfl) rfl (fun w' hw' => refbase64_any (turnTo1 l l.length) _ hTl (some ⟨x10.1, 0, none⟩) x10.2.1 (fun h => nomatch h) (by omega) w' (Sl.own hw' 0 rfl rfl (vrow_own _ _)))) (fun _ _ => ?_)
  refine ho_want rfl rfl rfl rfl rfl (ex_eql_str (b := true) rfl rfl (eql_true_of_eq rfl)) ?_
  refine ho_val rfl rfl (ex_pick_true rfl rfl) ?_
  refine ho_val rfl rfl (ex_assign rfl) ?_
  refine ho_nil ?_
  refine hk_then_code ?_
  refine hl_ret ?_
  exact hk_ret rfl rfl (fun w' hw' => ⟨rfl, hw'.below⟩)

end Go.Proofs.Ytdmagjelmhcemaa
