/- The law DigestKeyed, walked. -/
import Derived.Test.YtdmagjelmhcemaaDoorNils
namespace Go.Proofs.YtdmagjelmhcemaaDoor
open Go.RowKit
set_option linter.unusedVariables false
set_option linter.unusedSimpArgs false

set_option maxHeartbeats 1600000 in
theorem keyed_law (k d : List UInt8) (p q : Option (Nat × Nat)) (c c2 : Nat) (hne : p = none → k.length = 0 ∧ c = 0) (hlc : k.length ≤ c) (hqe : q = none → d.length = 0 ∧ c2 = 0) (hqc : d.length ≤ c2) (hk : k.length ≤ 1048576) (hd : d.length ≤ 1048576) (w : World) (hS : Sl w p (k.map vb)) (hT : Sl w q (d.map vb)) (hH : Sl w (some (2, 0)) (tH.map vw)) (hK : Sl w (some (3, 0)) (tK.map vw)) :
    Calls Tryd.prog 10 #[slv p k.length c, slv q d.length c2] w fun e w' => e = .returned (.bool true) ∧ Below w.heap.size w w' := by
  have h3 : 3 < w.heap.size := World.block_lt_of_cell? w _ (hK.cell0 (tK_get 0 (by decide)))
  refine calls_enter (n := 85) (hs := []) (M := []) (vs := [slv p k.length c, slv q d.length c2]) Tryd.func10 rfl rfl rfl (Hp.start w) ?_
  refine hl_seq ?_
  refine hl_region ?_
  refine ho_val rfl rfl (ex_assign rfl) ?_
  refine ho_nil ?_
  refine hk_then_code ?_
  refine hl_seq ?_
  refine hl_region ?_
  refine ho_do rfl rfl (exw_alloc_cs (z := .agg (vbs (List.replicate 64 0))) (vbs (List.replicate 64 0)) (by kernel_rfl) rfl) (fun b5 hb5 => ?_)
  refine ho_nil ?_
  refine hk_then_code ?_
  refine hl_seq ?_
  refine hl_seq ?_
  refine hl_region ?_
  refine ho_val rfl rfl (ex_move rfl) ?_
  refine ho_val rfl rfl (ex_len_slice rfl Tryd.underlying22) ?_
  refine ho_val rfl rfl (ex_gtr rfl rfl rfl) ?_
  refine ho_nil ?_
  refine hk_then_code ?_
  refine hl_if rfl (fun hc0 => ?_) (fun hc0 => ?_)
  · try simp only [decide_eq_true_eq, decide_eq_false_iff_not, beq_iff_eq, beq_eq_false_iff_ne, bne_iff_ne, bne_eq_false_iff_eq, ne_eq, Int.not_lt, Int.not_le, gt_iff_lt, ge_iff_le] at hc0
    refine hl_seq ?_
    refine hl_region ?_
    refine ho_val rfl rfl (ex_move rfl) ?_
    refine ho_do rfl rfl (exw_call_pure Tryd.func13 rfl (by kernel_rfl) rfl (fun w' hw' => of_any k _ rfl p c (fun h => (hne h).1) (fun h => (hne h).2) hlc (by omega) w' (hS.old0 hw') (hH.old0 hw') (hK.old0 hw'))) (fun _ _ => ?_)
    refine ho_do rfl rfl (exw_alloc_cs (z := .agg (vbs (List.replicate 32 0))) (vbs (List.replicate 32 0)) (by kernel_rfl) rfl) (fun b6 hb6 => ?_)
    refine ho_do rfl rfl (exw_store_row0 rfl rfl (by rw [size25, vbs_size, sha_length]) (by rw [vbs_size, vbs_size, sha_length]; rfl) (vbs_one _)) (fun _ _ => ?_)
    refine ho_nil ?_
    refine hk_then_code ?_
    refine hl_seq ?_
    refine hl_held _ (by kernel_rfl) (by decide) (.cons 0 rfl .nil) ?_
    refine ha_take 0 rfl (by kernel_rfl) (by kernel_rfl) (by kernel_rfl) (fun _ _ _ h => h) rfl rfl (ex_slice_arr rfl Tryd.underlying53 _ size5) ?_
    refine ha_take 1 rfl (by kernel_rfl) (by kernel_rfl) (by kernel_rfl) (fun _ _ _ h => h) rfl rfl (ex_slice_arr rfl Tryd.underlying25 _ size5) ?_
    refine ha_pick _ (by decide) (.cons 1 rfl (.cons 0 rfl .nil)) ?_
    refine ha_do 2 rfl (by kernel_rfl) (fun a _ => wanted_none rfl a) rfl (exw_copy0 (g := b5) (o := 0) (m := 64) (c := 64) rfl rfl (fun w' hw' => Sl.ownBs hw' 1 rfl) (by rw [List.length_map, sha_length]; rfl) (map_vb_one _) Tryd.underlying22 size5 (by rw [vbs_size, List.length_map, sha_length, List.length_replicate]; decide) (fun h => nomatch h) (nk := 32) (by rw [List.length_map, sha_length]) (copy_long (by omega))) (by decide) (fun _ _ => (.cons 1 rfl .nil)) (fun _ _ => ?_)
    refine ha_done (by kernel_rfl) ?_
    refine hk_then_code ?_
    refine hl_seq ?_
    refine hl_region ?_
    refine ho_val rfl rfl (ex_slice_arr rfl Tryd.underlying25 _ size5) ?_
    refine ho_val rfl rfl (ex_move rfl) ?_
    refine ho_do rfl rfl (exw_call_pure Tryd.func32 rfl (by kernel_rfl) rfl (fun w' hw' => mac_any (sha tK tH k) d _ _ (sha_length _ _ _) rfl (some (b6, 0)) 32 (fun h => nomatch h) (fun h => nomatch h) (by rw [sha_length]; exact Nat.le_refl _) q c2 (fun h => (hqe h).1) (fun h => (hqe h).2) hqc (by rw [sha_length]; decide) (by omega) w' (Sl.ownBs hw' 1 rfl) (hT.old0 hw') (hH.old0 hw') (hK.old0 hw'))) (fun _ _ => ?_)
    refine ho_val rfl rfl (ex_move rfl) ?_
    refine ho_val rfl rfl (ex_move rfl) ?_
    refine ho_do rfl rfl (exw_call_pure Tryd.func32 rfl (by kernel_rfl) rfl (fun w' hw' => mac_any k d _ _ rfl rfl p c (fun h => (hne h).1) (fun h => (hne h).2) hlc q c2 (fun h => (hqe h).1) (fun h => (hqe h).2) hqc (by omega) (by omega) w' (hS.old0 hw') (hT.old0 hw') (hH.old0 hw') (hK.old0 hw'))) (fun _ _ => ?_)
    refine ho_val rfl rfl (ex_neq_arr (b := false) rfl rfl Tryd.underlying25 Tryd.underlying5 size5 (by kernel_rfl) (hmac_length _ _) (hmac_length _ _) (neq_false_of_eq (hmac_sum d (by omega)))) ?_
    refine ho_nil ?_
    refine hk_then_code ?_
    refine hl_false rfl ?_
    refine hl_skip ?_
    refine hk_then_code ?_
    refine hl_seq ?_
    refine hl_seq ?_
    refine hl_region ?_
    refine ho_val rfl rfl (ex_move rfl) ?_
    refine ho_val rfl rfl (ex_len_slice rfl Tryd.underlying22) ?_
    refine ho_val rfl rfl (ex_lss rfl rfl rfl) ?_
    refine ho_nil ?_
    refine hk_then_code ?_
    refine hl_if rfl (fun hc2 => ?_) (fun hc2 => ?_)
    · try simp only [decide_eq_true_eq, decide_eq_false_iff_not, beq_iff_eq, beq_eq_false_iff_ne, bne_iff_ne, bne_eq_false_iff_eq, ne_eq, Int.not_lt, Int.not_le, gt_iff_lt, ge_iff_le] at hc2
      exact absurd hc2 (by omega)
    · try simp only [decide_eq_true_eq, decide_eq_false_iff_not, beq_iff_eq, beq_eq_false_iff_ne, bne_iff_ne, bne_eq_false_iff_eq, ne_eq, Int.not_lt, Int.not_le, gt_iff_lt, ge_iff_le] at hc2
      refine hl_skip ?_
      refine hk_then_code ?_
      refine hl_seq ?_
      refine hl_region ?_
      refine ho_do rfl rfl (exw_call Tryd.func19 rfl (by kernel_rfl) rfl (val := fun x : Nat => .pointer (some ⟨x, 0, none⟩)) (hs' := fun x => ⟨some x, hblk tH (List.replicate 64 0) 0, 67, (0, 0)⟩ :: _) (pre := fun x => w.heap.size ≤ x) (fun w' hw' => (new_any w' (hH.old0 hw')).mono fun e w2 ⟨g, h1, h2⟩ => ⟨g, Nat.le_trans hw'.size h2.fresh, h1, hw'.comp (A := []) (by simp) h2⟩)) (fun h45 ge45 => ?_)
      refine ho_val rfl rfl (ex_assign rfl) ?_
      refine ho_nil ?_
      refine hk_then_code ?_
      refine hl_seq ?_
      refine hl_region ?_
      refine ho_do rfl rfl (exw_call Tryd.func19 rfl (by kernel_rfl) rfl (val := fun x : Nat => .pointer (some ⟨x, 0, none⟩)) (hs' := fun x => ⟨some x, hblk tH (List.replicate 64 0) 0, 67, (0, 0)⟩ :: _) (pre := fun x => w.heap.size ≤ x) (fun w' hw' => (new_any w' (hH.old0 hw')).mono fun e w2 ⟨g, h1, h2⟩ => ⟨g, Nat.le_trans hw'.size h2.fresh, h1, hw'.comp (A := []) (by simp) h2⟩)) (fun h46 ge46 => ?_)
      refine ho_val rfl rfl (ex_assign rfl) ?_
      refine ho_nil ?_
      refine hk_then_code ?_
      refine hl_seq ?_
      refine hl_seq ?_
      refine hl_region ?_
      refine ho_val rfl rfl (ex_assign rfl) ?_
      refine ho_nil ?_
      refine hk_then_code ?_
      refine hl_block ?_
      refine hl_loop (G := Nat × (List UInt32 × List UInt8) × (List UInt32 × List UInt8)) (fun z => 64 - z.1) (fun z => z.1 ≤ 64 ∧ HSt ((keyed k 54).take z.1) z.2.1.1 z.2.1.2 ∧ HSt ((keyed k 92).take z.1) z.2.2.1 z.2.2.2) (fun z => [(0, slv p k.length c), (1, slv q d.length c2), (5, .pointer (some ⟨b5, 0, none⟩)), (8, .pointer (some ⟨h45, 0, none⟩)), (9, .pointer (some ⟨h46, 0, none⟩)), (10, .int .i64 (z.1 : Nat))]) (fun z => [⟨some h46, hblk z.2.2.1 z.2.2.2 ((keyed k 92).take z.1).length, 67, (0, 0)⟩, ⟨some h45, hblk z.2.1.1 z.2.1.2 ((keyed k 54).take z.1).length, 67, (0, 0)⟩, ⟨some b5, vbs (kpad k), 53, (0, 0)⟩]) (0, (tH, (List.replicate 64 0)), (tH, (List.replicate 64 0))) ⟨Nat.zero_le _, HSt.start, HSt.start⟩ ⟨rfl, rfl, rfl, rfl, rfl, rfl, trivial⟩ _ (by decide) (.cons 0 rfl (.cons 1 rfl (.cons 2 rfl .nil))) (fun z ⟨hz, hz1, hz2⟩ => ?_)
      refine hl_seq ?_
      refine hl_seq ?_
      refine hl_region ?_
      refine ho_val rfl rfl (ex_move rfl) ?_
      refine ho_val rfl rfl (ex_lss rfl rfl rfl) ?_
      refine ho_nil ?_
      refine hk_then_code ?_
      refine hl_if rfl (fun hc3 => ?_) (fun hc3 => ?_)
      · try simp only [decide_eq_true_eq, decide_eq_false_iff_not, beq_iff_eq, beq_eq_false_iff_ne, bne_iff_ne, bne_eq_false_iff_eq, ne_eq, Int.not_lt, Int.not_le, gt_iff_lt, ge_iff_le] at hc3
        have hz5 : z.1 < 64 := by omega
        have HL57 : ((keyed k 54).take z.1).length + ([(kpad k).getD z.1 0 ^^^ 54] : List UInt8).length ≤ 1152921504606846976 := by rw [List.length_take, List.length_singleton]; omega
        have HL64 : ((keyed k 92).take z.1).length + ([(kpad k).getD z.1 0 ^^^ 92] : List UInt8).length ≤ 1152921504606846976 := by rw [List.length_take, List.length_singleton]; omega
        refine hl_skip ?_
        refine hk_then_code ?_
        refine hl_seq ?_
        refine hl_block ?_
        refine hl_seq ?_
        refine hl_region ?_
        refine ho_val rfl rfl (ex_move rfl) ?_
        refine ho_val rfl rfl (ex_move rfl) ?_
        refine ho_val rfl rfl (ex_addr_arr0 rfl rfl Tryd.underlying53 size5 (by omega)) ?_
        refine ho_val rfl rfl (ex_load rfl 2 rfl rfl (vbs_getD _ _ (by rw [kpad_length]; omega)) Tryd.underlying5 rfl) ?_
        refine ho_val rfl rfl (ex_xor8 (q := 54) rfl rfl) ?_
        refine ho_do rfl rfl (exw_list (xs := [.tmp 55]) rfl rfl rfl Tryd.underlying22 info5 rfl rfl (by decide)) (fun b56 hb56 => ?_)
        refine ho_pick _ (by decide) (.cons 2 rfl (.cons 0 rfl (.cons 1 rfl (.cons 3 rfl .nil)))) ?_
        refine ho_do rfl rfl (exw_call Tryd.func21 rfl (by kernel_rfl) rfl (val := fun _ : List UInt32 × List UInt8 => .int .i64 0) (hs' := fun x => ⟨some h45, hblk x.1 x.2 (((keyed k 54).take z.1) ++ ([(kpad k).getD z.1 0 ^^^ 54] : List UInt8)).length, 67, (0, 0)⟩ :: _) (pre := fun x => HSt (((keyed k 54).take z.1) ++ ([(kpad k).getD z.1 0 ^^^ 54] : List UInt8)) x.1 x.2) (fun w' hw' => (write_any ((keyed k 54).take z.1) ([(kpad k).getD z.1 0 ^^^ 54] : List UInt8) z.2.1.1 z.2.1.2 _ rfl hz1 h45 67 (some (b56, 0)) 1 (fun h => nomatch h) (fun h => nomatch h) (Nat.le_refl _) HL57 w' (hw'.own _ List.mem_cons_self h45 rfl) (Sk.own hw' 1 0 (by decide) rfl rfl rfl rfl all_get) (hK.old0 hw') (by omega)).mono fun e w2 ⟨S', R', h1, h2, h3⟩ => ⟨(S', R'), h1, h2, hw'.comp (A := [_]) (fun g hg => ⟨_, List.mem_cons_self, by rw [List.mem_singleton.1 hg]⟩) h3⟩)) (fun x57 hx57 => ?_)
        refine ho_nil ?_
        refine hk_then_code ?_
        refine hl_region ?_
        refine ho_val rfl rfl (ex_move rfl) ?_
        refine ho_val rfl rfl (ex_move rfl) ?_
        refine ho_val rfl rfl (ex_addr_arr0 rfl rfl Tryd.underlying53 size5 (by omega)) ?_
        refine ho_val rfl rfl (ex_load rfl 3 rfl rfl (vbs_getD _ _ (by rw [kpad_length]; omega)) Tryd.underlying5 rfl) ?_
        refine ho_val rfl rfl (ex_xor8 (q := 92) rfl rfl) ?_
        refine ho_do rfl rfl (exw_list (xs := [.tmp 62]) rfl rfl rfl Tryd.underlying22 info5 rfl rfl (by decide)) (fun b63 hb63 => ?_)
        refine ho_pick _ (by decide) (.cons 3 rfl (.cons 0 rfl (.cons 1 rfl (.cons 2 rfl (.cons 4 rfl .nil))))) ?_
        refine ho_do rfl rfl (exw_call Tryd.func21 rfl (by kernel_rfl) rfl (val := fun _ : List UInt32 × List UInt8 => .int .i64 0) (hs' := fun x => ⟨some h46, hblk x.1 x.2 (((keyed k 92).take z.1) ++ ([(kpad k).getD z.1 0 ^^^ 92] : List UInt8)).length, 67, (0, 0)⟩ :: _) (pre := fun x => HSt (((keyed k 92).take z.1) ++ ([(kpad k).getD z.1 0 ^^^ 92] : List UInt8)) x.1 x.2) (fun w' hw' => (write_any ((keyed k 92).take z.1) ([(kpad k).getD z.1 0 ^^^ 92] : List UInt8) z.2.2.1 z.2.2.2 _ rfl hz2 h46 67 (some (b63, 0)) 1 (fun h => nomatch h) (fun h => nomatch h) (Nat.le_refl _) HL64 w' (hw'.own _ List.mem_cons_self h46 rfl) (Sk.own hw' 1 0 (by decide) rfl rfl rfl rfl all_get) (hK.old0 hw') (by omega)).mono fun e w2 ⟨S', R', h1, h2, h3⟩ => ⟨(S', R'), h1, h2, hw'.comp (A := [_]) (fun g hg => ⟨_, List.mem_cons_self, by rw [List.mem_singleton.1 hg]⟩) h3⟩)) (fun x64 hx64 => ?_)
        refine ho_nil ?_
        refine hk_block_normal ?_
        refine hk_then_code ?_
        refine hl_region ?_
        refine ho_val rfl rfl (ex_move rfl) ?_
        refine ho_val rfl rfl (ex_addN (q := 1) rfl rfl (by omega)) ?_
        refine ho_val rfl rfl (ex_assign rfl) ?_
        refine ho_nil ?_
        refine hk_then_normal ?_
        exact hk_round (z.1 + 1, x57, x64) ⟨by dsimp only; omega, by rw [← keyed_step k 54 z.1 hz5]; exact hx57, by rw [← keyed_step k 92 z.1 hz5]; exact hx64⟩ (by dsimp only; omega) ⟨rfl, rfl, rfl, rfl, rfl, rfl, trivial⟩ _ (by decide) (.cons 0 (by rw [← keyed_step k 92 z.1 hz5]; rfl) (.cons 2 (by rw [← keyed_step k 54 z.1 hz5]; rfl) (.cons 4 rfl .nil)))
      · try simp only [decide_eq_true_eq, decide_eq_false_iff_not, beq_iff_eq, beq_eq_false_iff_ne, bne_iff_ne, bne_eq_false_iff_eq, ne_eq, Int.not_lt, Int.not_le, gt_iff_lt, ge_iff_le] at hc3
        have hz6 : z.1 = 64 := by omega
        have HL67 : ((keyed k 54).take z.1).length + d.length ≤ 1152921504606846976 := by rw [List.length_take]; omega
        have HL72 : ((keyed k 92).take z.1).length + (sha tK tH (((keyed k 54).take z.1) ++ d)).length ≤ 1152921504606846976 := by rw [List.length_take, sha_length]; omega
        refine hl_exit ?_
        refine hk_then_exit ?_
        refine hk_then_exit ?_
        refine hk_block_hit ?_
        refine hk_then_code ?_
        refine hl_seq ?_
        refine hl_region ?_
        refine ho_val rfl rfl (ex_move rfl) ?_
        refine ho_val rfl rfl (ex_move rfl) ?_
        refine ho_pick _ (by decide) (.cons 1 rfl (.cons 0 rfl (.cons 2 rfl .nil))) ?_
        refine ho_do rfl rfl (exw_call Tryd.func21 rfl (by kernel_rfl) rfl (val := fun _ : List UInt32 × List UInt8 => .int .i64 0) (hs' := fun x => ⟨some h45, hblk x.1 x.2 (((keyed k 54).take z.1) ++ d).length, 67, (0, 0)⟩ :: _) (pre := fun x => HSt (((keyed k 54).take z.1) ++ d) x.1 x.2) (fun w' hw' => (write_any ((keyed k 54).take z.1) d z.2.1.1 z.2.1.2 _ rfl hz1 h45 67 q c2 (fun h => (hqe h).1) (fun h => (hqe h).2) hqc HL67 w' (hw'.own _ List.mem_cons_self h45 rfl) (Sk.older hT hw' (by intro a ha; rw [List.mem_singleton.1 ha]; exact ge45)) (hK.old0 hw') (by omega)).mono fun e w2 ⟨S', R', h1, h2, h3⟩ => ⟨(S', R'), h1, h2, hw'.comp (A := [_]) (fun g hg => ⟨_, List.mem_cons_self, by rw [List.mem_singleton.1 hg]⟩) h3⟩)) (fun x67 hx67 => ?_)
        refine ho_nil ?_
        refine hk_then_code ?_
        refine hl_seq ?_
        refine hl_region ?_
        refine ho_val rfl rfl (ex_move rfl) ?_
        refine ho_do rfl rfl (exw_call_pure Tryd.func23 rfl (by kernel_rfl) rfl (fun w' hw' => sum_any (((keyed k 54).take z.1) ++ d) x67.1 x67.2 hx67 h45 67 (by rw [List.length_append]; exact HL67) w' (hw'.own _ (List.mem_of_getElem? (i := 0) rfl) h45 rfl) (hK.old0 hw'))) (fun _ _ => ?_)
        refine ho_do rfl rfl (exw_alloc_cs (z := .agg (vbs (List.replicate 32 0))) (vbs (List.replicate 32 0)) (by kernel_rfl) rfl) (fun b11 hb11 => ?_)
        refine ho_do rfl rfl (exw_store_row0 rfl rfl (by rw [size25, vbs_size, sha_length]) (by rw [vbs_size, vbs_size, sha_length]; rfl) (vbs_one _)) (fun _ _ => ?_)
        refine ho_nil ?_
        refine hk_then_code ?_
        refine hl_seq ?_
        refine hl_region ?_
        refine ho_val rfl rfl (ex_move rfl) ?_
        refine ho_val rfl rfl (ex_slice_arr rfl Tryd.underlying25 _ size5) ?_
        refine ho_pick _ (by decide) (.cons 2 rfl (.cons 0 rfl (.cons 1 rfl (.cons 3 rfl .nil)))) ?_
        refine ho_do rfl rfl (exw_call Tryd.func21 rfl (by kernel_rfl) rfl (val := fun _ : List UInt32 × List UInt8 => .int .i64 0) (hs' := fun x => ⟨some h46, hblk x.1 x.2 (((keyed k 92).take z.1) ++ (sha tK tH (((keyed k 54).take z.1) ++ d))).length, 67, (0, 0)⟩ :: _) (pre := fun x => HSt (((keyed k 92).take z.1) ++ (sha tK tH (((keyed k 54).take z.1) ++ d))) x.1 x.2) (fun w' hw' => (write_any ((keyed k 92).take z.1) (sha tK tH (((keyed k 54).take z.1) ++ d)) z.2.2.1 z.2.2.2 _ (sha_length _ _ _) hz2 h46 67 (some (b11, 0)) 32 (fun h => nomatch h) (fun h => nomatch h) (by rw [sha_length]; exact Nat.le_refl _) HL72 w' (hw'.own _ List.mem_cons_self h46 rfl) (Sk.own hw' 1 0 (by decide) rfl rfl rfl rfl vbs_get') (hK.old0 hw') (by omega)).mono fun e w2 ⟨S', R', h1, h2, h3⟩ => ⟨(S', R'), h1, h2, hw'.comp (A := [_]) (fun g hg => ⟨_, List.mem_cons_self, by rw [List.mem_singleton.1 hg]⟩) h3⟩)) (fun x72 hx72 => ?_)
        refine ho_nil ?_
        refine hk_then_code ?_
        refine hl_seq ?_
        refine hl_region ?_
        refine ho_val rfl rfl (ex_move rfl) ?_
        refine ho_do rfl rfl (exw_call_pure Tryd.func23 rfl (by kernel_rfl) rfl (fun w' hw' => sum_any (((keyed k 92).take z.1) ++ (sha tK tH (((keyed k 54).take z.1) ++ d))) x72.1 x72.2 hx72 h46 67 (by rw [List.length_append]; exact HL72) w' (hw'.own _ (List.mem_of_getElem? (i := 0) rfl) h46 rfl) (hK.old0 hw'))) (fun _ _ => ?_)
        refine ho_val rfl rfl (ex_move rfl) ?_
        refine ho_val rfl rfl (ex_move rfl) ?_
        refine ho_do rfl rfl (exw_call_pure Tryd.func32 rfl (by kernel_rfl) rfl (fun w' hw' => mac_any k d _ _ rfl rfl p c (fun h => (hne h).1) (fun h => (hne h).2) hlc q c2 (fun h => (hqe h).1) (fun h => (hqe h).2) hqc (by omega) (by omega) w' (hS.old0 hw') (hT.old0 hw') (hH.old0 hw') (hK.old0 hw'))) (fun _ _ => ?_)
        refine ho_val rfl rfl (ex_eql_arr (b := true) rfl rfl Tryd.underlying25 Tryd.underlying5 size5 (by kernel_rfl) (sha_length _ _ _) (hmac_length _ _) (eql_true_of_eq (keyed_done k d hz6))) ?_
        refine ho_val rfl rfl (ex_move rfl) ?_
        refine ho_do_want rfl rfl rfl rfl rfl (exw_call_pure Tryd.func13 rfl (by kernel_rfl) rfl (fun w' hw' => of_any [] 0 rfl none 0 (fun _ => rfl) (fun _ => rfl) (Nat.le_refl _) (by decide) w' (Sl.nil _ _) (hH.old0 hw') (hK.old0 hw'))) (fun _ _ => ?_)
        refine ho_do_want rfl rfl rfl rfl rfl (exw_call_pure Tryd.func31 rfl (by kernel_rfl) rfl (fun w' hw' => hex32_any (sha tK tH []) (sha_length _ _ _) w')) (fun _ _ => ?_)
        refine ho_want rfl rfl rfl rfl rfl (ex_str_hi (j := 4) rfl rfl Tryd.underlying9 (by rw [hexOf_length, sha_length]; decide)) ?_
        refine ho_want rfl rfl rfl rfl rfl (ex_eql_str (b := true) rfl rfl sha_nil4) ?_
        refine ho_val rfl rfl (ex_pick_true rfl rfl) ?_
        refine ho_val rfl rfl (ex_assign rfl) ?_
        refine ho_nil ?_
        refine hk_then_code ?_
        refine hl_ret ?_
        exact hk_ret rfl rfl (fun w' hw' => ⟨rfl, hw'.below⟩)
  · try simp only [decide_eq_true_eq, decide_eq_false_iff_not, beq_iff_eq, beq_eq_false_iff_ne, bne_iff_ne, bne_eq_false_iff_eq, ne_eq, Int.not_lt, Int.not_le, gt_iff_lt, ge_iff_le] at hc0
    refine hl_region ?_
    refine ho_val rfl rfl (ex_slice_arr rfl Tryd.underlying53 _ size5) ?_
    refine ho_val rfl rfl (ex_move rfl) ?_
    refine ho_do rfl rfl (exw_copy0 (g := b5) (o := 0) (m := 64) (c := 64) rfl rfl (fun w' hw' => hS.old0 hw') (by rw [List.length_map]; exact (Nat.min_eq_left (by omega)).symm) (map_vb_one _) Tryd.underlying22 size5 (by rw [vbs_size, List.length_map, List.length_replicate]; omega) hne (nk := k.length) (by rw [List.length_map]) (copy_short (by omega))) (fun _ _ => ?_)
    refine ho_nil ?_
    refine hk_then_code ?_
    refine hl_seq ?_
    refine hl_seq ?_
    refine hl_region ?_
    refine ho_val rfl rfl (ex_move rfl) ?_
    refine ho_val rfl rfl (ex_len_slice rfl Tryd.underlying22) ?_
    refine ho_val rfl rfl (ex_lss rfl rfl rfl) ?_
    refine ho_nil ?_
    refine hk_then_code ?_
    refine hl_if rfl (fun hc4 => ?_) (fun hc4 => ?_)
    · try simp only [decide_eq_true_eq, decide_eq_false_iff_not, beq_iff_eq, beq_eq_false_iff_ne, bne_iff_ne, bne_eq_false_iff_eq, ne_eq, Int.not_lt, Int.not_le, gt_iff_lt, ge_iff_le] at hc4
      refine hl_seq ?_
      refine hl_region ?_
      refine ho_val rfl rfl (ex_assign rfl) ?_
      refine ho_nil ?_
      refine hk_then_code ?_
      refine hl_seq ?_
      refine hl_region ?_
      refine ho_val rfl rfl (ex_move rfl) ?_
      refine ho_val rfl rfl (ex_move rfl) ?_
      refine ho_nil_block 5 ?_
      refine ho_do rfl rfl (exw_append0 (o := none) (m := 0) (c := 0) (xs := []) (rest := []) rfl rfl rfl (RowOk.start _) (fun w' hw' => hS.old0 hw') (by simp) (map_vb_one _) Tryd.underlying22 info5 rfl (by decide) (by omega) (by simp only [maxLen]; omega) hne) (fun y35 hk35 => ?_)
      refine ho_do rfl rfl (exw_list (xs := [.const (.int .u8 0)]) rfl rfl rfl Tryd.underlying22 info5 rfl rfl (by decide)) (fun b36 hb36 => ?_)
      refine ho_pick _ (by decide) (.cons 1 rfl (.cons 0 rfl (.cons 2 rfl .nil))) ?_
      refine ho_do rfl rfl (exw_append0 (rest := y35.2.2) rfl rfl rfl hk35 (fun w hw => Sl.ownAll hw 1 rfl) rfl (by simp only [List.mem_cons, List.not_mem_nil, or_false, forall_eq]; rfl) Tryd.underlying22 info5 rfl (by decide) (by omega) (by simp only [maxLen]; omega) (fun h => nomatch h)) (fun y37 hk37 => ?_)
      refine ho_val rfl rfl (ex_assign rfl) ?_
      refine ho_nil ?_
      refine hk_then_code ?_
      refine hl_seq ?_
      refine hl_region ?_
      refine ho_val rfl rfl (ex_move rfl) ?_
      refine ho_val rfl rfl (ex_move rfl) ?_
      refine ho_do rfl rfl (exw_call_pure Tryd.func32 rfl (by kernel_rfl) rfl (fun w' hw' => mac_any (k ++ [0]) d _ _ (by rw [List.length_append, List.length_singleton]; omega) rfl (rowp y37.1) y37.2.1 (fun h => by have := hk37.empty' h; omega) (fun h => (hk37.empty' h).2) (by have := hk37.le; rw [List.length_append, List.length_singleton]; omega) q c2 (fun h => (hqe h).1) (fun h => (hqe h).2) hqc (by rw [List.length_append, List.length_singleton]; omega) (by omega) w' (show Sl w' _ ((k ++ [0]).map vb) by have h := Sl.ownRow hw' 0 rfl (fun h => RowOk.empty hk37 h); rw [List.map_append]; exact h) (hT.old0 hw') (hH.old0 hw') (hK.old0 hw'))) (fun _ _ => ?_)
      refine ho_val rfl rfl (ex_move rfl) ?_
      refine ho_val rfl rfl (ex_move rfl) ?_
      refine ho_do rfl rfl (exw_call_pure Tryd.func32 rfl (by kernel_rfl) rfl (fun w' hw' => mac_any k d _ _ rfl rfl p c (fun h => (hne h).1) (fun h => (hne h).2) hlc q c2 (fun h => (hqe h).1) (fun h => (hqe h).2) hqc (by omega) (by omega) w' (hS.old0 hw') (hT.old0 hw') (hH.old0 hw') (hK.old0 hw'))) (fun _ _ => ?_)
      refine ho_val rfl rfl (ex_neq_arr (b := false) rfl rfl Tryd.underlying25 Tryd.underlying5 size5 (by kernel_rfl) (hmac_length _ _) (hmac_length _ _) (neq_false_of_eq (hmac_zero d (by omega)))) ?_
      refine ho_nil ?_
      refine hk_then_code ?_
      refine hl_false rfl ?_
      refine hl_skip ?_
      refine hk_then_code ?_
      refine hl_seq ?_
      refine hl_region ?_
      refine ho_do rfl rfl (exw_call Tryd.func19 rfl (by kernel_rfl) rfl (val := fun x : Nat => .pointer (some ⟨x, 0, none⟩)) (hs' := fun x => ⟨some x, hblk tH (List.replicate 64 0) 0, 67, (0, 0)⟩ :: _) (pre := fun x => w.heap.size ≤ x) (fun w' hw' => (new_any w' (hH.old0 hw')).mono fun e w2 ⟨g, h1, h2⟩ => ⟨g, Nat.le_trans hw'.size h2.fresh, h1, hw'.comp (A := []) (by simp) h2⟩)) (fun h45 ge45 => ?_)
      refine ho_val rfl rfl (ex_assign rfl) ?_
      refine ho_nil ?_
      refine hk_then_code ?_
      refine hl_seq ?_
      refine hl_region ?_
      refine ho_do rfl rfl (exw_call Tryd.func19 rfl (by kernel_rfl) rfl (val := fun x : Nat => .pointer (some ⟨x, 0, none⟩)) (hs' := fun x => ⟨some x, hblk tH (List.replicate 64 0) 0, 67, (0, 0)⟩ :: _) (pre := fun x => w.heap.size ≤ x) (fun w' hw' => (new_any w' (hH.old0 hw')).mono fun e w2 ⟨g, h1, h2⟩ => ⟨g, Nat.le_trans hw'.size h2.fresh, h1, hw'.comp (A := []) (by simp) h2⟩)) (fun h46 ge46 => ?_)
      refine ho_val rfl rfl (ex_assign rfl) ?_
      refine ho_nil ?_
      refine hk_then_code ?_
      refine hl_seq ?_
      refine hl_seq ?_
      refine hl_region ?_
      refine ho_val rfl rfl (ex_assign rfl) ?_
      refine ho_nil ?_
      refine hk_then_code ?_
      refine hl_block ?_
      refine hl_loop (G := Nat × (List UInt32 × List UInt8) × (List UInt32 × List UInt8)) (fun z => 64 - z.1) (fun z => z.1 ≤ 64 ∧ HSt ((keyed k 54).take z.1) z.2.1.1 z.2.1.2 ∧ HSt ((keyed k 92).take z.1) z.2.2.1 z.2.2.2) (fun z => [(0, slv p k.length c), (1, slv q d.length c2), (5, .pointer (some ⟨b5, 0, none⟩)), (8, .pointer (some ⟨h45, 0, none⟩)), (9, .pointer (some ⟨h46, 0, none⟩)), (10, .int .i64 (z.1 : Nat))]) (fun z => [⟨some h46, hblk z.2.2.1 z.2.2.2 ((keyed k 92).take z.1).length, 67, (0, 0)⟩, ⟨some h45, hblk z.2.1.1 z.2.1.2 ((keyed k 54).take z.1).length, 67, (0, 0)⟩, ⟨some b5, vbs (kpad k), 53, (0, 0)⟩]) (0, (tH, (List.replicate 64 0)), (tH, (List.replicate 64 0))) ⟨Nat.zero_le _, HSt.start, HSt.start⟩ ⟨rfl, rfl, rfl, rfl, rfl, rfl, trivial⟩ _ (by decide) (.cons 0 rfl (.cons 1 rfl (.cons 4 rfl .nil))) (fun z ⟨hz, hz1, hz2⟩ => ?_)
      refine hl_seq ?_
      refine hl_seq ?_
      refine hl_region ?_
      refine ho_val rfl rfl (ex_move rfl) ?_
      refine ho_val rfl rfl (ex_lss rfl rfl rfl) ?_
      refine ho_nil ?_
      refine hk_then_code ?_
      refine hl_if rfl (fun hc6 => ?_) (fun hc6 => ?_)
      · try simp only [decide_eq_true_eq, decide_eq_false_iff_not, beq_iff_eq, beq_eq_false_iff_ne, bne_iff_ne, bne_eq_false_iff_eq, ne_eq, Int.not_lt, Int.not_le, gt_iff_lt, ge_iff_le] at hc6
        have hz5 : z.1 < 64 := by omega
        have HL57 : ((keyed k 54).take z.1).length + ([(kpad k).getD z.1 0 ^^^ 54] : List UInt8).length ≤ 1152921504606846976 := by rw [List.length_take, List.length_singleton]; omega
        have HL64 : ((keyed k 92).take z.1).length + ([(kpad k).getD z.1 0 ^^^ 92] : List UInt8).length ≤ 1152921504606846976 := by rw [List.length_take, List.length_singleton]; omega
        refine hl_skip ?_
        refine hk_then_code ?_
        refine hl_seq ?_
        refine hl_block ?_
        refine hl_seq ?_
        refine hl_region ?_
        refine ho_val rfl rfl (ex_move rfl) ?_
        refine ho_val rfl rfl (ex_move rfl) ?_
        refine ho_val rfl rfl (ex_addr_arr0 rfl rfl Tryd.underlying53 size5 (by omega)) ?_
        refine ho_val rfl rfl (ex_load rfl 2 rfl rfl (vbs_getD _ _ (by rw [kpad_length]; omega)) Tryd.underlying5 rfl) ?_
        refine ho_val rfl rfl (ex_xor8 (q := 54) rfl rfl) ?_
        refine ho_do rfl rfl (exw_list (xs := [.tmp 55]) rfl rfl rfl Tryd.underlying22 info5 rfl rfl (by decide)) (fun b56 hb56 => ?_)
        refine ho_pick _ (by decide) (.cons 2 rfl (.cons 0 rfl (.cons 1 rfl (.cons 3 rfl .nil)))) ?_
        refine ho_do rfl rfl (exw_call Tryd.func21 rfl (by kernel_rfl) rfl (val := fun _ : List UInt32 × List UInt8 => .int .i64 0) (hs' := fun x => ⟨some h45, hblk x.1 x.2 (((keyed k 54).take z.1) ++ ([(kpad k).getD z.1 0 ^^^ 54] : List UInt8)).length, 67, (0, 0)⟩ :: _) (pre := fun x => HSt (((keyed k 54).take z.1) ++ ([(kpad k).getD z.1 0 ^^^ 54] : List UInt8)) x.1 x.2) (fun w' hw' => (write_any ((keyed k 54).take z.1) ([(kpad k).getD z.1 0 ^^^ 54] : List UInt8) z.2.1.1 z.2.1.2 _ rfl hz1 h45 67 (some (b56, 0)) 1 (fun h => nomatch h) (fun h => nomatch h) (Nat.le_refl _) HL57 w' (hw'.own _ List.mem_cons_self h45 rfl) (Sk.own hw' 1 0 (by decide) rfl rfl rfl rfl all_get) (hK.old0 hw') (by omega)).mono fun e w2 ⟨S', R', h1, h2, h3⟩ => ⟨(S', R'), h1, h2, hw'.comp (A := [_]) (fun g hg => ⟨_, List.mem_cons_self, by rw [List.mem_singleton.1 hg]⟩) h3⟩)) (fun x57 hx57 => ?_)
        refine ho_nil ?_
        refine hk_then_code ?_
        refine hl_region ?_
        refine ho_val rfl rfl (ex_move rfl) ?_
        refine ho_val rfl rfl (ex_move rfl) ?_
        refine ho_val rfl rfl (ex_addr_arr0 rfl rfl Tryd.underlying53 size5 (by omega)) ?_
        refine ho_val rfl rfl (ex_load rfl 3 rfl rfl (vbs_getD _ _ (by rw [kpad_length]; omega)) Tryd.underlying5 rfl) ?_
        refine ho_val rfl rfl (ex_xor8 (q := 92) rfl rfl) ?_
        refine ho_do rfl rfl (exw_list (xs := [.tmp 62]) rfl rfl rfl Tryd.underlying22 info5 rfl rfl (by decide)) (fun b63 hb63 => ?_)
        refine ho_pick _ (by decide) (.cons 3 rfl (.cons 0 rfl (.cons 1 rfl (.cons 2 rfl (.cons 4 rfl .nil))))) ?_
        refine ho_do rfl rfl (exw_call Tryd.func21 rfl (by kernel_rfl) rfl (val := fun _ : List UInt32 × List UInt8 => .int .i64 0) (hs' := fun x => ⟨some h46, hblk x.1 x.2 (((keyed k 92).take z.1) ++ ([(kpad k).getD z.1 0 ^^^ 92] : List UInt8)).length, 67, (0, 0)⟩ :: _) (pre := fun x => HSt (((keyed k 92).take z.1) ++ ([(kpad k).getD z.1 0 ^^^ 92] : List UInt8)) x.1 x.2) (fun w' hw' => (write_any ((keyed k 92).take z.1) ([(kpad k).getD z.1 0 ^^^ 92] : List UInt8) z.2.2.1 z.2.2.2 _ rfl hz2 h46 67 (some (b63, 0)) 1 (fun h => nomatch h) (fun h => nomatch h) (Nat.le_refl _) HL64 w' (hw'.own _ List.mem_cons_self h46 rfl) (Sk.own hw' 1 0 (by decide) rfl rfl rfl rfl all_get) (hK.old0 hw') (by omega)).mono fun e w2 ⟨S', R', h1, h2, h3⟩ => ⟨(S', R'), h1, h2, hw'.comp (A := [_]) (fun g hg => ⟨_, List.mem_cons_self, by rw [List.mem_singleton.1 hg]⟩) h3⟩)) (fun x64 hx64 => ?_)
        refine ho_nil ?_
        refine hk_block_normal ?_
        refine hk_then_code ?_
        refine hl_region ?_
        refine ho_val rfl rfl (ex_move rfl) ?_
        refine ho_val rfl rfl (ex_addN (q := 1) rfl rfl (by omega)) ?_
        refine ho_val rfl rfl (ex_assign rfl) ?_
        refine ho_nil ?_
        refine hk_then_normal ?_
        exact hk_round (z.1 + 1, x57, x64) ⟨by dsimp only; omega, by rw [← keyed_step k 54 z.1 hz5]; exact hx57, by rw [← keyed_step k 92 z.1 hz5]; exact hx64⟩ (by dsimp only; omega) ⟨rfl, rfl, rfl, rfl, rfl, rfl, trivial⟩ _ (by decide) (.cons 0 (by rw [← keyed_step k 92 z.1 hz5]; rfl) (.cons 2 (by rw [← keyed_step k 54 z.1 hz5]; rfl) (.cons 4 rfl .nil)))
      · try simp only [decide_eq_true_eq, decide_eq_false_iff_not, beq_iff_eq, beq_eq_false_iff_ne, bne_iff_ne, bne_eq_false_iff_eq, ne_eq, Int.not_lt, Int.not_le, gt_iff_lt, ge_iff_le] at hc6
        have hz6 : z.1 = 64 := by omega
        have HL67 : ((keyed k 54).take z.1).length + d.length ≤ 1152921504606846976 := by rw [List.length_take]; omega
        have HL72 : ((keyed k 92).take z.1).length + (sha tK tH (((keyed k 54).take z.1) ++ d)).length ≤ 1152921504606846976 := by rw [List.length_take, sha_length]; omega
        refine hl_exit ?_
        refine hk_then_exit ?_
        refine hk_then_exit ?_
        refine hk_block_hit ?_
        refine hk_then_code ?_
        refine hl_seq ?_
        refine hl_region ?_
        refine ho_val rfl rfl (ex_move rfl) ?_
        refine ho_val rfl rfl (ex_move rfl) ?_
        refine ho_pick _ (by decide) (.cons 1 rfl (.cons 0 rfl (.cons 2 rfl .nil))) ?_
        refine ho_do rfl rfl (exw_call Tryd.func21 rfl (by kernel_rfl) rfl (val := fun _ : List UInt32 × List UInt8 => .int .i64 0) (hs' := fun x => ⟨some h45, hblk x.1 x.2 (((keyed k 54).take z.1) ++ d).length, 67, (0, 0)⟩ :: _) (pre := fun x => HSt (((keyed k 54).take z.1) ++ d) x.1 x.2) (fun w' hw' => (write_any ((keyed k 54).take z.1) d z.2.1.1 z.2.1.2 _ rfl hz1 h45 67 q c2 (fun h => (hqe h).1) (fun h => (hqe h).2) hqc HL67 w' (hw'.own _ List.mem_cons_self h45 rfl) (Sk.older hT hw' (by intro a ha; rw [List.mem_singleton.1 ha]; exact ge45)) (hK.old0 hw') (by omega)).mono fun e w2 ⟨S', R', h1, h2, h3⟩ => ⟨(S', R'), h1, h2, hw'.comp (A := [_]) (fun g hg => ⟨_, List.mem_cons_self, by rw [List.mem_singleton.1 hg]⟩) h3⟩)) (fun x67 hx67 => ?_)
        refine ho_nil ?_
        refine hk_then_code ?_
        refine hl_seq ?_
        refine hl_region ?_
        refine ho_val rfl rfl (ex_move rfl) ?_
        refine ho_do rfl rfl (exw_call_pure Tryd.func23 rfl (by kernel_rfl) rfl (fun w' hw' => sum_any (((keyed k 54).take z.1) ++ d) x67.1 x67.2 hx67 h45 67 (by rw [List.length_append]; exact HL67) w' (hw'.own _ (List.mem_of_getElem? (i := 0) rfl) h45 rfl) (hK.old0 hw'))) (fun _ _ => ?_)
        refine ho_do rfl rfl (exw_alloc_cs (z := .agg (vbs (List.replicate 32 0))) (vbs (List.replicate 32 0)) (by kernel_rfl) rfl) (fun b11 hb11 => ?_)
        refine ho_do rfl rfl (exw_store_row0 rfl rfl (by rw [size25, vbs_size, sha_length]) (by rw [vbs_size, vbs_size, sha_length]; rfl) (vbs_one _)) (fun _ _ => ?_)
        refine ho_nil ?_
        refine hk_then_code ?_
        refine hl_seq ?_
        refine hl_region ?_
        refine ho_val rfl rfl (ex_move rfl) ?_
        refine ho_val rfl rfl (ex_slice_arr rfl Tryd.underlying25 _ size5) ?_
        refine ho_pick _ (by decide) (.cons 2 rfl (.cons 0 rfl (.cons 1 rfl (.cons 3 rfl .nil)))) ?_
        refine ho_do rfl rfl (exw_call Tryd.func21 rfl (by kernel_rfl) rfl (val := fun _ : List UInt32 × List UInt8 => .int .i64 0) (hs' := fun x => ⟨some h46, hblk x.1 x.2 (((keyed k 92).take z.1) ++ (sha tK tH (((keyed k 54).take z.1) ++ d))).length, 67, (0, 0)⟩ :: _) (pre := fun x => HSt (((keyed k 92).take z.1) ++ (sha tK tH (((keyed k 54).take z.1) ++ d))) x.1 x.2) (fun w' hw' => (write_any ((keyed k 92).take z.1) (sha tK tH (((keyed k 54).take z.1) ++ d)) z.2.2.1 z.2.2.2 _ (sha_length _ _ _) hz2 h46 67 (some (b11, 0)) 32 (fun h => nomatch h) (fun h => nomatch h) (by rw [sha_length]; exact Nat.le_refl _) HL72 w' (hw'.own _ List.mem_cons_self h46 rfl) (Sk.own hw' 1 0 (by decide) rfl rfl rfl rfl vbs_get') (hK.old0 hw') (by omega)).mono fun e w2 ⟨S', R', h1, h2, h3⟩ => ⟨(S', R'), h1, h2, hw'.comp (A := [_]) (fun g hg => ⟨_, List.mem_cons_self, by rw [List.mem_singleton.1 hg]⟩) h3⟩)) (fun x72 hx72 => ?_)
        refine ho_nil ?_
        refine hk_then_code ?_
        refine hl_seq ?_
        refine hl_region ?_
        refine ho_val rfl rfl (ex_move rfl) ?_
        refine ho_do rfl rfl (exw_call_pure Tryd.func23 rfl (by kernel_rfl) rfl (fun w' hw' => sum_any (((keyed k 92).take z.1) ++ (sha tK tH (((keyed k 54).take z.1) ++ d))) x72.1 x72.2 hx72 h46 67 (by rw [List.length_append]; exact HL72) w' (hw'.own _ (List.mem_of_getElem? (i := 0) rfl) h46 rfl) (hK.old0 hw'))) (fun _ _ => ?_)
        refine ho_val rfl rfl (ex_move rfl) ?_
        refine ho_val rfl rfl (ex_move rfl) ?_
        refine ho_do rfl rfl (exw_call_pure Tryd.func32 rfl (by kernel_rfl) rfl (fun w' hw' => mac_any k d _ _ rfl rfl p c (fun h => (hne h).1) (fun h => (hne h).2) hlc q c2 (fun h => (hqe h).1) (fun h => (hqe h).2) hqc (by omega) (by omega) w' (hS.old0 hw') (hT.old0 hw') (hH.old0 hw') (hK.old0 hw'))) (fun _ _ => ?_)
        refine ho_val rfl rfl (ex_eql_arr (b := true) rfl rfl Tryd.underlying25 Tryd.underlying5 size5 (by kernel_rfl) (sha_length _ _ _) (hmac_length _ _) (eql_true_of_eq (keyed_done k d hz6))) ?_
        refine ho_val rfl rfl (ex_move rfl) ?_
        refine ho_do_want rfl rfl rfl rfl rfl (exw_call_pure Tryd.func13 rfl (by kernel_rfl) rfl (fun w' hw' => of_any [] 0 rfl none 0 (fun _ => rfl) (fun _ => rfl) (Nat.le_refl _) (by decide) w' (Sl.nil _ _) (hH.old0 hw') (hK.old0 hw'))) (fun _ _ => ?_)
        refine ho_do_want rfl rfl rfl rfl rfl (exw_call_pure Tryd.func31 rfl (by kernel_rfl) rfl (fun w' hw' => hex32_any (sha tK tH []) (sha_length _ _ _) w')) (fun _ _ => ?_)
        refine ho_want rfl rfl rfl rfl rfl (ex_str_hi (j := 4) rfl rfl Tryd.underlying9 (by rw [hexOf_length, sha_length]; decide)) ?_
        refine ho_want rfl rfl rfl rfl rfl (ex_eql_str (b := true) rfl rfl sha_nil4) ?_
        refine ho_val rfl rfl (ex_pick_true rfl rfl) ?_
        refine ho_val rfl rfl (ex_assign rfl) ?_
        refine ho_nil ?_
        refine hk_then_code ?_
        refine hl_ret ?_
        exact hk_ret rfl rfl (fun w' hw' => ⟨rfl, hw'.below⟩)
    · try simp only [decide_eq_true_eq, decide_eq_false_iff_not, beq_iff_eq, beq_eq_false_iff_ne, bne_iff_ne, bne_eq_false_iff_eq, ne_eq, Int.not_lt, Int.not_le, gt_iff_lt, ge_iff_le] at hc4
      refine hl_skip ?_
      refine hk_then_code ?_
      refine hl_seq ?_
      refine hl_region ?_
      refine ho_do rfl rfl (exw_call Tryd.func19 rfl (by kernel_rfl) rfl (val := fun x : Nat => .pointer (some ⟨x, 0, none⟩)) (hs' := fun x => ⟨some x, hblk tH (List.replicate 64 0) 0, 67, (0, 0)⟩ :: _) (pre := fun x => w.heap.size ≤ x) (fun w' hw' => (new_any w' (hH.old0 hw')).mono fun e w2 ⟨g, h1, h2⟩ => ⟨g, Nat.le_trans hw'.size h2.fresh, h1, hw'.comp (A := []) (by simp) h2⟩)) (fun h45 ge45 => ?_)
      refine ho_val rfl rfl (ex_assign rfl) ?_
      refine ho_nil ?_
      refine hk_then_code ?_
      refine hl_seq ?_
      refine hl_region ?_
      refine ho_do rfl rfl (exw_call Tryd.func19 rfl (by kernel_rfl) rfl (val := fun x : Nat => .pointer (some ⟨x, 0, none⟩)) (hs' := fun x => ⟨some x, hblk tH (List.replicate 64 0) 0, 67, (0, 0)⟩ :: _) (pre := fun x => w.heap.size ≤ x) (fun w' hw' => (new_any w' (hH.old0 hw')).mono fun e w2 ⟨g, h1, h2⟩ => ⟨g, Nat.le_trans hw'.size h2.fresh, h1, hw'.comp (A := []) (by simp) h2⟩)) (fun h46 ge46 => ?_)
      refine ho_val rfl rfl (ex_assign rfl) ?_
      refine ho_nil ?_
      refine hk_then_code ?_
      refine hl_seq ?_
      refine hl_seq ?_
      refine hl_region ?_
      refine ho_val rfl rfl (ex_assign rfl) ?_
      refine ho_nil ?_
      refine hk_then_code ?_
      refine hl_block ?_
      refine hl_loop (G := Nat × (List UInt32 × List UInt8) × (List UInt32 × List UInt8)) (fun z => 64 - z.1) (fun z => z.1 ≤ 64 ∧ HSt ((keyed k 54).take z.1) z.2.1.1 z.2.1.2 ∧ HSt ((keyed k 92).take z.1) z.2.2.1 z.2.2.2) (fun z => [(0, slv p k.length c), (1, slv q d.length c2), (5, .pointer (some ⟨b5, 0, none⟩)), (8, .pointer (some ⟨h45, 0, none⟩)), (9, .pointer (some ⟨h46, 0, none⟩)), (10, .int .i64 (z.1 : Nat))]) (fun z => [⟨some h46, hblk z.2.2.1 z.2.2.2 ((keyed k 92).take z.1).length, 67, (0, 0)⟩, ⟨some h45, hblk z.2.1.1 z.2.1.2 ((keyed k 54).take z.1).length, 67, (0, 0)⟩, ⟨some b5, vbs (kpad k), 53, (0, 0)⟩]) (0, (tH, (List.replicate 64 0)), (tH, (List.replicate 64 0))) ⟨Nat.zero_le _, HSt.start, HSt.start⟩ ⟨rfl, rfl, rfl, rfl, rfl, rfl, trivial⟩ _ (by decide) (.cons 0 rfl (.cons 1 rfl (.cons 2 rfl .nil))) (fun z ⟨hz, hz1, hz2⟩ => ?_)
      refine hl_seq ?_
      refine hl_seq ?_
      refine hl_region ?_
      refine ho_val rfl rfl (ex_move rfl) ?_
      refine ho_val rfl rfl (ex_lss rfl rfl rfl) ?_
      refine ho_nil ?_
      refine hk_then_code ?_
      refine hl_if rfl (fun hc7 => ?_) (fun hc7 => ?_)
      · try simp only [decide_eq_true_eq, decide_eq_false_iff_not, beq_iff_eq, beq_eq_false_iff_ne, bne_iff_ne, bne_eq_false_iff_eq, ne_eq, Int.not_lt, Int.not_le, gt_iff_lt, ge_iff_le] at hc7
        have hz5 : z.1 < 64 := by omega
        have HL57 : ((keyed k 54).take z.1).length + ([(kpad k).getD z.1 0 ^^^ 54] : List UInt8).length ≤ 1152921504606846976 := by rw [List.length_take, List.length_singleton]; omega
        have HL64 : ((keyed k 92).take z.1).length + ([(kpad k).getD z.1 0 ^^^ 92] : List UInt8).length ≤ 1152921504606846976 := by rw [List.length_take, List.length_singleton]; omega
        refine hl_skip ?_
        refine hk_then_code ?_
        refine hl_seq ?_
        refine hl_block ?_
        refine hl_seq ?_
        refine hl_region ?_
        refine ho_val rfl rfl (ex_move rfl) ?_
        refine ho_val rfl rfl (ex_move rfl) ?_
        refine ho_val rfl rfl (ex_addr_arr0 rfl rfl Tryd.underlying53 size5 (by omega)) ?_
        refine ho_val rfl rfl (ex_load rfl 2 rfl rfl (vbs_getD _ _ (by rw [kpad_length]; omega)) Tryd.underlying5 rfl) ?_
        refine ho_val rfl rfl (ex_xor8 (q := 54) rfl rfl) ?_
        refine ho_do rfl rfl (exw_list (xs := [.tmp 55]) rfl rfl rfl Tryd.underlying22 info5 rfl rfl (by decide)) (fun b56 hb56 => ?_)
        refine ho_pick _ (by decide) (.cons 2 rfl (.cons 0 rfl (.cons 1 rfl (.cons 3 rfl .nil)))) ?_
        refine ho_do rfl rfl (exw_call Tryd.func21 rfl (by kernel_rfl) rfl (val := fun _ : List UInt32 × List UInt8 => .int .i64 0) (hs' := fun x => ⟨some h45, hblk x.1 x.2 (((keyed k 54).take z.1) ++ ([(kpad k).getD z.1 0 ^^^ 54] : List UInt8)).length, 67, (0, 0)⟩ :: _) (pre := fun x => HSt (((keyed k 54).take z.1) ++ ([(kpad k).getD z.1 0 ^^^ 54] : List UInt8)) x.1 x.2) (fun w' hw' => (write_any ((keyed k 54).take z.1) ([(kpad k).getD z.1 0 ^^^ 54] : List UInt8) z.2.1.1 z.2.1.2 _ rfl hz1 h45 67 (some (b56, 0)) 1 (fun h => nomatch h) (fun h => nomatch h) (Nat.le_refl _) HL57 w' (hw'.own _ List.mem_cons_self h45 rfl) (Sk.own hw' 1 0 (by decide) rfl rfl rfl rfl all_get) (hK.old0 hw') (by omega)).mono fun e w2 ⟨S', R', h1, h2, h3⟩ => ⟨(S', R'), h1, h2, hw'.comp (A := [_]) (fun g hg => ⟨_, List.mem_cons_self, by rw [List.mem_singleton.1 hg]⟩) h3⟩)) (fun x57 hx57 => ?_)
        refine ho_nil ?_
        refine hk_then_code ?_
        refine hl_region ?_
        refine ho_val rfl rfl (ex_move rfl) ?_
        refine ho_val rfl rfl (ex_move rfl) ?_
        refine ho_val rfl rfl (ex_addr_arr0 rfl rfl Tryd.underlying53 size5 (by omega)) ?_
        refine ho_val rfl rfl (ex_load rfl 3 rfl rfl (vbs_getD _ _ (by rw [kpad_length]; omega)) Tryd.underlying5 rfl) ?_
        refine ho_val rfl rfl (ex_xor8 (q := 92) rfl rfl) ?_
        refine ho_do rfl rfl (exw_list (xs := [.tmp 62]) rfl rfl rfl Tryd.underlying22 info5 rfl rfl (by decide)) (fun b63 hb63 => ?_)
        refine ho_pick _ (by decide) (.cons 3 rfl (.cons 0 rfl (.cons 1 rfl (.cons 2 rfl (.cons 4 rfl .nil))))) ?_
        refine ho_do rfl rfl (exw_call Tryd.func21 rfl (by kernel_rfl) rfl (val := fun _ : List UInt32 × List UInt8 => .int .i64 0) (hs' := fun x => ⟨some h46, hblk x.1 x.2 (((keyed k 92).take z.1) ++ ([(kpad k).getD z.1 0 ^^^ 92] : List UInt8)).length, 67, (0, 0)⟩ :: _) (pre := fun x => HSt (((keyed k 92).take z.1) ++ ([(kpad k).getD z.1 0 ^^^ 92] : List UInt8)) x.1 x.2) (fun w' hw' => (write_any ((keyed k 92).take z.1) ([(kpad k).getD z.1 0 ^^^ 92] : List UInt8) z.2.2.1 z.2.2.2 _ rfl hz2 h46 67 (some (b63, 0)) 1 (fun h => nomatch h) (fun h => nomatch h) (Nat.le_refl _) HL64 w' (hw'.own _ List.mem_cons_self h46 rfl) (Sk.own hw' 1 0 (by decide) rfl rfl rfl rfl all_get) (hK.old0 hw') (by omega)).mono fun e w2 ⟨S', R', h1, h2, h3⟩ => ⟨(S', R'), h1, h2, hw'.comp (A := [_]) (fun g hg => ⟨_, List.mem_cons_self, by rw [List.mem_singleton.1 hg]⟩) h3⟩)) (fun x64 hx64 => ?_)
        refine ho_nil ?_
        refine hk_block_normal ?_
        refine hk_then_code ?_
        refine hl_region ?_
        refine ho_val rfl rfl (ex_move rfl) ?_
        refine ho_val rfl rfl (ex_addN (q := 1) rfl rfl (by omega)) ?_
        refine ho_val rfl rfl (ex_assign rfl) ?_
        refine ho_nil ?_
        refine hk_then_normal ?_
        exact hk_round (z.1 + 1, x57, x64) ⟨by dsimp only; omega, by rw [← keyed_step k 54 z.1 hz5]; exact hx57, by rw [← keyed_step k 92 z.1 hz5]; exact hx64⟩ (by dsimp only; omega) ⟨rfl, rfl, rfl, rfl, rfl, rfl, trivial⟩ _ (by decide) (.cons 0 (by rw [← keyed_step k 92 z.1 hz5]; rfl) (.cons 2 (by rw [← keyed_step k 54 z.1 hz5]; rfl) (.cons 4 rfl .nil)))
      · try simp only [decide_eq_true_eq, decide_eq_false_iff_not, beq_iff_eq, beq_eq_false_iff_ne, bne_iff_ne, bne_eq_false_iff_eq, ne_eq, Int.not_lt, Int.not_le, gt_iff_lt, ge_iff_le] at hc7
        have hz6 : z.1 = 64 := by omega
        have HL67 : ((keyed k 54).take z.1).length + d.length ≤ 1152921504606846976 := by rw [List.length_take]; omega
        have HL72 : ((keyed k 92).take z.1).length + (sha tK tH (((keyed k 54).take z.1) ++ d)).length ≤ 1152921504606846976 := by rw [List.length_take, sha_length]; omega
        refine hl_exit ?_
        refine hk_then_exit ?_
        refine hk_then_exit ?_
        refine hk_block_hit ?_
        refine hk_then_code ?_
        refine hl_seq ?_
        refine hl_region ?_
        refine ho_val rfl rfl (ex_move rfl) ?_
        refine ho_val rfl rfl (ex_move rfl) ?_
        refine ho_pick _ (by decide) (.cons 1 rfl (.cons 0 rfl (.cons 2 rfl .nil))) ?_
        refine ho_do rfl rfl (exw_call Tryd.func21 rfl (by kernel_rfl) rfl (val := fun _ : List UInt32 × List UInt8 => .int .i64 0) (hs' := fun x => ⟨some h45, hblk x.1 x.2 (((keyed k 54).take z.1) ++ d).length, 67, (0, 0)⟩ :: _) (pre := fun x => HSt (((keyed k 54).take z.1) ++ d) x.1 x.2) (fun w' hw' => (write_any ((keyed k 54).take z.1) d z.2.1.1 z.2.1.2 _ rfl hz1 h45 67 q c2 (fun h => (hqe h).1) (fun h => (hqe h).2) hqc HL67 w' (hw'.own _ List.mem_cons_self h45 rfl) (Sk.older hT hw' (by intro a ha; rw [List.mem_singleton.1 ha]; exact ge45)) (hK.old0 hw') (by omega)).mono fun e w2 ⟨S', R', h1, h2, h3⟩ => ⟨(S', R'), h1, h2, hw'.comp (A := [_]) (fun g hg => ⟨_, List.mem_cons_self, by rw [List.mem_singleton.1 hg]⟩) h3⟩)) (fun x67 hx67 => ?_)
        refine ho_nil ?_
        refine hk_then_code ?_
        refine hl_seq ?_
        refine hl_region ?_
        refine ho_val rfl rfl (ex_move rfl) ?_
        refine ho_do rfl rfl (exw_call_pure Tryd.func23 rfl (by kernel_rfl) rfl (fun w' hw' => sum_any (((keyed k 54).take z.1) ++ d) x67.1 x67.2 hx67 h45 67 (by rw [List.length_append]; exact HL67) w' (hw'.own _ (List.mem_of_getElem? (i := 0) rfl) h45 rfl) (hK.old0 hw'))) (fun _ _ => ?_)
        refine ho_do rfl rfl (exw_alloc_cs (z := .agg (vbs (List.replicate 32 0))) (vbs (List.replicate 32 0)) (by kernel_rfl) rfl) (fun b11 hb11 => ?_)
        refine ho_do rfl rfl (exw_store_row0 rfl rfl (by rw [size25, vbs_size, sha_length]) (by rw [vbs_size, vbs_size, sha_length]; rfl) (vbs_one _)) (fun _ _ => ?_)
        refine ho_nil ?_
        refine hk_then_code ?_
        refine hl_seq ?_
        refine hl_region ?_
        refine ho_val rfl rfl (ex_move rfl) ?_
        refine ho_val rfl rfl (ex_slice_arr rfl Tryd.underlying25 _ size5) ?_
        refine ho_pick _ (by decide) (.cons 2 rfl (.cons 0 rfl (.cons 1 rfl (.cons 3 rfl .nil)))) ?_
        refine ho_do rfl rfl (exw_call Tryd.func21 rfl (by kernel_rfl) rfl (val := fun _ : List UInt32 × List UInt8 => .int .i64 0) (hs' := fun x => ⟨some h46, hblk x.1 x.2 (((keyed k 92).take z.1) ++ (sha tK tH (((keyed k 54).take z.1) ++ d))).length, 67, (0, 0)⟩ :: _) (pre := fun x => HSt (((keyed k 92).take z.1) ++ (sha tK tH (((keyed k 54).take z.1) ++ d))) x.1 x.2) (fun w' hw' => (write_any ((keyed k 92).take z.1) (sha tK tH (((keyed k 54).take z.1) ++ d)) z.2.2.1 z.2.2.2 _ (sha_length _ _ _) hz2 h46 67 (some (b11, 0)) 32 (fun h => nomatch h) (fun h => nomatch h) (by rw [sha_length]; exact Nat.le_refl _) HL72 w' (hw'.own _ List.mem_cons_self h46 rfl) (Sk.own hw' 1 0 (by decide) rfl rfl rfl rfl vbs_get') (hK.old0 hw') (by omega)).mono fun e w2 ⟨S', R', h1, h2, h3⟩ => ⟨(S', R'), h1, h2, hw'.comp (A := [_]) (fun g hg => ⟨_, List.mem_cons_self, by rw [List.mem_singleton.1 hg]⟩) h3⟩)) (fun x72 hx72 => ?_)
        refine ho_nil ?_
        refine hk_then_code ?_
        refine hl_seq ?_
        refine hl_region ?_
        refine ho_val rfl rfl (ex_move rfl) ?_
        refine ho_do rfl rfl (exw_call_pure Tryd.func23 rfl (by kernel_rfl) rfl (fun w' hw' => sum_any (((keyed k 92).take z.1) ++ (sha tK tH (((keyed k 54).take z.1) ++ d))) x72.1 x72.2 hx72 h46 67 (by rw [List.length_append]; exact HL72) w' (hw'.own _ (List.mem_of_getElem? (i := 0) rfl) h46 rfl) (hK.old0 hw'))) (fun _ _ => ?_)
        refine ho_val rfl rfl (ex_move rfl) ?_
        refine ho_val rfl rfl (ex_move rfl) ?_
        refine ho_do rfl rfl (exw_call_pure Tryd.func32 rfl (by kernel_rfl) rfl (fun w' hw' => mac_any k d _ _ rfl rfl p c (fun h => (hne h).1) (fun h => (hne h).2) hlc q c2 (fun h => (hqe h).1) (fun h => (hqe h).2) hqc (by omega) (by omega) w' (hS.old0 hw') (hT.old0 hw') (hH.old0 hw') (hK.old0 hw'))) (fun _ _ => ?_)
        refine ho_val rfl rfl (ex_eql_arr (b := true) rfl rfl Tryd.underlying25 Tryd.underlying5 size5 (by kernel_rfl) (sha_length _ _ _) (hmac_length _ _) (eql_true_of_eq (keyed_done k d hz6))) ?_
        refine ho_val rfl rfl (ex_move rfl) ?_
        refine ho_do_want rfl rfl rfl rfl rfl (exw_call_pure Tryd.func13 rfl (by kernel_rfl) rfl (fun w' hw' => of_any [] 0 rfl none 0 (fun _ => rfl) (fun _ => rfl) (Nat.le_refl _) (by decide) w' (Sl.nil _ _) (hH.old0 hw') (hK.old0 hw'))) (fun _ _ => ?_)
        refine ho_do_want rfl rfl rfl rfl rfl (exw_call_pure Tryd.func31 rfl (by kernel_rfl) rfl (fun w' hw' => hex32_any (sha tK tH []) (sha_length _ _ _) w')) (fun _ _ => ?_)
        refine ho_want rfl rfl rfl rfl rfl (ex_str_hi (j := 4) rfl rfl Tryd.underlying9 (by rw [hexOf_length, sha_length]; decide)) ?_
        refine ho_want rfl rfl rfl rfl rfl (ex_eql_str (b := true) rfl rfl sha_nil4) ?_
        refine ho_val rfl rfl (ex_pick_true rfl rfl) ?_
        refine ho_val rfl rfl (ex_assign rfl) ?_
        refine ho_nil ?_
        refine hk_then_code ?_
        refine hl_ret ?_
        exact hk_ret rfl rfl (fun w' hw' => ⟨rfl, hw'.below⟩)

end Go.Proofs.YtdmagjelmhcemaaDoor
