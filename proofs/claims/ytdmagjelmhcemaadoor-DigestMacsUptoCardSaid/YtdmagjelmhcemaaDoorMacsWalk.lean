/- The law DigestMacs, walked. -/
import Derived.Test.YtdmagjelmhcemaaDoorBytes
import Derived.Test.YtdmagjelmhcemaaDoorMacWalk
import Derived.Test.YtdmagjelmhcemaaDoorRefMac
import Derived.Test.YtdmagjelmhcemaaDoorD
import Derived.KernelRfl
namespace Go.Proofs.YtdmagjelmhcemaaDoor
open Go.RowKit
set_option linter.unusedVariables false
set_option linter.unusedSimpArgs false

set_option maxHeartbeats 1600000 in
theorem macs_law (k d : List UInt8) (p q : Option (Nat × Nat)) (c c2 : Nat) (hne : p = none → k.length = 0 ∧ c = 0) (hlc : k.length ≤ c) (hqe : q = none → d.length = 0 ∧ c2 = 0) (hqc : d.length ≤ c2) (hk : k.length ≤ 1048576) (hd : d.length ≤ 1048576) (w : World) (hS : Sl w p (k.map vb)) (hT : Sl w q (d.map vb)) (hH : Sl w (some (2, 0)) (tH.map vw)) (hK : Sl w (some (3, 0)) (tK.map vw)) (hTK : Sl w (some (1, 0)) (tK.map vw)) (hTH : Sl w (some (0, 0)) (tH.map vw)) :
    Calls Tryd.prog 8 #[slv p k.length c, slv q d.length c2] w fun e w' => e = .returned (.bool true) ∧ Below w.heap.size w w' := by
  have hTk : (turnTo1 k k.length).length = k.length := turnTo1_length k k.length
  have hTd : (turnTo1 d d.length).length = d.length := turnTo1_length d d.length
  refine calls_enter (n := 85) (hs := []) (M := []) (vs := [slv p k.length c, slv q d.length c2]) Tryd.func8 rfl rfl rfl (Hp.start w) ?_
  refine hl_seq ?_
  refine hl_region ?_
  refine ho_val rfl rfl (ex_assign rfl) ?_
  refine ho_nil ?_
  refine hk_then_code ?_
  refine hl_seq ?_
  refine hl_region ?_
  refine ho_val rfl rfl (ex_move rfl) ?_
  refine ho_do rfl rfl (exw_call Tryd.func12 rfl (by kernel_rfl) rfl (val := fun x : Nat × Nat × List Value => rowv (some x.1) (k.length + 8) x.2.1) (hs' := fun x => ⟨some x.1, vrow k (marks.map vb ++ x.2.2), 5, (0, 0)⟩ :: _) (pre := fun x => RowOk 1 (some x.1) (k.length + 8) x.2.1 ((k ++ marks).map vb) x.2.2) (fun w' hw' => (padded_any k _ rfl p c (fun h => (hne h).1) (fun h => (hne h).2) (by omega) w' (hS.old0 hw')).mono fun e w2 ⟨g, c', r, h1, h2, h3⟩ => ⟨(g, c', r), h1, h2, hw'.comp (A := []) (by simp) h3⟩)) (fun x9 hx9 => ?_)
  refine ho_val rfl rfl (ex_assign rfl) ?_
  refine ho_nil ?_
  refine hk_then_code ?_
  refine hl_seq ?_
  refine hl_region ?_
  refine ho_val rfl rfl (ex_move rfl) ?_
  refine ho_do rfl rfl (exw_call Tryd.func12 rfl (by kernel_rfl) rfl (val := fun x : Nat × Nat × List Value => rowv (some x.1) (d.length + 8) x.2.1) (hs' := fun x => ⟨some x.1, vrow d (marks.map vb ++ x.2.2), 5, (0, 0)⟩ :: _) (pre := fun x => RowOk 1 (some x.1) (d.length + 8) x.2.1 ((d ++ marks).map vb) x.2.2) (fun w' hw' => (padded_any d _ rfl q c2 (fun h => (hqe h).1) (fun h => (hqe h).2) (by omega) w' (hT.old0 hw')).mono fun e w2 ⟨g, c', r, h1, h2, h3⟩ => ⟨(g, c', r), h1, h2, hw'.comp (A := []) (by simp) h3⟩)) (fun x11 hx11 => ?_)
  refine ho_val rfl rfl (ex_assign rfl) ?_
  refine ho_nil ?_
  refine hk_then_code ?_
  refine hl_seq ?_
  have hcap1 : k.length + 8 ≤ x9.2.1 := RowOk.le hx9
  have hcap2 : d.length + 8 ≤ x11.2.1 := RowOk.le hx11
  refine hl_held _ (by kernel_rfl) (by decide) (.cons 0 rfl (.cons 1 rfl .nil)) ?_
  refine ha_take 0 rfl (by kernel_rfl) (by kernel_rfl) (by kernel_rfl) (fun _ _ _ h => h) rfl rfl (ex_move rfl) ?_
  refine ha_take 1 rfl (by kernel_rfl) (by kernel_rfl) (by kernel_rfl) (fun _ _ _ h => h) rfl rfl (ex_move rfl) ?_
  refine ha_take 2 rfl (by kernel_rfl) (by kernel_rfl) (by kernel_rfl) (fun _ _ _ h => h) rfl rfl (ex_len_slice rfl Tryd.underlying22) ?_
  refine ha_take 3 rfl (by kernel_rfl) (by kernel_rfl) (by kernel_rfl) (fun _ _ _ h => h) rfl rfl (ex_slice_hi rfl rfl Tryd.underlying22 _ size5 (by omega)) ?_
  refine ha_take 4 rfl (by kernel_rfl) (by kernel_rfl) (by kernel_rfl) (fun _ _ _ h => h) rfl rfl (ex_move rfl) ?_
  refine ha_take 5 rfl (by kernel_rfl) (by kernel_rfl) (by kernel_rfl) (fun _ _ _ h => h) rfl rfl (ex_move rfl) ?_
  refine ha_take 6 rfl (by kernel_rfl) (by kernel_rfl) (by kernel_rfl) (fun _ _ _ h => h) rfl rfl (ex_len_slice rfl Tryd.underlying22) ?_
  refine ha_take 7 rfl (by kernel_rfl) (by kernel_rfl) (by kernel_rfl) (fun _ _ _ h => h) rfl rfl (ex_slice_hi rfl rfl Tryd.underlying22 _ size5 (by omega)) ?_
  refine ha_split 8 9 (by kernel_rfl) ?_ ?_
  · refine hb_do 8 rfl (fun a _ => wanted_none rfl a) rfl (exw_call_pure Tryd.func32 rfl (by kernel_rfl) rfl (fun w' hw' => mac_any k d _ _ rfl rfl (some (x9.1, 0)) x9.2.1 (fun h => nomatch h) (fun h => nomatch h) (by omega) (some (x11.1, 0)) x11.2.1 (fun h => nomatch h) (fun h => nomatch h) (by omega) (by omega) (by omega) w' (Sl.own hw' 1 rfl rfl (vrow_own _ _)) (Sl.own hw' 0 rfl rfl (vrow_own _ _)) (hH.old0 hw') (hK.old0 hw'))) (by decide) (fun _ _ => (.cons 0 rfl (.cons 1 rfl .nil))) (fun _ _ => ?_)
    refine ha_do 9 rfl (by kernel_rfl) (fun a _ => wanted_none rfl a) rfl (exw_alloc_cs (z := .agg (vbs (List.replicate 32 0))) (vbs (List.replicate 32 0)) (by kernel_rfl) rfl) (by decide) (fun b7 hb7 => (.cons 1 rfl (.cons 2 rfl .nil))) (fun b7 hb7 => ?_)
    refine ha_do 10 rfl (by kernel_rfl) (fun a _ => wanted_none rfl a) rfl (exw_store_row0 rfl rfl (by rw [size25, vbs_size, hmac_length]) (by rw [vbs_size, vbs_size, hmac_length]; rfl) (vbs_one _)) (by decide) (fun _ _ => (.cons 1 rfl (.cons 2 rfl .nil))) (fun _ _ => ?_)
    refine ha_done (by kernel_rfl) ?_
    refine hk_then_code ?_
    refine hl_seq ?_
    refine hl_seq ?_
    refine hl_held _ (by kernel_rfl) (by decide) (.cons 0 rfl (.cons 1 rfl (.cons 2 rfl .nil))) ?_
    refine ha_take 0 rfl (by kernel_rfl) (by kernel_rfl) (by kernel_rfl) (fun _ _ _ h => h) rfl rfl (ex_load_row rfl 0 rfl rfl Tryd.underlying25 rfl (by rw [size25, vbs_size, hmac_length])) ?_
    refine ha_take 1 rfl (by kernel_rfl) (by kernel_rfl) (by kernel_rfl) (fun _ _ _ h => h) rfl rfl (ex_move rfl) ?_
    refine ha_take 2 rfl (by kernel_rfl) (by kernel_rfl) (by kernel_rfl) (fun _ _ _ h => h) rfl rfl (ex_move rfl) ?_
    refine ha_do 3 rfl (by kernel_rfl) (fun a _ => wanted_none rfl a) rfl (exw_call_pure Tryd.func33 rfl (by kernel_rfl) rfl (fun w' hw' => refmac_any k d _ _ rfl rfl p c (fun h => (hne h).1) (fun h => (hne h).2) hlc q c2 (fun h => (hqe h).1) (fun h => (hqe h).2) hqc (by omega) (by omega) w' (hS.old0 hw') (hT.old0 hw') (hTK.old0 hw') (hTH.old0 hw'))) (by decide) (fun _ _ => (.cons 0 rfl (.cons 1 rfl (.cons 2 rfl .nil)))) (fun _ _ => ?_)
    refine ha_take 4 rfl (by kernel_rfl) (by kernel_rfl) (by kernel_rfl) (fun _ _ _ h => h) rfl rfl (ex_neq_arr (b := false) rfl rfl Tryd.underlying25 Tryd.underlying5 size5 (by kernel_rfl) (hmac_length _ _) (hmac_length _ _) (neq_false_of_eq rfl)) ?_
    refine ha_take 5 rfl (by kernel_rfl) (by kernel_rfl) (by kernel_rfl) (fun _ _ _ h => h) rfl rfl (ex_move rfl) ?_
    refine ha_want 6 rfl (by kernel_rfl) (by kernel_rfl) (by kernel_rfl) (fun _ _ _ h => h) rfl rfl rfl rfl rfl (ex_move rfl) ?_
    refine ha_want 7 rfl (by kernel_rfl) (by kernel_rfl) (by kernel_rfl) (fun _ _ _ h => h) rfl rfl rfl rfl rfl (ex_move rfl) ?_
    refine ha_do 8 rfl (by kernel_rfl) (want_of rfl rfl rfl rfl) rfl (exw_call Tryd.func12 rfl (by kernel_rfl) rfl (val := fun x : Nat × Nat × List Value => rowv (some x.1) (k.length + 8) x.2.1) (hs' := fun x => ⟨some x.1, vrow k (marks.map vb ++ x.2.2), 5, (0, 0)⟩ :: _) (pre := fun x => RowOk 1 (some x.1) (k.length + 8) x.2.1 ((k ++ marks).map vb) x.2.2) (fun w' hw' => (padded_any k _ rfl p c (fun h => (hne h).1) (fun h => (hne h).2) (by omega) w' (hS.old0 hw')).mono fun e w2 ⟨g, c', r, h1, h2, h3⟩ => ⟨(g, c', r), h1, h2, hw'.comp (A := []) (by simp) h3⟩)) (by decide) (fun x29 hx29 => (.cons 1 rfl (.cons 2 rfl (.cons 3 rfl .nil)))) (fun x29 hx29 => ?_)
    refine ha_do 9 rfl (by kernel_rfl) (want_of rfl rfl rfl rfl) rfl (exw_call_pure Tryd.func17 rfl (by kernel_rfl) rfl (fun w' hw' => bytes_any (k ++ marks) (k ++ marks) _ _ (pad_length k) (pad_length k) (some (x9.1, 0)) (some (x29.1, 0)) x9.2.1 x29.2.1 (fun h => nomatch h) (fun h => nomatch h) (by rw [pad_length]; omega) (by rw [pad_length]; omega) w' (Sl.own hw' 3 rfl rfl (vrow_all _ _ _)) (Sl.own hw' 0 rfl rfl (vrow_all _ _ _)))) (by decide) (fun _ _ => (.cons 1 rfl (.cons 2 rfl (.cons 3 rfl .nil)))) (fun _ _ => ?_)
    refine ha_want 10 rfl (by kernel_rfl) (by kernel_rfl) (by kernel_rfl) (fun _ _ _ h => h) rfl rfl rfl rfl rfl (ex_not (b := true) (by rw [show ((k ++ marks) == (k ++ marks)) = true by simp]; rfl)) ?_
    refine ha_take 11 rfl (by kernel_rfl) (by kernel_rfl) (by kernel_rfl) (fun _ _ _ h => h) rfl rfl (ex_pick_false rfl rfl) ?_
    refine ha_take 12 rfl (by kernel_rfl) (by kernel_rfl) (by kernel_rfl) (fun _ _ _ h => h) rfl rfl (ex_move rfl) ?_
    refine ha_want 13 rfl (by kernel_rfl) (by kernel_rfl) (by kernel_rfl) (fun _ _ _ h => h) rfl rfl rfl rfl rfl (ex_move rfl) ?_
    refine ha_want 14 rfl (by kernel_rfl) (by kernel_rfl) (by kernel_rfl) (fun _ _ _ h => h) rfl rfl rfl rfl rfl (ex_move rfl) ?_
    refine ha_do 15 rfl (by kernel_rfl) (want_of rfl rfl rfl rfl) rfl (exw_call Tryd.func12 rfl (by kernel_rfl) rfl (val := fun x : Nat × Nat × List Value => rowv (some x.1) (d.length + 8) x.2.1) (hs' := fun x => ⟨some x.1, vrow d (marks.map vb ++ x.2.2), 5, (0, 0)⟩ :: _) (pre := fun x => RowOk 1 (some x.1) (d.length + 8) x.2.1 ((d ++ marks).map vb) x.2.2) (fun w' hw' => (padded_any d _ rfl q c2 (fun h => (hqe h).1) (fun h => (hqe h).2) (by omega) w' (hT.old0 hw')).mono fun e w2 ⟨g, c', r, h1, h2, h3⟩ => ⟨(g, c', r), h1, h2, hw'.comp (A := []) (by simp) h3⟩)) (by decide) (fun x36 hx36 => (.cons 2 rfl (.cons 3 rfl (.cons 4 rfl .nil)))) (fun x36 hx36 => ?_)
    refine ha_do 16 rfl (by kernel_rfl) (want_of rfl rfl rfl rfl) rfl (exw_call_pure Tryd.func17 rfl (by kernel_rfl) rfl (fun w' hw' => bytes_any (d ++ marks) (d ++ marks) _ _ (pad_length d) (pad_length d) (some (x11.1, 0)) (some (x36.1, 0)) x11.2.1 x36.2.1 (fun h => nomatch h) (fun h => nomatch h) (by rw [pad_length]; omega) (by rw [pad_length]; omega) w' (Sl.own hw' 3 rfl rfl (vrow_all _ _ _)) (Sl.own hw' 0 rfl rfl (vrow_all _ _ _)))) (by decide) (fun _ _ => (.cons 2 rfl (.cons 3 rfl (.cons 4 rfl .nil)))) (fun _ _ => ?_)
    refine ha_want 17 rfl (by kernel_rfl) (by kernel_rfl) (by kernel_rfl) (fun _ _ _ h => h) rfl rfl rfl rfl rfl (ex_not (b := true) (by rw [show ((d ++ marks) == (d ++ marks)) = true by simp]; rfl)) ?_
    refine ha_take 18 rfl (by kernel_rfl) (by kernel_rfl) (by kernel_rfl) (fun _ _ _ h => h) rfl rfl (ex_pick_false rfl rfl) ?_
    refine ha_done (by kernel_rfl) ?_
    refine hk_then_code ?_
    refine hl_false rfl ?_
    refine hl_skip ?_
    refine hk_then_code ?_
    refine hl_seq ?_
    refine hl_region ?_
    refine ho_val rfl rfl (ex_move rfl) ?_
    refine ho_val rfl rfl (ex_move rfl) ?_
    refine ho_val rfl rfl (ex_len_slice rfl Tryd.underlying22) ?_
    refine ho_val rfl rfl (ex_slice_hi rfl rfl Tryd.underlying22 _ size5 (by omega)) ?_
    refine ho_pick _ (by decide) (.cons 4 rfl (.cons 0 rfl (.cons 1 rfl (.cons 2 rfl (.cons 3 rfl .nil))))) ?_
    refine ho_do rfl rfl (exw_call Tryd.func18 rfl (by kernel_rfl) rfl (val := fun _ : Unit => .tuple #[]) (hs' := fun _ => ⟨some x9.1, vrow (turnTo1 k k.length) (marks.map vb ++ x9.2.2), 5, (0, 0)⟩ :: _) (pre := fun _ => True) (fun w' hw' => (turned_any k _ rfl (marks.map vb ++ x9.2.2) x9.1 x9.2.1 (by omega) w' (hw'.own _ (List.mem_cons_self) x9.1 rfl)).mono fun e w2 ⟨h1, h2⟩ => ⟨(), trivial, h1, hw'.comp (A := [_]) (fun g hg => ⟨_, List.mem_cons_self, by rw [List.mem_singleton.1 hg]⟩) h2⟩)) (fun _ _ => ?_)
    refine ho_nil ?_
    refine hk_then_code ?_
    refine hl_seq ?_
    refine hl_seq ?_
    refine hl_held _ (by kernel_rfl) (by decide) (.cons 0 rfl (.cons 1 rfl (.cons 2 rfl (.cons 3 rfl (.cons 4 rfl .nil))))) ?_
    refine ha_take 0 rfl (by kernel_rfl) (by kernel_rfl) (by kernel_rfl) (fun _ _ _ h => h) rfl rfl (ex_move rfl) ?_
    refine ha_take 1 rfl (by kernel_rfl) (by kernel_rfl) (by kernel_rfl) (fun _ _ _ h => h) rfl rfl (ex_move rfl) ?_
    refine ha_take 2 rfl (by kernel_rfl) (by kernel_rfl) (by kernel_rfl) (fun _ _ _ h => h) rfl rfl (ex_len_slice rfl Tryd.underlying22) ?_
    refine ha_take 3 rfl (by kernel_rfl) (by kernel_rfl) (by kernel_rfl) (fun _ _ _ h => h) rfl rfl (ex_slice_hi rfl rfl Tryd.underlying22 _ size5 (by omega)) ?_
    refine ha_take 4 rfl (by kernel_rfl) (by kernel_rfl) (by kernel_rfl) (fun _ _ _ h => h) rfl rfl (ex_move rfl) ?_
    refine ha_take 5 rfl (by kernel_rfl) (by kernel_rfl) (by kernel_rfl) (fun _ _ _ h => h) rfl rfl (ex_move rfl) ?_
    refine ha_take 6 rfl (by kernel_rfl) (by kernel_rfl) (by kernel_rfl) (fun _ _ _ h => h) rfl rfl (ex_len_slice rfl Tryd.underlying22) ?_
    refine ha_take 7 rfl (by kernel_rfl) (by kernel_rfl) (by kernel_rfl) (fun _ _ _ h => h) rfl rfl (ex_slice_hi rfl rfl Tryd.underlying22 _ size5 (by omega)) ?_
    refine ha_take 9 rfl (by kernel_rfl) (by kernel_rfl) (by kernel_rfl) (fun _ _ _ h => h) rfl rfl (ex_move rfl) ?_
    refine ha_take 10 rfl (by kernel_rfl) (by kernel_rfl) (by kernel_rfl) (fun _ _ _ h => h) rfl rfl (ex_move rfl) ?_
    refine ha_take 11 rfl (by kernel_rfl) (by kernel_rfl) (by kernel_rfl) (fun _ _ _ h => h) rfl rfl (ex_len_slice rfl Tryd.underlying22) ?_
    refine ha_take 12 rfl (by kernel_rfl) (by kernel_rfl) (by kernel_rfl) (fun _ _ _ h => h) rfl rfl (ex_slice_hi rfl rfl Tryd.underlying22 _ size5 (by omega)) ?_
    refine ha_take 13 rfl (by kernel_rfl) (by kernel_rfl) (by kernel_rfl) (fun _ _ _ h => h) rfl rfl (ex_move rfl) ?_
    refine ha_do 8 rfl (by kernel_rfl) (fun a _ => wanted_none rfl a) rfl (exw_call_pure Tryd.func32 rfl (by kernel_rfl) rfl (fun w' hw' => mac_any (turnTo1 k k.length) d _ _ hTk rfl (some (x9.1, 0)) x9.2.1 (fun h => nomatch h) (fun h => nomatch h) (by omega) (some (x11.1, 0)) x11.2.1 (fun h => nomatch h) (fun h => nomatch h) (by omega) (by omega) (by omega) w' (Sl.own hw' 0 rfl rfl (vrow_own _ _)) (Sl.own hw' 4 rfl rfl (vrow_own _ _)) (hH.old0 hw') (hK.old0 hw'))) (by decide) (fun _ _ => (.cons 0 rfl (.cons 1 rfl (.cons 2 rfl (.cons 3 rfl (.cons 4 rfl .nil)))))) (fun _ _ => ?_)
    refine ha_do 14 rfl (by kernel_rfl) (fun a _ => wanted_none rfl a) rfl (exw_call_pure Tryd.func33 rfl (by kernel_rfl) rfl (fun w' hw' => refmac_any (turnTo1 k k.length) d _ _ hTk rfl (some (x9.1, 0)) x9.2.1 (fun h => nomatch h) (fun h => nomatch h) (by omega) q c2 (fun h => (hqe h).1) (fun h => (hqe h).2) hqc (by omega) (by omega) w' (Sl.own hw' 0 rfl rfl (vrow_own _ _)) (hT.old0 hw') (hTK.old0 hw') (hTH.old0 hw'))) (by decide) (fun _ _ => (.cons 0 rfl (.cons 1 rfl (.cons 2 rfl (.cons 3 rfl (.cons 4 rfl .nil)))))) (fun _ _ => ?_)
    refine ha_take 15 rfl (by kernel_rfl) (by kernel_rfl) (by kernel_rfl) (fun _ _ _ h => h) rfl rfl (ex_neq_arr (b := false) rfl rfl Tryd.underlying25 Tryd.underlying5 size5 (by kernel_rfl) (hmac_length _ _) (hmac_length _ _) (neq_false_of_eq rfl)) ?_
    refine ha_done (by kernel_rfl) ?_
    refine hk_then_code ?_
    refine hl_false rfl ?_
    refine hl_skip ?_
    refine hk_then_code ?_
    refine hl_seq ?_
    refine hl_region ?_
    refine ho_val rfl rfl (ex_move rfl) ?_
    refine ho_val rfl rfl (ex_move rfl) ?_
    refine ho_val rfl rfl (ex_len_slice rfl Tryd.underlying22) ?_
    refine ho_val rfl rfl (ex_slice_hi rfl rfl Tryd.underlying22 _ size5 (by omega)) ?_
    refine ho_pick _ (by decide) (.cons 4 rfl (.cons 0 rfl (.cons 1 rfl (.cons 2 rfl (.cons 3 rfl .nil))))) ?_
    refine ho_do rfl rfl (exw_call Tryd.func18 rfl (by kernel_rfl) rfl (val := fun _ : Unit => .tuple #[]) (hs' := fun _ => ⟨some x11.1, vrow (turnTo1 d d.length) (marks.map vb ++ x11.2.2), 5, (0, 0)⟩ :: _) (pre := fun _ => True) (fun w' hw' => (turned_any d _ rfl (marks.map vb ++ x11.2.2) x11.1 x11.2.1 (by omega) w' (hw'.own _ (List.mem_cons_self) x11.1 rfl)).mono fun e w2 ⟨h1, h2⟩ => ⟨(), trivial, h1, hw'.comp (A := [_]) (fun g hg => ⟨_, List.mem_cons_self, by rw [List.mem_singleton.1 hg]⟩) h2⟩)) (fun _ _ => ?_)
    refine ho_nil ?_
    refine hk_then_code ?_
    refine hl_seq ?_
    refine hl_held _ (by kernel_rfl) (by decide) (.cons 0 rfl (.cons 1 rfl (.cons 2 rfl (.cons 3 rfl (.cons 4 rfl .nil))))) ?_
    refine ha_take 0 rfl (by kernel_rfl) (by kernel_rfl) (by kernel_rfl) (fun _ _ _ h => h) rfl rfl (ex_move rfl) ?_
    refine ha_take 1 rfl (by kernel_rfl) (by kernel_rfl) (by kernel_rfl) (fun _ _ _ h => h) rfl rfl (ex_move rfl) ?_
    refine ha_take 2 rfl (by kernel_rfl) (by kernel_rfl) (by kernel_rfl) (fun _ _ _ h => h) rfl rfl (ex_len_slice rfl Tryd.underlying22) ?_
    refine ha_take 3 rfl (by kernel_rfl) (by kernel_rfl) (by kernel_rfl) (fun _ _ _ h => h) rfl rfl (ex_slice_hi rfl rfl Tryd.underlying22 _ size5 (by omega)) ?_
    refine ha_take 4 rfl (by kernel_rfl) (by kernel_rfl) (by kernel_rfl) (fun _ _ _ h => h) rfl rfl (ex_move rfl) ?_
    refine ha_take 5 rfl (by kernel_rfl) (by kernel_rfl) (by kernel_rfl) (fun _ _ _ h => h) rfl rfl (ex_move rfl) ?_
    refine ha_take 6 rfl (by kernel_rfl) (by kernel_rfl) (by kernel_rfl) (fun _ _ _ h => h) rfl rfl (ex_len_slice rfl Tryd.underlying22) ?_
    refine ha_take 7 rfl (by kernel_rfl) (by kernel_rfl) (by kernel_rfl) (fun _ _ _ h => h) rfl rfl (ex_slice_hi rfl rfl Tryd.underlying22 _ size5 (by omega)) ?_
    refine ha_take 9 rfl (by kernel_rfl) (by kernel_rfl) (by kernel_rfl) (fun _ _ _ h => h) rfl rfl (ex_move rfl) ?_
    refine ha_take 10 rfl (by kernel_rfl) (by kernel_rfl) (by kernel_rfl) (fun _ _ _ h => h) rfl rfl (ex_move rfl) ?_
    refine ha_take 11 rfl (by kernel_rfl) (by kernel_rfl) (by kernel_rfl) (fun _ _ _ h => h) rfl rfl (ex_len_slice rfl Tryd.underlying22) ?_
    refine ha_take 12 rfl (by kernel_rfl) (by kernel_rfl) (by kernel_rfl) (fun _ _ _ h => h) rfl rfl (ex_slice_hi rfl rfl Tryd.underlying22 _ size5 (by omega)) ?_
    refine ha_take 13 rfl (by kernel_rfl) (by kernel_rfl) (by kernel_rfl) (fun _ _ _ h => h) rfl rfl (ex_move rfl) ?_
    refine ha_take 14 rfl (by kernel_rfl) (by kernel_rfl) (by kernel_rfl) (fun _ _ _ h => h) rfl rfl (ex_move rfl) ?_
    refine ha_take 15 rfl (by kernel_rfl) (by kernel_rfl) (by kernel_rfl) (fun _ _ _ h => h) rfl rfl (ex_len_slice rfl Tryd.underlying22) ?_
    refine ha_take 16 rfl (by kernel_rfl) (by kernel_rfl) (by kernel_rfl) (fun _ _ _ h => h) rfl rfl (ex_slice_hi rfl rfl Tryd.underlying22 _ size5 (by omega)) ?_
    refine ha_do 8 rfl (by kernel_rfl) (fun a _ => wanted_none rfl a) rfl (exw_call_pure Tryd.func32 rfl (by kernel_rfl) rfl (fun w' hw' => mac_any (turnTo1 k k.length) (turnTo1 d d.length) _ _ hTk hTd (some (x9.1, 0)) x9.2.1 (fun h => nomatch h) (fun h => nomatch h) (by omega) (some (x11.1, 0)) x11.2.1 (fun h => nomatch h) (fun h => nomatch h) (by omega) (by omega) (by omega) w' (Sl.own hw' 1 rfl rfl (vrow_own _ _)) (Sl.own hw' 0 rfl rfl (vrow_own _ _)) (hH.old0 hw') (hK.old0 hw'))) (by decide) (fun _ _ => (.cons 0 rfl (.cons 1 rfl (.cons 2 rfl (.cons 3 rfl (.cons 4 rfl .nil)))))) (fun _ _ => ?_)
    refine ha_do 17 rfl (by kernel_rfl) (fun a _ => wanted_none rfl a) rfl (exw_call_pure Tryd.func33 rfl (by kernel_rfl) rfl (fun w' hw' => refmac_any (turnTo1 k k.length) (turnTo1 d d.length) _ _ hTk hTd (some (x9.1, 0)) x9.2.1 (fun h => nomatch h) (fun h => nomatch h) (by omega) (some (x11.1, 0)) x11.2.1 (fun h => nomatch h) (fun h => nomatch h) (by omega) (by omega) (by omega) w' (Sl.own hw' 1 rfl rfl (vrow_own _ _)) (Sl.own hw' 0 rfl rfl (vrow_own _ _)) (hTK.old0 hw') (hTH.old0 hw'))) (by decide) (fun _ _ => (.cons 0 rfl (.cons 1 rfl (.cons 2 rfl (.cons 3 rfl (.cons 4 rfl .nil)))))) (fun _ _ => ?_)
    refine ha_take 18 rfl (by kernel_rfl) (by kernel_rfl) (by kernel_rfl) (fun _ _ _ h => h) rfl rfl (ex_eql_arr (b := true) rfl rfl Tryd.underlying25 Tryd.underlying5 size5 (by kernel_rfl) (hmac_length _ _) (hmac_length _ _) (eql_true_of_eq rfl)) ?_
    refine ha_take 19 rfl (by kernel_rfl) (by kernel_rfl) (by kernel_rfl) (fun _ _ _ h => h) rfl rfl (ex_assign rfl) ?_
    refine ha_done (by kernel_rfl) ?_
    refine hk_then_code ?_
    refine hl_ret ?_
    exact hk_ret rfl rfl (fun w' hw' => ⟨rfl, hw'.below⟩)
  · refine hb_do 9 rfl (fun a _ => wanted_none rfl a) rfl (exw_alloc_cs (z := .agg (vbs (List.replicate 32 0))) (vbs (List.replicate 32 0)) (by kernel_rfl) rfl) (by decide) (fun b7 hb7 => (.cons 1 rfl (.cons 2 rfl .nil))) (fun b7 hb7 => ?_)
    refine ha_do 8 rfl (by kernel_rfl) (fun a _ => wanted_none rfl a) rfl (exw_call_pure Tryd.func32 rfl (by kernel_rfl) rfl (fun w' hw' => mac_any k d _ _ rfl rfl (some (x9.1, 0)) x9.2.1 (fun h => nomatch h) (fun h => nomatch h) (by omega) (some (x11.1, 0)) x11.2.1 (fun h => nomatch h) (fun h => nomatch h) (by omega) (by omega) (by omega) w' (Sl.own hw' 2 rfl rfl (vrow_own _ _)) (Sl.own hw' 1 rfl rfl (vrow_own _ _)) (hH.old0 hw') (hK.old0 hw'))) (by decide) (fun _ _ => (.cons 1 rfl (.cons 2 rfl .nil))) (fun _ _ => ?_)
    refine ha_do 10 rfl (by kernel_rfl) (fun a _ => wanted_none rfl a) rfl (exw_store_row0 rfl rfl (by rw [size25, vbs_size, hmac_length]) (by rw [vbs_size, vbs_size, hmac_length]; rfl) (vbs_one _)) (by decide) (fun _ _ => (.cons 1 rfl (.cons 2 rfl .nil))) (fun _ _ => ?_)
    refine ha_done (by kernel_rfl) ?_
    refine hk_then_code ?_
    refine hl_seq ?_
    refine hl_seq ?_
    refine hl_held _ (by kernel_rfl) (by decide) (.cons 0 rfl (.cons 1 rfl (.cons 2 rfl .nil))) ?_
    refine ha_take 0 rfl (by kernel_rfl) (by kernel_rfl) (by kernel_rfl) (fun _ _ _ h => h) rfl rfl (ex_load_row rfl 0 rfl rfl Tryd.underlying25 rfl (by rw [size25, vbs_size, hmac_length])) ?_
    refine ha_take 1 rfl (by kernel_rfl) (by kernel_rfl) (by kernel_rfl) (fun _ _ _ h => h) rfl rfl (ex_move rfl) ?_
    refine ha_take 2 rfl (by kernel_rfl) (by kernel_rfl) (by kernel_rfl) (fun _ _ _ h => h) rfl rfl (ex_move rfl) ?_
    refine ha_do 3 rfl (by kernel_rfl) (fun a _ => wanted_none rfl a) rfl (exw_call_pure Tryd.func33 rfl (by kernel_rfl) rfl (fun w' hw' => refmac_any k d _ _ rfl rfl p c (fun h => (hne h).1) (fun h => (hne h).2) hlc q c2 (fun h => (hqe h).1) (fun h => (hqe h).2) hqc (by omega) (by omega) w' (hS.old0 hw') (hT.old0 hw') (hTK.old0 hw') (hTH.old0 hw'))) (by decide) (fun _ _ => (.cons 0 rfl (.cons 1 rfl (.cons 2 rfl .nil)))) (fun _ _ => ?_)
    refine ha_take 4 rfl (by kernel_rfl) (by kernel_rfl) (by kernel_rfl) (fun _ _ _ h => h) rfl rfl (ex_neq_arr (b := false) rfl rfl Tryd.underlying25 Tryd.underlying5 size5 (by kernel_rfl) (hmac_length _ _) (hmac_length _ _) (neq_false_of_eq rfl)) ?_
    refine ha_take 5 rfl (by kernel_rfl) (by kernel_rfl) (by kernel_rfl) (fun _ _ _ h => h) rfl rfl (ex_move rfl) ?_
    refine ha_want 6 rfl (by kernel_rfl) (by kernel_rfl) (by kernel_rfl) (fun _ _ _ h => h) rfl rfl rfl rfl rfl (ex_move rfl) ?_
    refine ha_want 7 rfl (by kernel_rfl) (by kernel_rfl) (by kernel_rfl) (fun _ _ _ h => h) rfl rfl rfl rfl rfl (ex_move rfl) ?_
    refine ha_do 8 rfl (by kernel_rfl) (want_of rfl rfl rfl rfl) rfl (exw_call Tryd.func12 rfl (by kernel_rfl) rfl (val := fun x : Nat × Nat × List Value => rowv (some x.1) (k.length + 8) x.2.1) (hs' := fun x => ⟨some x.1, vrow k (marks.map vb ++ x.2.2), 5, (0, 0)⟩ :: _) (pre := fun x => RowOk 1 (some x.1) (k.length + 8) x.2.1 ((k ++ marks).map vb) x.2.2) (fun w' hw' => (padded_any k _ rfl p c (fun h => (hne h).1) (fun h => (hne h).2) (by omega) w' (hS.old0 hw')).mono fun e w2 ⟨g, c', r, h1, h2, h3⟩ => ⟨(g, c', r), h1, h2, hw'.comp (A := []) (by simp) h3⟩)) (by decide) (fun x29 hx29 => (.cons 1 rfl (.cons 2 rfl (.cons 3 rfl .nil)))) (fun x29 hx29 => ?_)
    refine ha_do 9 rfl (by kernel_rfl) (want_of rfl rfl rfl rfl) rfl (exw_call_pure Tryd.func17 rfl (by kernel_rfl) rfl (fun w' hw' => bytes_any (k ++ marks) (k ++ marks) _ _ (pad_length k) (pad_length k) (some (x9.1, 0)) (some (x29.1, 0)) x9.2.1 x29.2.1 (fun h => nomatch h) (fun h => nomatch h) (by rw [pad_length]; omega) (by rw [pad_length]; omega) w' (Sl.own hw' 3 rfl rfl (vrow_all _ _ _)) (Sl.own hw' 0 rfl rfl (vrow_all _ _ _)))) (by decide) (fun _ _ => (.cons 1 rfl (.cons 2 rfl (.cons 3 rfl .nil)))) (fun _ _ => ?_)
    refine ha_want 10 rfl (by kernel_rfl) (by kernel_rfl) (by kernel_rfl) (fun _ _ _ h => h) rfl rfl rfl rfl rfl (ex_not (b := true) (by rw [show ((k ++ marks) == (k ++ marks)) = true by simp]; rfl)) ?_
    refine ha_take 11 rfl (by kernel_rfl) (by kernel_rfl) (by kernel_rfl) (fun _ _ _ h => h) rfl rfl (ex_pick_false rfl rfl) ?_
    refine ha_take 12 rfl (by kernel_rfl) (by kernel_rfl) (by kernel_rfl) (fun _ _ _ h => h) rfl rfl (ex_move rfl) ?_
    refine ha_want 13 rfl (by kernel_rfl) (by kernel_rfl) (by kernel_rfl) (fun _ _ _ h => h) rfl rfl rfl rfl rfl (ex_move rfl) ?_
    refine ha_want 14 rfl (by kernel_rfl) (by kernel_rfl) (by kernel_rfl) (fun _ _ _ h => h) rfl rfl rfl rfl rfl (ex_move rfl) ?_
    refine ha_do 15 rfl (by kernel_rfl) (want_of rfl rfl rfl rfl) rfl (exw_call Tryd.func12 rfl (by kernel_rfl) rfl (val := fun x : Nat × Nat × List Value => rowv (some x.1) (d.length + 8) x.2.1) (hs' := fun x => ⟨some x.1, vrow d (marks.map vb ++ x.2.2), 5, (0, 0)⟩ :: _) (pre := fun x => RowOk 1 (some x.1) (d.length + 8) x.2.1 ((d ++ marks).map vb) x.2.2) (fun w' hw' => (padded_any d _ rfl q c2 (fun h => (hqe h).1) (fun h => (hqe h).2) (by omega) w' (hT.old0 hw')).mono fun e w2 ⟨g, c', r, h1, h2, h3⟩ => ⟨(g, c', r), h1, h2, hw'.comp (A := []) (by simp) h3⟩)) (by decide) (fun x36 hx36 => (.cons 2 rfl (.cons 3 rfl (.cons 4 rfl .nil)))) (fun x36 hx36 => ?_)
    refine ha_do 16 rfl (by kernel_rfl) (want_of rfl rfl rfl rfl) rfl (exw_call_pure Tryd.func17 rfl (by kernel_rfl) rfl (fun w' hw' => bytes_any (d ++ marks) (d ++ marks) _ _ (pad_length d) (pad_length d) (some (x11.1, 0)) (some (x36.1, 0)) x11.2.1 x36.2.1 (fun h => nomatch h) (fun h => nomatch h) (by rw [pad_length]; omega) (by rw [pad_length]; omega) w' (Sl.own hw' 3 rfl rfl (vrow_all _ _ _)) (Sl.own hw' 0 rfl rfl (vrow_all _ _ _)))) (by decide) (fun _ _ => (.cons 2 rfl (.cons 3 rfl (.cons 4 rfl .nil)))) (fun _ _ => ?_)
    refine ha_want 17 rfl (by kernel_rfl) (by kernel_rfl) (by kernel_rfl) (fun _ _ _ h => h) rfl rfl rfl rfl rfl (ex_not (b := true) (by rw [show ((d ++ marks) == (d ++ marks)) = true by simp]; rfl)) ?_
    refine ha_take 18 rfl (by kernel_rfl) (by kernel_rfl) (by kernel_rfl) (fun _ _ _ h => h) rfl rfl (ex_pick_false rfl rfl) ?_
    refine ha_done (by kernel_rfl) ?_
    refine hk_then_code ?_
    refine hl_false rfl ?_
    refine hl_skip ?_
    refine hk_then_code ?_
    refine hl_seq ?_
    refine hl_region ?_
    refine ho_val rfl rfl (ex_move rfl) ?_
    refine ho_val rfl rfl (ex_move rfl) ?_
    refine ho_val rfl rfl (ex_len_slice rfl Tryd.underlying22) ?_
    refine ho_val rfl rfl (ex_slice_hi rfl rfl Tryd.underlying22 _ size5 (by omega)) ?_
    refine ho_pick _ (by decide) (.cons 4 rfl (.cons 0 rfl (.cons 1 rfl (.cons 2 rfl (.cons 3 rfl .nil))))) ?_
    refine ho_do rfl rfl (exw_call Tryd.func18 rfl (by kernel_rfl) rfl (val := fun _ : Unit => .tuple #[]) (hs' := fun _ => ⟨some x9.1, vrow (turnTo1 k k.length) (marks.map vb ++ x9.2.2), 5, (0, 0)⟩ :: _) (pre := fun _ => True) (fun w' hw' => (turned_any k _ rfl (marks.map vb ++ x9.2.2) x9.1 x9.2.1 (by omega) w' (hw'.own _ (List.mem_cons_self) x9.1 rfl)).mono fun e w2 ⟨h1, h2⟩ => ⟨(), trivial, h1, hw'.comp (A := [_]) (fun g hg => ⟨_, List.mem_cons_self, by rw [List.mem_singleton.1 hg]⟩) h2⟩)) (fun _ _ => ?_)
    refine ho_nil ?_
    refine hk_then_code ?_
    refine hl_seq ?_
    refine hl_seq ?_
    refine hl_held _ (by kernel_rfl) (by decide) (.cons 0 rfl (.cons 1 rfl (.cons 2 rfl (.cons 3 rfl (.cons 4 rfl .nil))))) ?_
    refine ha_take 0 rfl (by kernel_rfl) (by kernel_rfl) (by kernel_rfl) (fun _ _ _ h => h) rfl rfl (ex_move rfl) ?_
    refine ha_take 1 rfl (by kernel_rfl) (by kernel_rfl) (by kernel_rfl) (fun _ _ _ h => h) rfl rfl (ex_move rfl) ?_
    refine ha_take 2 rfl (by kernel_rfl) (by kernel_rfl) (by kernel_rfl) (fun _ _ _ h => h) rfl rfl (ex_len_slice rfl Tryd.underlying22) ?_
    refine ha_take 3 rfl (by kernel_rfl) (by kernel_rfl) (by kernel_rfl) (fun _ _ _ h => h) rfl rfl (ex_slice_hi rfl rfl Tryd.underlying22 _ size5 (by omega)) ?_
    refine ha_take 4 rfl (by kernel_rfl) (by kernel_rfl) (by kernel_rfl) (fun _ _ _ h => h) rfl rfl (ex_move rfl) ?_
    refine ha_take 5 rfl (by kernel_rfl) (by kernel_rfl) (by kernel_rfl) (fun _ _ _ h => h) rfl rfl (ex_move rfl) ?_
    refine ha_take 6 rfl (by kernel_rfl) (by kernel_rfl) (by kernel_rfl) (fun _ _ _ h => h) rfl rfl (ex_len_slice rfl Tryd.underlying22) ?_
    refine ha_take 7 rfl (by kernel_rfl) (by kernel_rfl) (by kernel_rfl) (fun _ _ _ h => h) rfl rfl (ex_slice_hi rfl rfl Tryd.underlying22 _ size5 (by omega)) ?_
    refine ha_take 9 rfl (by kernel_rfl) (by kernel_rfl) (by kernel_rfl) (fun _ _ _ h => h) rfl rfl (ex_move rfl) ?_
    refine ha_take 10 rfl (by kernel_rfl) (by kernel_rfl) (by kernel_rfl) (fun _ _ _ h => h) rfl rfl (ex_move rfl) ?_
    refine ha_take 11 rfl (by kernel_rfl) (by kernel_rfl) (by kernel_rfl) (fun _ _ _ h => h) rfl rfl (ex_len_slice rfl Tryd.underlying22) ?_
    refine ha_take 12 rfl (by kernel_rfl) (by kernel_rfl) (by kernel_rfl) (fun _ _ _ h => h) rfl rfl (ex_slice_hi rfl rfl Tryd.underlying22 _ size5 (by omega)) ?_
    refine ha_take 13 rfl (by kernel_rfl) (by kernel_rfl) (by kernel_rfl) (fun _ _ _ h => h) rfl rfl (ex_move rfl) ?_
    refine ha_do 8 rfl (by kernel_rfl) (fun a _ => wanted_none rfl a) rfl (exw_call_pure Tryd.func32 rfl (by kernel_rfl) rfl (fun w' hw' => mac_any (turnTo1 k k.length) d _ _ hTk rfl (some (x9.1, 0)) x9.2.1 (fun h => nomatch h) (fun h => nomatch h) (by omega) (some (x11.1, 0)) x11.2.1 (fun h => nomatch h) (fun h => nomatch h) (by omega) (by omega) (by omega) w' (Sl.own hw' 0 rfl rfl (vrow_own _ _)) (Sl.own hw' 4 rfl rfl (vrow_own _ _)) (hH.old0 hw') (hK.old0 hw'))) (by decide) (fun _ _ => (.cons 0 rfl (.cons 1 rfl (.cons 2 rfl (.cons 3 rfl (.cons 4 rfl .nil)))))) (fun _ _ => ?_)
    refine ha_do 14 rfl (by kernel_rfl) (fun a _ => wanted_none rfl a) rfl (exw_call_pure Tryd.func33 rfl (by kernel_rfl) rfl (fun w' hw' => refmac_any (turnTo1 k k.length) d _ _ hTk rfl (some (x9.1, 0)) x9.2.1 (fun h => nomatch h) (fun h => nomatch h) (by omega) q c2 (fun h => (hqe h).1) (fun h => (hqe h).2) hqc (by omega) (by omega) w' (Sl.own hw' 0 rfl rfl (vrow_own _ _)) (hT.old0 hw') (hTK.old0 hw') (hTH.old0 hw'))) (by decide) (fun _ _ => (.cons 0 rfl (.cons 1 rfl (.cons 2 rfl (.cons 3 rfl (.cons 4 rfl .nil)))))) (fun _ _ => ?_)
    refine ha_take 15 rfl (by kernel_rfl) (by kernel_rfl) (by kernel_rfl) (fun _ _ _ h => h) rfl rfl (ex_neq_arr (b := false) rfl rfl Tryd.underlying25 Tryd.underlying5 size5 (by kernel_rfl) (hmac_length _ _) (hmac_length _ _) (neq_false_of_eq rfl)) ?_
    refine ha_done (by kernel_rfl) ?_
    refine hk_then_code ?_
    refine hl_false rfl ?_
    refine hl_skip ?_
    refine hk_then_code ?_
    refine hl_seq ?_
    refine hl_region ?_
    refine ho_val rfl rfl (ex_move rfl) ?_
    refine ho_val rfl rfl (ex_move rfl) ?_
    refine ho_val rfl rfl (ex_len_slice rfl Tryd.underlying22) ?_
    refine ho_val rfl rfl (ex_slice_hi rfl rfl Tryd.underlying22 _ size5 (by omega)) ?_
    refine ho_pick _ (by decide) (.cons 4 rfl (.cons 0 rfl (.cons 1 rfl (.cons 2 rfl (.cons 3 rfl .nil))))) ?_
    refine ho_do rfl rfl (exw_call Tryd.func18 rfl (by kernel_rfl) rfl (val := fun _ : Unit => .tuple #[]) (hs' := fun _ => ⟨some x11.1, vrow (turnTo1 d d.length) (marks.map vb ++ x11.2.2), 5, (0, 0)⟩ :: _) (pre := fun _ => True) (fun w' hw' => (turned_any d _ rfl (marks.map vb ++ x11.2.2) x11.1 x11.2.1 (by omega) w' (hw'.own _ (List.mem_cons_self) x11.1 rfl)).mono fun e w2 ⟨h1, h2⟩ => ⟨(), trivial, h1, hw'.comp (A := [_]) (fun g hg => ⟨_, List.mem_cons_self, by rw [List.mem_singleton.1 hg]⟩) h2⟩)) (fun _ _ => ?_)
    refine ho_nil ?_
    refine hk_then_code ?_
    refine hl_seq ?_
    refine hl_held _ (by kernel_rfl) (by decide) (.cons 0 rfl (.cons 1 rfl (.cons 2 rfl (.cons 3 rfl (.cons 4 rfl .nil))))) ?_
    refine ha_take 0 rfl (by kernel_rfl) (by kernel_rfl) (by kernel_rfl) (fun _ _ _ h => h) rfl rfl (ex_move rfl) ?_
    refine ha_take 1 rfl (by kernel_rfl) (by kernel_rfl) (by kernel_rfl) (fun _ _ _ h => h) rfl rfl (ex_move rfl) ?_
    refine ha_take 2 rfl (by kernel_rfl) (by kernel_rfl) (by kernel_rfl) (fun _ _ _ h => h) rfl rfl (ex_len_slice rfl Tryd.underlying22) ?_
    refine ha_take 3 rfl (by kernel_rfl) (by kernel_rfl) (by kernel_rfl) (fun _ _ _ h => h) rfl rfl (ex_slice_hi rfl rfl Tryd.underlying22 _ size5 (by omega)) ?_
    refine ha_take 4 rfl (by kernel_rfl) (by kernel_rfl) (by kernel_rfl) (fun _ _ _ h => h) rfl rfl (ex_move rfl) ?_
    refine ha_take 5 rfl (by kernel_rfl) (by kernel_rfl) (by kernel_rfl) (fun _ _ _ h => h) rfl rfl (ex_move rfl) ?_
    refine ha_take 6 rfl (by kernel_rfl) (by kernel_rfl) (by kernel_rfl) (fun _ _ _ h => h) rfl rfl (ex_len_slice rfl Tryd.underlying22) ?_
    refine ha_take 7 rfl (by kernel_rfl) (by kernel_rfl) (by kernel_rfl) (fun _ _ _ h => h) rfl rfl (ex_slice_hi rfl rfl Tryd.underlying22 _ size5 (by omega)) ?_
    refine ha_take 9 rfl (by kernel_rfl) (by kernel_rfl) (by kernel_rfl) (fun _ _ _ h => h) rfl rfl (ex_move rfl) ?_
    refine ha_take 10 rfl (by kernel_rfl) (by kernel_rfl) (by kernel_rfl) (fun _ _ _ h => h) rfl rfl (ex_move rfl) ?_
    refine ha_take 11 rfl (by kernel_rfl) (by kernel_rfl) (by kernel_rfl) (fun _ _ _ h => h) rfl rfl (ex_len_slice rfl Tryd.underlying22) ?_
    refine ha_take 12 rfl (by kernel_rfl) (by kernel_rfl) (by kernel_rfl) (fun _ _ _ h => h) rfl rfl (ex_slice_hi rfl rfl Tryd.underlying22 _ size5 (by omega)) ?_
    refine ha_take 13 rfl (by kernel_rfl) (by kernel_rfl) (by kernel_rfl) (fun _ _ _ h => h) rfl rfl (ex_move rfl) ?_
    refine ha_take 14 rfl (by kernel_rfl) (by kernel_rfl) (by kernel_rfl) (fun _ _ _ h => h) rfl rfl (ex_move rfl) ?_
    refine ha_take 15 rfl (by kernel_rfl) (by kernel_rfl) (by kernel_rfl) (fun _ _ _ h => h) rfl rfl (ex_len_slice rfl Tryd.underlying22) ?_
    refine ha_take 16 rfl (by kernel_rfl) (by kernel_rfl) (by kernel_rfl) (fun _ _ _ h => h) rfl rfl (ex_slice_hi rfl rfl Tryd.underlying22 _ size5 (by omega)) ?_
    refine ha_do 8 rfl (by kernel_rfl) (fun a _ => wanted_none rfl a) rfl (exw_call_pure Tryd.func32 rfl (by kernel_rfl) rfl (fun w' hw' => mac_any (turnTo1 k k.length) (turnTo1 d d.length) _ _ hTk hTd (some (x9.1, 0)) x9.2.1 (fun h => nomatch h) (fun h => nomatch h) (by omega) (some (x11.1, 0)) x11.2.1 (fun h => nomatch h) (fun h => nomatch h) (by omega) (by omega) (by omega) w' (Sl.own hw' 1 rfl rfl (vrow_own _ _)) (Sl.own hw' 0 rfl rfl (vrow_own _ _)) (hH.old0 hw') (hK.old0 hw'))) (by decide) (fun _ _ => (.cons 0 rfl (.cons 1 rfl (.cons 2 rfl (.cons 3 rfl (.cons 4 rfl .nil)))))) (fun _ _ => ?_)
    refine ha_do 17 rfl (by kernel_rfl) (fun a _ => wanted_none rfl a) rfl (exw_call_pure Tryd.func33 rfl (by kernel_rfl) rfl (fun w' hw' => refmac_any (turnTo1 k k.length) (turnTo1 d d.length) _ _ hTk hTd (some (x9.1, 0)) x9.2.1 (fun h => nomatch h) (fun h => nomatch h) (by omega) (some (x11.1, 0)) x11.2.1 (fun h => nomatch h) (fun h => nomatch h) (by omega) (by omega) (by omega) w' (Sl.own hw' 1 rfl rfl (vrow_own _ _)) (Sl.own hw' 0 rfl rfl (vrow_own _ _)) (hTK.old0 hw') (hTH.old0 hw'))) (by decide) (fun _ _ => (.cons 0 rfl (.cons 1 rfl (.cons 2 rfl (.cons 3 rfl (.cons 4 rfl .nil)))))) (fun _ _ => ?_)
    refine ha_take 18 rfl (by kernel_rfl) (by kernel_rfl) (by kernel_rfl) (fun _ _ _ h => h) rfl rfl (ex_eql_arr (b := true) rfl rfl Tryd.underlying25 Tryd.underlying5 size5 (by kernel_rfl) (hmac_length _ _) (hmac_length _ _) (eql_true_of_eq rfl)) ?_
    refine ha_take 19 rfl (by kernel_rfl) (by kernel_rfl) (by kernel_rfl) (fun _ _ _ h => h) rfl rfl (ex_assign rfl) ?_
    refine ha_done (by kernel_rfl) ?_
    refine hk_then_code ?_
    refine hl_ret ?_
    exact hk_ret rfl rfl (fun w' hw' => ⟨rfl, hw'.below⟩)

end Go.Proofs.YtdmagjelmhcemaaDoor
