/- The law DigestSums, walked. -/
import Derived.Test.YtdmagjelmhcemaaDoorBytes
import Derived.Test.YtdmagjelmhcemaaDoorFolds
import Derived.Test.YtdmagjelmhcemaaDoorHashRest
import Derived.Test.YtdmagjelmhcemaaDoorRefOf
import Derived.KernelRfl
namespace Go.Proofs.YtdmagjelmhcemaaDoor
open Go.RowKit
set_option linter.unusedVariables false
set_option linter.unusedSimpArgs false

set_option maxHeartbeats 400000 in
theorem sums_law (l : List UInt8) (p : Option (Nat × Nat)) (c : Nat) (hne : p = none → l.length = 0 ∧ c = 0) (hlc : l.length ≤ c) (hl : l.length ≤ 1048576) (w : World) (hS : Sl w p (l.map vb)) (hH : Sl w (some (2, 0)) (tH.map vw)) (hK : Sl w (some (3, 0)) (tK.map vw)) (hTK : Sl w (some (1, 0)) (tK.map vw)) (hTH : Sl w (some (0, 0)) (tH.map vw)) :
    Calls Tryd.prog 3 #[slv p l.length c] w fun e w' => e = .returned (.bool true) ∧ Below w.heap.size w w' := by
  have hTl : (turnTo1 l l.length).length = l.length := turnTo1_length l l.length
  refine calls_enter (n := 41) (hs := []) (M := []) (vs := [slv p l.length c]) Tryd.func3 rfl rfl rfl (Hp.start w) ?_
  refine hl_seq ?_
  refine hl_region ?_
  refine ho_val rfl rfl (ex_assign rfl) ?_
  refine ho_nil ?_
  refine hk_then_code ?_
  refine hl_seq ?_
  refine hl_region ?_
  refine ho_val rfl rfl (ex_move rfl) ?_
  refine ho_do rfl rfl (exw_call Tryd.func12 rfl (by kernel_rfl) rfl (val := fun x : Nat × Nat × List Value => rowv (some x.1) (l.length + 8) x.2.1) (hs' := fun x => ⟨some x.1, vrow l (marks.map vb ++ x.2.2), 5, (0, 0)⟩ :: _) (pre := fun x => RowOk 1 (some x.1) (l.length + 8) x.2.1 ((l ++ marks).map vb) x.2.2) (fun w' hw' => (padded_any l _ rfl p c (fun h => (hne h).1) (fun h => (hne h).2) (by omega) w' (hS.old0 hw')).mono fun e w2 ⟨g, c', r, h1, h2, h3⟩ => ⟨(g, c', r), h1, h2, hw'.comp (A := []) (by simp) h3⟩)) (fun x8 hx8 => ?_)
  refine ho_val rfl rfl (ex_assign rfl) ?_
  refine ho_nil ?_
  refine hk_then_code ?_
  refine hl_seq ?_
  have hcap : l.length + 8 ≤ x8.2.1 := RowOk.le hx8
  refine hl_region ?_
  refine ho_val rfl rfl (ex_move rfl) ?_
  refine ho_val rfl rfl (ex_move rfl) ?_
  refine ho_val rfl rfl (ex_len_slice rfl Tryd.underlying22) ?_
  refine ho_val rfl rfl (ex_slice_hi rfl rfl Tryd.underlying22 _ size5 (by omega)) ?_
  refine ho_val rfl rfl (ex_assign rfl) ?_
  refine ho_nil ?_
  refine hk_then_code ?_
  refine hl_seq ?_
  refine hl_region ?_
  refine ho_val rfl rfl (ex_move rfl) ?_
  refine ho_do rfl rfl (exw_call_pure Tryd.func13 rfl (by kernel_rfl) rfl (fun w' hw' => of_any l _ rfl (some (x8.1, 0)) x8.2.1 (fun h => nomatch h) (fun h => nomatch h) (by omega) (by omega) w' (Sl.own hw' 0 rfl rfl (vrow_own _ _)) (hH.old0 hw') (hK.old0 hw'))) (fun _ _ => ?_)
  refine ho_do rfl rfl (exw_alloc_cs (z := .agg (vbs (List.replicate 32 0))) (vbs (List.replicate 32 0)) (by kernel_rfl) rfl) (fun b5 hb5 => ?_)
  refine ho_do rfl rfl (exw_store_row0 rfl rfl (by rw [size25, vbs_size, sha_length]) (by rw [vbs_size, vbs_size, sha_length]; rfl) (vbs_one _)) (fun _ _ => ?_)
  refine ho_nil ?_
  refine hk_then_code ?_
  refine hl_seq ?_
  refine hl_region ?_
  refine ho_val rfl rfl (ex_move rfl) ?_
  refine ho_do rfl rfl (exw_call_pure Tryd.func14 rfl (by kernel_rfl) rfl (fun w' hw' => refof_any l _ rfl p c (fun h => (hne h).1) (fun h => (hne h).2) (by omega) w' (hS.old0 hw') (hTK.old0 hw') (hTH.old0 hw'))) (fun _ _ => ?_)
  refine ho_do rfl rfl (exw_alloc_cs (z := .agg (vbs (List.replicate 32 0))) (vbs (List.replicate 32 0)) (by kernel_rfl) rfl) (fun b6 hb6 => ?_)
  refine ho_do rfl rfl (exw_store_row0 rfl rfl (by rw [size25, vbs_size, sha_length]) (by rw [vbs_size, vbs_size, sha_length]; rfl) (vbs_one _)) (fun _ _ => ?_)
  refine ho_nil ?_
  refine hk_then_code ?_
  refine hl_seq ?_
  refine hl_seq ?_
  refine hl_held _ (by kernel_rfl) (by decide) (.cons 0 rfl (.cons 1 rfl (.cons 2 rfl .nil))) ?_
  refine ha_take 0 rfl (by kernel_rfl) (by kernel_rfl) (by kernel_rfl) (fun _ _ _ h => h) rfl rfl (ex_load_row rfl 1 rfl rfl Tryd.underlying25 rfl (by rw [size25, vbs_size, sha_length])) ?_
  refine ha_take 1 rfl (by kernel_rfl) (by kernel_rfl) (by kernel_rfl) (fun _ _ _ h => h) rfl rfl (ex_load_row rfl 0 rfl rfl Tryd.underlying25 rfl (by rw [size25, vbs_size, sha_length])) ?_
  refine ha_take 2 rfl (by kernel_rfl) (by kernel_rfl) (by kernel_rfl) (fun _ _ _ h => h) rfl rfl (ex_neq_arr (b := false) rfl rfl Tryd.underlying25 Tryd.underlying5 size5 (by kernel_rfl) (sha_length _ _ _) (sha_length _ _ _) (neq_false_of_eq rfl)) ?_
  refine ha_take 3 rfl (by kernel_rfl) (by kernel_rfl) (by kernel_rfl) (fun _ _ _ h => h) rfl rfl (ex_move rfl) ?_
  refine ha_want 4 rfl (by kernel_rfl) (by kernel_rfl) (by kernel_rfl) (fun _ _ _ h => h) rfl rfl rfl rfl rfl (ex_load_row rfl 1 rfl rfl Tryd.underlying25 rfl (by rw [size25, vbs_size, sha_length])) ?_
  refine ha_want 6 rfl (by kernel_rfl) (by kernel_rfl) (by kernel_rfl) (fun _ _ _ h => h) rfl rfl rfl rfl rfl (ex_load_row rfl 0 rfl rfl Tryd.underlying25 rfl (by rw [size25, vbs_size, sha_length])) ?_
  refine ha_do 5 rfl (by kernel_rfl) (want_of rfl rfl rfl rfl) rfl (exw_call_pure Tryd.func15 rfl (by kernel_rfl) rfl (fun w' hw' => fold_any (sha tK tH l) (sha_length _ _ _) w')) (by decide) (fun _ _ => (.cons 0 rfl (.cons 1 rfl (.cons 2 rfl .nil)))) (fun _ _ => ?_)
  refine ha_do 7 rfl (by kernel_rfl) (want_of rfl rfl rfl rfl) rfl (exw_call_pure Tryd.func16 rfl (by kernel_rfl) rfl (fun w' hw' => reffold_any (sha tK tH l) (sha_length _ _ _) w')) (by decide) (fun _ _ => (.cons 0 rfl (.cons 1 rfl (.cons 2 rfl .nil)))) (fun _ _ => ?_)
  refine ha_want 8 rfl (by kernel_rfl) (by kernel_rfl) (by kernel_rfl) (fun _ _ _ h => h) rfl rfl rfl rfl rfl (ex_neq_arr (b := false) rfl rfl Tryd.underlying28 Tryd.underlying5 size5 (by kernel_rfl) (foldTo_length _ _) (foldTo_length _ _) (neq_false_of_eq rfl)) ?_
  refine ha_take 9 rfl (by kernel_rfl) (by kernel_rfl) (by kernel_rfl) (fun _ _ _ h => h) rfl rfl (ex_pick_false rfl rfl) ?_
  refine ha_take 10 rfl (by kernel_rfl) (by kernel_rfl) (by kernel_rfl) (fun _ _ _ h => h) rfl rfl (ex_move rfl) ?_
  refine ha_want 11 rfl (by kernel_rfl) (by kernel_rfl) (by kernel_rfl) (fun _ _ _ h => h) rfl rfl rfl rfl rfl (ex_move rfl) ?_
  refine ha_want 12 rfl (by kernel_rfl) (by kernel_rfl) (by kernel_rfl) (fun _ _ _ h => h) rfl rfl rfl rfl rfl (ex_move rfl) ?_
  refine ha_do 13 rfl (by kernel_rfl) (want_of rfl rfl rfl rfl) rfl (exw_call Tryd.func12 rfl (by kernel_rfl) rfl (val := fun x : Nat × Nat × List Value => rowv (some x.1) (l.length + 8) x.2.1) (hs' := fun x => ⟨some x.1, vrow l (marks.map vb ++ x.2.2), 5, (0, 0)⟩ :: _) (pre := fun x => RowOk 1 (some x.1) (l.length + 8) x.2.1 ((l ++ marks).map vb) x.2.2) (fun w' hw' => (padded_any l _ rfl p c (fun h => (hne h).1) (fun h => (hne h).2) (by omega) w' (hS.old0 hw')).mono fun e w2 ⟨g, c', r, h1, h2, h3⟩ => ⟨(g, c', r), h1, h2, hw'.comp (A := []) (by simp) h3⟩)) (by decide) (fun x30 hx30 => (.cons 1 rfl (.cons 2 rfl (.cons 3 rfl .nil)))) (fun x30 hx30 => ?_)
  refine ha_do 14 rfl (by kernel_rfl) (want_of rfl rfl rfl rfl) rfl (exw_call_pure Tryd.func17 rfl (by kernel_rfl) rfl (fun w' hw' => bytes_any (l ++ marks) (l ++ marks) _ _ (pad_length l) (pad_length l) (some (x8.1, 0)) (some (x30.1, 0)) x8.2.1 x30.2.1 (fun h => nomatch h) (fun h => nomatch h) (by rw [pad_length]; omega) (by rw [pad_length]; omega) w' (Sl.own hw' 3 rfl rfl (vrow_all _ _ _)) (Sl.own hw' 0 rfl rfl (vrow_all _ _ _)))) (by decide) (fun _ _ => (.cons 1 rfl (.cons 2 rfl (.cons 3 rfl .nil)))) (fun _ _ => ?_)
  refine ha_want 15 rfl (by kernel_rfl) (by kernel_rfl) (by kernel_rfl) (fun _ _ _ h => h) rfl rfl rfl rfl rfl (ex_not (b := true) (by rw [show ((l ++ marks) == (l ++ marks)) = true by simp]; rfl)) ?_
  refine ha_take 16 rfl (by kernel_rfl) (by kernel_rfl) (by kernel_rfl) (fun _ _ _ h => h) rfl rfl (ex_pick_false rfl rfl) ?_
  refine ha_done (by kernel_rfl) ?_
  refine hk_then_code ?_
  refine hl_false rfl ?_
  refine hl_skip ?_
  refine hk_then_code ?_
  refine hl_seq ?_
  refine hl_region ?_
  refine ho_val rfl rfl (ex_move rfl) ?_
  refine ho_pick _ (by decide) (.cons 3 rfl (.cons 0 rfl (.cons 1 rfl (.cons 2 rfl .nil)))) ?_
  refine ho_do rfl rfl (exw_call Tryd.func18 rfl (by kernel_rfl) rfl (val := fun _ : Unit => .tuple #[]) (hs' := fun _ => ⟨some x8.1, vrow (turnTo1 l l.length) (marks.map vb ++ x8.2.2), 5, (0, 0)⟩ :: _) (pre := fun _ => True) (fun w' hw' => (turned_any l _ rfl (marks.map vb ++ x8.2.2) x8.1 x8.2.1 (by omega) w' (hw'.own _ (List.mem_cons_self) x8.1 rfl)).mono fun e w2 ⟨h1, h2⟩ => ⟨(), trivial, h1, hw'.comp (A := [_]) (fun g hg => ⟨_, List.mem_cons_self, by rw [List.mem_singleton.1 hg]⟩) h2⟩)) (fun _ _ => ?_)
  refine ho_nil ?_
  refine hk_then_code ?_
  refine hl_seq ?_
  refine hl_region ?_
  refine ho_val rfl rfl (ex_move rfl) ?_
  refine ho_do rfl rfl (exw_call_pure Tryd.func13 rfl (by kernel_rfl) rfl (fun w' hw' => of_any (turnTo1 l l.length) _ hTl (some (x8.1, 0)) x8.2.1 (fun h => nomatch h) (fun h => nomatch h) (by omega) (by omega) w' (Sl.own hw' 0 rfl rfl (vrow_own _ _)) (hH.old0 hw') (hK.old0 hw'))) (fun _ _ => ?_)
  refine ho_val rfl rfl (ex_move rfl) ?_
  refine ho_do rfl rfl (exw_call_pure Tryd.func14 rfl (by kernel_rfl) rfl (fun w' hw' => refof_any (turnTo1 l l.length) _ hTl (some (x8.1, 0)) x8.2.1 (fun h => nomatch h) (fun h => nomatch h) (by omega) w' (Sl.own hw' 0 rfl rfl (vrow_own _ _)) (hTK.old0 hw') (hTH.old0 hw'))) (fun _ _ => ?_)
  refine ho_val rfl rfl (ex_eql_arr (b := true) rfl rfl Tryd.underlying25 Tryd.underlying5 size5 (by kernel_rfl) (sha_length _ _ _) (sha_length _ _ _) (eql_true_of_eq rfl)) ?_
  refine ho_val rfl rfl (ex_assign rfl) ?_
  refine ho_nil ?_
  refine hk_then_code ?_
  refine hl_ret ?_
  exact hk_ret rfl rfl (fun w' hw' => ⟨rfl, hw'.below⟩)

end Go.Proofs.YtdmagjelmhcemaaDoor
