/- The law DigestApart, walked. -/
import Derived.Test.YtdmagjelmhcemaaDoorNils
namespace Go.Proofs.YtdmagjelmhcemaaDoor
open Go.RowKit
set_option linter.unusedVariables false
set_option linter.unusedSimpArgs false

set_option maxHeartbeats 1600000 in
theorem apart_law (x y z : List UInt8) (p q r : Option (Nat × Nat)) (c c2 c3 : Nat) (hne : p = none → x.length = 0 ∧ c = 0) (hlc : x.length ≤ c) (hqe : q = none → y.length = 0 ∧ c2 = 0) (hqc : y.length ≤ c2) (hre : r = none → z.length = 0 ∧ c3 = 0) (hrc : z.length ≤ c3) (hx : x.length ≤ 1048576) (hy : y.length ≤ 1048576) (hz : z.length ≤ 1048576) (w : World) (hS : Sl w p (x.map vb)) (hT : Sl w q (y.map vb)) (hU : Sl w r (z.map vb)) (hH : Sl w (some (2, 0)) (tH.map vw)) (hK : Sl w (some (3, 0)) (tK.map vw)) :
    Calls Tryd.prog 7 #[slv p x.length c, slv q y.length c2, slv r z.length c3] w fun e w' => e = .returned (.bool true) ∧ Below w.heap.size w w' := by
  have h3 : 3 < w.heap.size := World.block_lt_of_cell? w _ (hK.cell0 (tK_get 0 (by decide)))
  have h2 : 2 < w.heap.size := World.block_lt_of_cell? w _ (hH.cell0 (map_vw_get tH 0 (by decide)))
  refine calls_enter (n := 78) (hs := []) (M := []) (vs := [slv p x.length c, slv q y.length c2, slv r z.length c3]) Tryd.func7 rfl rfl rfl (Hp.start w) ?_
  refine hl_seq ?_
  refine hl_region ?_
  refine ho_val rfl rfl (ex_assign rfl) ?_
  refine ho_nil ?_
  refine hk_then_code ?_
  refine hl_seq ?_
  refine hl_region ?_
  refine ho_do rfl rfl (exw_call Tryd.func19 rfl (by kernel_rfl) rfl (val := fun st : Nat => .pointer (some ⟨st, 0, none⟩)) (hs' := fun st => ⟨some st, hblk tH (List.replicate 64 0) 0, 67, (0, 0)⟩ :: _) (pre := fun st => w.heap.size ≤ st) (fun w' hw' => (new_any w' (hH.old0 hw')).mono fun e w2 ⟨g, h1, h2⟩ => ⟨g, Nat.le_trans hw'.size h2.fresh, h1, hw'.comp (A := []) (by simp) h2⟩)) (fun h12 ge12 => ?_)
  refine ho_val rfl rfl (ex_assign rfl) ?_
  refine ho_nil ?_
  refine hk_then_code ?_
  refine hl_seq ?_
  have HL15 : ([] : List UInt8).length + x.length ≤ 1152921504606846976 := by rw [List.length_nil]; omega
  refine hl_region ?_
  refine ho_val rfl rfl (ex_move rfl) ?_
  refine ho_val rfl rfl (ex_move rfl) ?_
  refine ho_do rfl rfl (exw_call Tryd.func21 rfl (by kernel_rfl) rfl (val := fun _ : List UInt32 × List UInt8 => .int .i64 0) (hs' := fun st => ⟨some h12, hblk st.1 st.2 (([] : List UInt8) ++ x).length, 67, (0, 0)⟩ :: _) (pre := fun st => HSt (([] : List UInt8) ++ x) st.1 st.2) (fun w' hw' => (write_any ([] : List UInt8) x tH (List.replicate 64 0) _ rfl HSt.start h12 67 p c (fun h => (hne h).1) (fun h => (hne h).2) hlc HL15 w' (hw'.own _ List.mem_cons_self h12 rfl) (Sk.older hS hw' (by intro a ha; rw [List.mem_singleton.1 ha]; exact ge12)) (hK.old0 hw') (by omega)).mono fun e w2 ⟨S', R', h1, h2, h3⟩ => ⟨(S', R'), h1, h2, hw'.comp (A := [_]) (fun g hg => ⟨_, List.mem_cons_self, by rw [List.mem_singleton.1 hg]⟩) h3⟩)) (fun x15 hx15 => ?_)
  refine ho_nil ?_
  refine hk_then_code ?_
  refine hl_seq ?_
  refine hl_region ?_
  refine ho_val rfl rfl (ex_move rfl) ?_
  refine ho_do rfl rfl (exw_call Tryd.func27 rfl (by kernel_rfl) rfl (val := fun st : Nat => .pointer (some ⟨st, 0, none⟩)) (hs' := fun st => ⟨some st, hblk x15.1 x15.2 (([] : List UInt8) ++ x).length, 67, (0, 0)⟩ :: _) (pre := fun st => w.heap.size ≤ st) (fun w' hw' => (clone_any (([] : List UInt8) ++ x) x15.1 x15.2 hx15 h12 67 w' (hw'.own _ (List.mem_of_getElem? (i := 0) rfl) h12 rfl)).mono fun e w2 ⟨b, h1, h2⟩ => ⟨b, Nat.le_trans hw'.size h2.fresh, h1, hw'.comp (A := []) (by simp) h2⟩)) (fun g17 ge17 => ?_)
  refine ho_val rfl rfl (ex_assign rfl) ?_
  refine ho_nil ?_
  refine hk_then_code ?_
  refine hl_seq ?_
  refine hl_seq ?_
  refine hl_region ?_
  refine ho_val rfl rfl (ex_move rfl) ?_
  refine ho_val rfl rfl (ex_eql_ptr rfl rfl Tryd.underlying34 rfl) ?_
  refine ho_nil ?_
  refine hk_then_code ?_
  refine hl_false rfl ?_
  refine hl_skip ?_
  refine hk_then_code ?_
  refine hl_seq ?_
  refine hl_region ?_
  refine ho_val rfl rfl (ex_assign rfl) ?_
  refine ho_nil ?_
  refine hk_then_code ?_
  refine hl_seq ?_
  refine hl_region ?_
  refine ho_val rfl rfl (ex_move rfl) ?_
  refine ho_val rfl rfl (ex_move rfl) ?_
  refine ho_nil_block 5 ?_
  refine ho_do rfl rfl (exw_append0 (o := none) (m := 0) (c := 0) (xs := []) (rest := []) rfl rfl rfl (RowOk.start _) (fun w' hw' => hS.old0 hw') (by simp) (map_vb_one _) Tryd.underlying22 info5 rfl (by decide) (by omega) (by simp only [maxLen]; omega) hne) (fun y22 hk22 => ?_)
  refine ho_val rfl rfl (ex_move rfl) ?_
  refine ho_do rfl rfl (exw_append0 (rest := y22.2.2) rfl rfl rfl hk22 (fun w' hw' => hT.old0 hw') (by simp) (map_vb_one _) Tryd.underlying22 info5 rfl (by decide) (by omega) (by simp only [maxLen]; omega) hqe) (fun y24 hk24 => ?_)
  refine ho_val rfl rfl (ex_assign rfl) ?_
  refine ho_nil ?_
  refine hk_then_code ?_
  refine hl_seq ?_
  refine hl_region ?_
  refine ho_val rfl rfl (ex_assign rfl) ?_
  refine ho_nil ?_
  refine hk_then_code ?_
  refine hl_seq ?_
  refine hl_region ?_
  refine ho_val rfl rfl (ex_move rfl) ?_
  refine ho_val rfl rfl (ex_move rfl) ?_
  refine ho_nil_block 5 ?_
  refine ho_do rfl rfl (exw_append0 (o := none) (m := 0) (c := 0) (xs := []) (rest := []) rfl rfl rfl (RowOk.start _) (fun w' hw' => hS.old0 hw') (by simp) (map_vb_one _) Tryd.underlying22 info5 rfl (by decide) (by omega) (by simp only [maxLen]; omega) hne) (fun y27 hk27 => ?_)
  refine ho_val rfl rfl (ex_move rfl) ?_
  refine ho_do rfl rfl (exw_append0 (rest := y27.2.2) rfl rfl rfl hk27 (fun w' hw' => hU.old0 hw') (by simp) (map_vb_one _) Tryd.underlying22 info5 rfl (by decide) (by omega) (by simp only [maxLen]; omega) hre) (fun y29 hk29 => ?_)
  refine ho_val rfl rfl (ex_assign rfl) ?_
  refine ho_nil ?_
  refine hk_then_code ?_
  refine hl_seq ?_
  refine hl_region ?_
  refine ho_val rfl rfl (ex_move rfl) ?_
  refine ho_val rfl rfl (ex_len_slice rfl Tryd.underlying22) ?_
  refine ho_val rfl rfl (ex_quoN (q := 2) rfl rfl (by omega) (by omega)) ?_
  refine ho_val rfl rfl (ex_assign rfl) ?_
  refine ho_nil ?_
  refine hk_then_code ?_
  refine hl_seq ?_
  have HL37 : (([] : List UInt8) ++ x).length + (y.take (y.length / 2)).length ≤ 1152921504606846976 := by simp only [List.length_append, List.length_nil, List.length_take]; omega
  have HL40 : (([] : List UInt8) ++ x).length + z.length ≤ 1152921504606846976 := by simp only [List.length_append, List.length_nil]; omega
  have HL45 : ((([] : List UInt8) ++ x) ++ (y.take (y.length / 2))).length + (y.drop (y.length / 2)).length ≤ 1152921504606846976 := by simp only [List.length_append, List.length_nil, List.length_take, List.length_drop]; omega
  refine hl_region ?_
  refine ho_val rfl rfl (ex_move rfl) ?_
  refine ho_val rfl rfl (ex_move rfl) ?_
  refine ho_val rfl rfl (ex_move rfl) ?_
  refine ho_val rfl rfl (ex_slice_hi rfl rfl Tryd.underlying22 _ size5 (by omega)) ?_
  refine ho_pick _ (by decide) (.cons 3 rfl (.cons 0 rfl (.cons 1 rfl (.cons 2 rfl .nil)))) ?_
  refine ho_do rfl rfl (exw_call Tryd.func21 rfl (by kernel_rfl) rfl (val := fun _ : List UInt32 × List UInt8 => .int .i64 0) (hs' := fun st => ⟨some h12, hblk st.1 st.2 ((([] : List UInt8) ++ x) ++ (y.take (y.length / 2))).length, 67, (0, 0)⟩ :: _) (pre := fun st => HSt ((([] : List UInt8) ++ x) ++ (y.take (y.length / 2))) st.1 st.2) (fun w' hw' => (write_any (([] : List UInt8) ++ x) (y.take (y.length / 2)) x15.1 x15.2 _ (by rw [List.length_take]; omega) hx15 h12 67 q c2 (fun h => by have := hqe h; rw [List.length_take]; omega) (fun h => (hqe h).2) (by rw [List.length_take]; omega) HL37 w' (hw'.own _ List.mem_cons_self h12 rfl) (Sk.older (take_sl _ hT) hw' (by intro a ha; rw [List.mem_singleton.1 ha]; exact ge12)) (hK.old0 hw') (by omega)).mono fun e w2 ⟨S', R', h1, h2, h3⟩ => ⟨(S', R'), h1, h2, hw'.comp (A := [_]) (fun g hg => ⟨_, List.mem_cons_self, by rw [List.mem_singleton.1 hg]⟩) h3⟩)) (fun x37 hx37 => ?_)
  refine ho_nil ?_
  refine hk_then_code ?_
  refine hl_seq ?_
  refine hl_region ?_
  refine ho_val rfl rfl (ex_move rfl) ?_
  refine ho_val rfl rfl (ex_move rfl) ?_
  refine ho_pick _ (by decide) (.cons 3 rfl (.cons 0 rfl (.cons 1 rfl (.cons 2 rfl .nil)))) ?_
  refine ho_do rfl rfl (exw_call Tryd.func21 rfl (by kernel_rfl) rfl (val := fun _ : List UInt32 × List UInt8 => .int .i64 0) (hs' := fun st => ⟨some g17, hblk st.1 st.2 ((([] : List UInt8) ++ x) ++ z).length, 67, (0, 0)⟩ :: _) (pre := fun st => HSt ((([] : List UInt8) ++ x) ++ z) st.1 st.2) (fun w' hw' => (write_any (([] : List UInt8) ++ x) z x15.1 x15.2 _ rfl hx15 g17 67 r c3 (fun h => (hre h).1) (fun h => (hre h).2) hrc HL40 w' (hw'.own _ List.mem_cons_self g17 rfl) (Sk.older hU hw' (by intro a ha; rw [List.mem_singleton.1 ha]; exact ge17)) (hK.old0 hw') (by omega)).mono fun e w2 ⟨S', R', h1, h2, h3⟩ => ⟨(S', R'), h1, h2, hw'.comp (A := [_]) (fun g hg => ⟨_, List.mem_cons_self, by rw [List.mem_singleton.1 hg]⟩) h3⟩)) (fun x40 hx40 => ?_)
  refine ho_nil ?_
  refine hk_then_code ?_
  refine hl_seq ?_
  refine hl_region ?_
  refine ho_val rfl rfl (ex_move rfl) ?_
  refine ho_val rfl rfl (ex_move rfl) ?_
  refine ho_val rfl rfl (ex_move rfl) ?_
  refine ho_val rfl rfl (ex_slice_lo rfl rfl Tryd.underlying22 _ size5 (by omega) hqc) ?_
  refine ho_pick _ (by decide) (.cons 1 rfl (.cons 0 rfl (.cons 2 rfl (.cons 3 rfl .nil)))) ?_
  refine ho_do rfl rfl (exw_call Tryd.func21 rfl (by kernel_rfl) rfl (val := fun _ : List UInt32 × List UInt8 => .int .i64 0) (hs' := fun st => ⟨some h12, hblk st.1 st.2 (((([] : List UInt8) ++ x) ++ (y.take (y.length / 2))) ++ (y.drop (y.length / 2))).length, 67, (0, 0)⟩ :: _) (pre := fun st => HSt (((([] : List UInt8) ++ x) ++ (y.take (y.length / 2))) ++ (y.drop (y.length / 2))) st.1 st.2) (fun w' hw' => (write_any ((([] : List UInt8) ++ x) ++ (y.take (y.length / 2))) (y.drop (y.length / 2)) x37.1 x37.2 _ (by rw [List.length_drop]) hx37 h12 67 (cut q c2 (y.length / 2) 1) (c2 - (y.length / 2)) (fun h => by have := hqe (cut_none h); rw [List.length_drop]; omega) (fun h => by have := hqe (cut_none h); omega) (by rw [List.length_drop]; omega) HL45 w' (hw'.own _ List.mem_cons_self h12 rfl) (Sk.older (show Sl w _ ((y.drop (y.length / 2)).map vb) by have h := drop_sl (l := y) (i := 0) (y.length / 2) hT hqc; rw [Nat.zero_add] at h; exact h) hw' (by intro a ha; rw [List.mem_singleton.1 ha]; exact ge12)) (hK.old0 hw') (by omega)).mono fun e w2 ⟨S', R', h1, h2, h3⟩ => ⟨(S', R'), h1, h2, hw'.comp (A := [_]) (fun g hg => ⟨_, List.mem_cons_self, by rw [List.mem_singleton.1 hg]⟩) h3⟩)) (fun x45 hx45 => ?_)
  refine ho_nil ?_
  refine hk_then_code ?_
  refine hl_seq ?_
  refine hl_seq ?_
  refine hl_region ?_
  refine ho_val rfl rfl (ex_move rfl) ?_
  refine ho_do rfl rfl (exw_call_pure Tryd.func23 rfl (by kernel_rfl) rfl (fun w' hw' => sum_any (((([] : List UInt8) ++ x) ++ (y.take (y.length / 2))) ++ (y.drop (y.length / 2))) x45.1 x45.2 hx45 h12 67 (by simp only [List.length_append, List.length_nil, List.length_take, List.length_drop]; omega) w' (hw'.own _ (List.mem_of_getElem? (i := 0) rfl) h12 rfl) (hK.old0 hw'))) (fun _ _ => ?_)
  refine ho_val rfl rfl (ex_move rfl) ?_
  refine ho_do rfl rfl (exw_call_pure Tryd.func13 rfl (by kernel_rfl) rfl (fun w' hw' => of_any (x ++ y) _ (by rw [List.length_append]; omega) (rowp y24.1) y24.2.1 (fun h => by have := hk24.empty' h; rw [List.length_append]; omega) (fun h => (hk24.empty' h).2) (by have := hk24.le; rw [List.length_append]; omega) (by rw [List.length_append]; omega) w' (show Sl w' _ ((x ++ y).map vb) by have h := Sl.ownRow hw' 3 rfl (fun h => RowOk.empty hk24 h); rw [List.map_append]; exact h) (hH.old0 hw') (hK.old0 hw'))) (fun _ _ => ?_)
  refine ho_val rfl rfl (ex_neq_arr (b := false) rfl rfl Tryd.underlying25 Tryd.underlying5 size5 (by kernel_rfl) (sha_length _ _ _) (sha_length _ _ _) (neq_false_of_eq (congrArg (sha tK tH) (by rw [List.append_assoc, List.take_append_drop]; rfl)))) ?_
  refine ho_val rfl rfl (ex_move rfl) ?_
  refine ho_want rfl rfl rfl rfl rfl (ex_move rfl) ?_
  refine ho_do_want rfl rfl rfl rfl rfl (exw_call_pure Tryd.func23 rfl (by kernel_rfl) rfl (fun w' hw' => sum_any ((([] : List UInt8) ++ x) ++ z) x40.1 x40.2 hx40 g17 67 (by simp only [List.length_append, List.length_nil, List.length_take, List.length_drop]; omega) w' (hw'.own _ (List.mem_of_getElem? (i := 1) rfl) g17 rfl) (hK.old0 hw'))) (fun _ _ => ?_)
  refine ho_want rfl rfl rfl rfl rfl (ex_move rfl) ?_
  refine ho_do_want rfl rfl rfl rfl rfl (exw_call_pure Tryd.func13 rfl (by kernel_rfl) rfl (fun w' hw' => of_any (x ++ z) _ (by rw [List.length_append]; omega) (rowp y29.1) y29.2.1 (fun h => by have := hk29.empty' h; rw [List.length_append]; omega) (fun h => (hk29.empty' h).2) (by have := hk29.le; rw [List.length_append]; omega) (by rw [List.length_append]; omega) w' (show Sl w' _ ((x ++ z).map vb) by have h := Sl.ownRow hw' 2 rfl (fun h => RowOk.empty hk29 h); rw [List.map_append]; exact h) (hH.old0 hw') (hK.old0 hw'))) (fun _ _ => ?_)
  refine ho_want rfl rfl rfl rfl rfl (ex_neq_arr (b := false) rfl rfl Tryd.underlying25 Tryd.underlying5 size5 (by kernel_rfl) (sha_length _ _ _) (sha_length _ _ _) (neq_false_of_eq rfl)) ?_
  refine ho_val rfl rfl (ex_pick_false rfl rfl) ?_
  refine ho_nil ?_
  refine hk_then_code ?_
  refine hl_false rfl ?_
  refine hl_skip ?_
  refine hk_then_code ?_
  refine hl_seq ?_
  refine hl_region ?_
  refine ho_val rfl rfl (ex_move rfl) ?_
  refine ho_pick _ (by decide) (.cons 1 rfl (.cons 0 rfl (.cons 2 rfl (.cons 3 rfl .nil)))) ?_
  refine ho_do rfl rfl (exw_call Tryd.func29 rfl (by kernel_rfl) rfl (val := fun _ : Unit => .tuple #[]) (hs' := fun _ => ⟨some g17, hblk tH (List.replicate 64 0) 0, 67, (0, 0)⟩ :: _) (pre := fun _ => True) (fun w' hw' => (reset_any ((([] : List UInt8) ++ x) ++ z) x40.1 x40.2 hx40 g17 w' (hw'.own _ List.mem_cons_self g17 rfl) (hH.old0 hw') (by omega)).mono fun e w2 ⟨h1, h2⟩ => ⟨(), trivial, h1, hw'.comp (A := [_]) (fun g hg => ⟨_, List.mem_cons_self, by rw [List.mem_singleton.1 hg]⟩) h2⟩)) (fun _ _ => ?_)
  refine ho_nil ?_
  refine hk_then_code ?_
  refine hl_seq ?_
  refine hl_region ?_
  refine ho_val rfl rfl (ex_move rfl) ?_
  refine ho_do rfl rfl (exw_call_pure Tryd.func23 rfl (by kernel_rfl) rfl (fun w' hw' => sum_any (((([] : List UInt8) ++ x) ++ (y.take (y.length / 2))) ++ (y.drop (y.length / 2))) x45.1 x45.2 hx45 h12 67 (by simp only [List.length_append, List.length_nil, List.length_take, List.length_drop]; omega) w' (hw'.own _ (List.mem_of_getElem? (i := 1) rfl) h12 rfl) (hK.old0 hw'))) (fun _ _ => ?_)
  refine ho_val rfl rfl (ex_move rfl) ?_
  refine ho_do rfl rfl (exw_call_pure Tryd.func13 rfl (by kernel_rfl) rfl (fun w' hw' => of_any (x ++ y) _ (by rw [List.length_append]; omega) (rowp y24.1) y24.2.1 (fun h => by have := hk24.empty' h; rw [List.length_append]; omega) (fun h => (hk24.empty' h).2) (by have := hk24.le; rw [List.length_append]; omega) (by rw [List.length_append]; omega) w' (show Sl w' _ ((x ++ y).map vb) by have h := Sl.ownRow hw' 3 rfl (fun h => RowOk.empty hk24 h); rw [List.map_append]; exact h) (hH.old0 hw') (hK.old0 hw'))) (fun _ _ => ?_)
  refine ho_val rfl rfl (ex_eql_arr (b := true) rfl rfl Tryd.underlying25 Tryd.underlying5 size5 (by kernel_rfl) (sha_length _ _ _) (sha_length _ _ _) (eql_true_of_eq (congrArg (sha tK tH) (by rw [List.append_assoc, List.take_append_drop]; rfl)))) ?_
  refine ho_val rfl rfl (ex_move rfl) ?_
  refine ho_want rfl rfl rfl rfl rfl (ex_move rfl) ?_
  refine ho_do_want rfl rfl rfl rfl rfl (exw_call_pure Tryd.func23 rfl (by kernel_rfl) rfl (fun w' hw' => sum_any ([] : List UInt8) tH (List.replicate 64 0) HSt.start g17 67 (by decide) w' (hw'.own _ (List.mem_of_getElem? (i := 0) rfl) g17 rfl) (hK.old0 hw'))) (fun _ _ => ?_)
  refine ho_do_want rfl rfl rfl rfl rfl (exw_call_pure Tryd.func13 rfl (by kernel_rfl) rfl (fun w' hw' => of_any [] 0 rfl none 0 (fun _ => rfl) (fun _ => rfl) (Nat.le_refl _) (by decide) w' (Sl.nil _ _) (hH.old0 hw') (hK.old0 hw'))) (fun _ _ => ?_)
  refine ho_want rfl rfl rfl rfl rfl (ex_eql_arr (b := true) rfl rfl Tryd.underlying25 Tryd.underlying5 size5 (by kernel_rfl) (sha_length _ _ _) (sha_length _ _ _) (eql_true_of_eq rfl)) ?_
  refine ho_val rfl rfl (ex_pick_true rfl rfl) ?_
  refine ho_val rfl rfl (ex_move rfl) ?_
  refine ho_want rfl rfl rfl rfl rfl (ex_move rfl) ?_
  refine ho_do_want rfl rfl rfl rfl rfl (exw_call_pure Tryd.func25 rfl (by kernel_rfl) rfl (fun w' hw' => len_any (((([] : List UInt8) ++ x) ++ (y.take (y.length / 2))) ++ (y.drop (y.length / 2))) x45.1 x45.2 hx45 h12 67 w' (hw'.own _ (List.mem_of_getElem? (i := 1) rfl) h12 rfl))) (fun _ _ => ?_)
  refine ho_want rfl rfl rfl rfl rfl (ex_move rfl) ?_
  refine ho_want rfl rfl rfl rfl rfl (ex_len_slice rfl Tryd.underlying22) ?_
  refine ho_want rfl rfl rfl rfl rfl (ex_eql rfl rfl (decide_eq_true (by simp only [List.length_append, List.length_nil, List.length_take, List.length_drop]; omega))) ?_
  refine ho_val rfl rfl (ex_pick_true rfl rfl) ?_
  refine ho_val rfl rfl (ex_assign rfl) ?_
  refine ho_nil ?_
  refine hk_then_code ?_
  refine hl_ret ?_
  exact hk_ret rfl rfl (fun w' hw' => ⟨rfl, hw'.below⟩)

end Go.Proofs.YtdmagjelmhcemaaDoor
