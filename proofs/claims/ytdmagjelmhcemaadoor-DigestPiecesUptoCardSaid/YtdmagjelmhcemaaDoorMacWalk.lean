/- What the digest's Mac answers. -/
import Derived.Test.YtdmagjelmhcemaaDoorRows
import Derived.Test.YtdmagjelmhcemaaDoorFacts
import Derived.Test.YtdmagjelmhcemaaDoorSha
import Derived.Test.YtdmagjelmhcemaaDoorTextLaw2
import Derived.Test.YtdmagjelmhcemaaDoorSha2
import Derived.Test.YtdmagjelmhcemaaDoorMac
import Derived.Test.YtdmagjelmhcemaaDoorG
import Derived.Test.YtdmagjelmhcemaaDoorHashRest
import Derived.Test.YtdmagjelmhcemaaDoorHashSum
import Derived.KernelRfl
namespace Go.Proofs.YtdmagjelmhcemaaDoor
open Go.RowKit
set_option linter.unusedVariables false
set_option linter.unusedSimpArgs false

set_option maxHeartbeats 800000 in
theorem mac_any (k d : List UInt8) (n n2 : Nat) (hn : k.length = n) (hm : d.length = n2) (p : Option Addr) (c : Nat) (hp : p = none → k.length = 0) (hc : p = none → c = 0) (hcap : k.length ≤ c) (q : Option Addr) (c2 : Nat) (hq : q = none → d.length = 0) (hqc : q = none → c2 = 0) (hqcap : d.length ≤ c2) (hk : k.length ≤ 1152921504606846976) (hd : d.length ≤ 1152921504606000000) (w : World) (hS : Sl w p (k.map vb)) (hS2 : Sl w q (d.map vb)) (hH : Sl w (some ⟨2, 0, none⟩) (tH.map vw)) (hK : Sl w (some ⟨3, 0, none⟩) (tK.map vw)) :
    Calls Tryd.prog 32 #[slv p n c, slv q n2 c2] w fun e w' => e = .returned (.agg (vbs (hmac k d))) ∧ Below w.heap.size w w' := by
  subst hn
  subst hm
  have h3 : 3 < w.heap.size := World.block_lt_of_cell? w _ (hK.cell0 (tK_get 0 (by decide)))
  refine calls_enter (n := 39) (hs := []) (M := []) (vs := [slv p k.length c, slv q d.length c2]) Tryd.func32 rfl rfl rfl (Hp.start w) ?_
  refine hl_seq ?_
  refine hl_region ?_
  refine ho_do rfl rfl (exw_alloc_cs (z := .agg (vbs (List.replicate 32 0))) (vbs (List.replicate 32 0)) (by kernel_rfl) rfl) (fun b4 hb4 => ?_)
  refine ho_nil ?_
  refine hk_then_code ?_
  refine hl_seq ?_
  refine hl_region ?_
  refine ho_do rfl rfl (exw_alloc_cs (z := .agg (vbs (List.replicate 64 0))) (vbs (List.replicate 64 0)) (by kernel_rfl) rfl) (fun b5 hb5 => ?_)
  refine ho_nil ?_
  refine hk_then_code ?_
  refine hl_seq ?_
  refine hl_seq ?_
  refine hl_region ?_
  refine ho_val rfl rfl (ex_move rfl) ?_
  refine ho_val rfl rfl (ex_len_slice rfl Tryd.underlying22) ?_
  refine ho_val rfl rfl (ex_gtr rfl rfl rfl) ?_
  refine ho_nil ?_
  refine hk_then_code ?_
  refine hl_if rfl (fun hc0 => ?_) (fun hc0 => ?_)
  · try simp only [decide_eq_true_eq, decide_eq_false_iff_not, beq_iff_eq, beq_eq_false_iff_ne, bne_iff_ne, bne_eq_false_iff_eq, ne_eq, Int.not_lt, Int.not_le, gt_iff_lt, ge_iff_le] at hc0
    refine hl_seq ?_
    refine hl_region ?_
    refine ho_val rfl rfl (ex_move rfl) ?_
    refine ho_do rfl rfl (exw_call_pure Tryd.func13 rfl (by kernel_rfl) rfl (fun w' hw' => of_any k _ rfl p c hp hc hcap hk w' (hS.old0 hw') (hH.old0 hw') (hK.old0 hw'))) (fun _ _ => ?_)
    refine ho_do rfl rfl (exw_alloc_cs (z := .agg (vbs (List.replicate 32 0))) (vbs (List.replicate 32 0)) (by kernel_rfl) rfl) (fun b6 hb6 => ?_)
    refine ho_do rfl rfl (exw_store_row0 rfl rfl (by rw [size25, vbs_size, sha_length]) (by rw [vbs_size, vbs_size, sha_length]; rfl) (vbs_one _)) (fun _ _ => ?_)
    refine ho_nil ?_
    refine hk_then_code ?_
    refine hl_held _ (by kernel_rfl) (by decide) (.cons 0 rfl (.cons 2 rfl .nil)) ?_
    refine ha_take 0 rfl (by kernel_rfl) (by kernel_rfl) (by kernel_rfl) (fun _ _ _ h => h) rfl rfl (ex_slice_arr rfl Tryd.underlying53 _ size5) ?_
    refine ha_take 1 rfl (by kernel_rfl) (by kernel_rfl) (by kernel_rfl) (fun _ _ _ h => h) rfl rfl (ex_slice_arr rfl Tryd.underlying25 _ size5) ?_
    refine ha_pick _ (by decide) (.cons 1 rfl (.cons 0 rfl (.cons 2 rfl .nil))) ?_
    refine ha_do 2 rfl (by kernel_rfl) (fun a _ => wanted_none rfl a) rfl (exw_copy0 (g := b5) (o := 0) (m := 64) (c := 64) rfl rfl (fun w' hw' => Sl.ownBs hw' 1 rfl) (by rw [List.length_map, sha_length]; rfl) (map_vb_one _) Tryd.underlying22 size5 (by rw [vbs_size, List.length_map, sha_length, List.length_replicate]; decide) (fun h => nomatch h) (nk := 32) (by rw [List.length_map, sha_length]) (copy_long (by omega))) (by decide) (fun _ _ => (.cons 1 rfl (.cons 2 rfl .nil))) (fun _ _ => ?_)
    refine ha_done (by kernel_rfl) ?_
    refine hk_then_code ?_
    refine hl_seq ?_
    refine hl_region ?_
    refine ho_do rfl rfl (exw_call Tryd.func19 rfl (by kernel_rfl) rfl (val := fun st : Nat => .pointer (some ⟨st, 0, none⟩)) (hs' := fun st => ⟨some st, hblk tH (List.replicate 64 0) 0, 67, (0, 0)⟩ :: _) (pre := fun st => w.heap.size ≤ st) (fun w' hw' => (new_any w' (hH.old0 hw')).mono fun e w2 ⟨g, h1, h2⟩ => ⟨g, Nat.le_trans hw'.size h2.fresh, h1, hw'.comp (A := []) (by simp) h2⟩)) (fun h21 ge21 => ?_)
    refine ho_do rfl rfl (exw_call Tryd.func19 rfl (by kernel_rfl) rfl (val := fun st : Nat => .pointer (some ⟨st, 0, none⟩)) (hs' := fun st => ⟨some st, hblk tH (List.replicate 64 0) 0, 67, (0, 0)⟩ :: _) (pre := fun st => w.heap.size ≤ st) (fun w' hw' => (new_any w' (hH.old0 hw')).mono fun e w2 ⟨g, h1, h2⟩ => ⟨g, Nat.le_trans hw'.size h2.fresh, h1, hw'.comp (A := []) (by simp) h2⟩)) (fun h22 ge22 => ?_)
    refine ho_val rfl rfl (ex_assign rfl) ?_
    refine ho_val rfl rfl (ex_assign rfl) ?_
    refine ho_nil ?_
    refine hk_then_code ?_
    refine hl_seq ?_
    refine hl_region ?_
    refine ho_val rfl rfl (ex_move rfl) ?_
    refine ho_val rfl rfl (ex_load_row rfl 2 rfl rfl Tryd.underlying53 rfl (by rw [size53, vbs_size, kpad_length])) ?_
    refine ho_pick _ (by decide) (.cons 1 rfl (.cons 0 rfl (.cons 2 rfl (.cons 3 rfl (.cons 4 rfl .nil))))) ?_
    refine ho_do rfl rfl (exw_call Tryd.func41 rfl (by kernel_rfl) rfl (val := fun _ : List UInt32 × List UInt8 => .tuple #[]) (hs' := fun st => ⟨some h21, hblk st.1 st.2 (([] : List UInt8) ++ keyed k 54).length, 67, (0, 0)⟩ :: _) (pre := fun st => HSt (([] : List UInt8) ++ keyed k 54) st.1 st.2) (fun w' hw' => (dturned_any ([] : List UInt8) tH (List.replicate 64 0) HSt.start h21 67 (kpad k) (kpad_length k) 54 (by decide) w' (hw'.own _ List.mem_cons_self h21 rfl) (hK.old0 hw') (by omega)).mono fun e w2 ⟨S', R', h1, h2, h3⟩ => ⟨(S', R'), h1, h2, hw'.comp (A := [_]) (fun g hg => ⟨_, List.mem_cons_self, by rw [List.mem_singleton.1 hg]⟩) h3⟩)) (fun x25 hx25 => ?_)
    refine ho_nil ?_
    refine hk_then_code ?_
    refine hl_seq ?_
    have HL28 : (([] : List UInt8) ++ keyed k 54).length + d.length ≤ 1152921504606846976 := by rw [List.length_append, List.length_nil, keyed_length]; omega
    refine hl_region ?_
    refine ho_val rfl rfl (ex_move rfl) ?_
    refine ho_val rfl rfl (ex_move rfl) ?_
    refine ho_do rfl rfl (exw_call Tryd.func21 rfl (by kernel_rfl) rfl (val := fun _ : List UInt32 × List UInt8 => .int .i64 0) (hs' := fun st => ⟨some h21, hblk st.1 st.2 ((([] : List UInt8) ++ keyed k 54) ++ d).length, 67, (0, 0)⟩ :: _) (pre := fun st => HSt ((([] : List UInt8) ++ keyed k 54) ++ d) st.1 st.2) (fun w' hw' => (write_any (([] : List UInt8) ++ keyed k 54) d x25.1 x25.2 _ rfl hx25 h21 67 q c2 hq hqc hqcap HL28 w' (hw'.own _ List.mem_cons_self h21 rfl) (Sk.older hS2 hw' (by intro a ha; rw [List.mem_singleton.1 ha]; exact ge21)) (hK.old0 hw') (by omega)).mono fun e w2 ⟨S', R', h1, h2, h3⟩ => ⟨(S', R'), h1, h2, hw'.comp (A := [_]) (fun g hg => ⟨_, List.mem_cons_self, by rw [List.mem_singleton.1 hg]⟩) h3⟩)) (fun x28 hx28 => ?_)
    refine ho_nil ?_
    refine hk_then_code ?_
    refine hl_seq ?_
    refine hl_region ?_
    refine ho_val rfl rfl (ex_move rfl) ?_
    refine ho_do rfl rfl (exw_call_pure Tryd.func23 rfl (by kernel_rfl) rfl (fun w' hw' => sum_any ((([] : List UInt8) ++ keyed k 54) ++ d) x28.1 x28.2 hx28 h21 67 (by rw [List.length_append]; exact HL28) w' (hw'.own _ (List.mem_of_getElem? (i := 0) rfl) h21 rfl) (hK.old0 hw'))) (fun _ _ => ?_)
    refine ho_do rfl rfl (exw_alloc_cs (z := .agg (vbs (List.replicate 32 0))) (vbs (List.replicate 32 0)) (by kernel_rfl) rfl) (fun b9 hb9 => ?_)
    refine ho_do rfl rfl (exw_store_row0 rfl rfl (by rw [size25, vbs_size, sha_length]) (by rw [vbs_size, vbs_size, sha_length]; rfl) (vbs_one _)) (fun _ _ => ?_)
    refine ho_nil ?_
    refine hk_then_code ?_
    refine hl_seq ?_
    refine hl_region ?_
    refine ho_val rfl rfl (ex_move rfl) ?_
    refine ho_val rfl rfl (ex_load_row rfl 3 rfl rfl Tryd.underlying53 rfl (by rw [size53, vbs_size, kpad_length])) ?_
    refine ho_pick _ (by decide) (.cons 2 rfl (.cons 0 rfl (.cons 1 rfl (.cons 3 rfl (.cons 4 rfl (.cons 5 rfl .nil)))))) ?_
    refine ho_do rfl rfl (exw_call Tryd.func41 rfl (by kernel_rfl) rfl (val := fun _ : List UInt32 × List UInt8 => .tuple #[]) (hs' := fun st => ⟨some h22, hblk st.1 st.2 (([] : List UInt8) ++ keyed k 92).length, 67, (0, 0)⟩ :: _) (pre := fun st => HSt (([] : List UInt8) ++ keyed k 92) st.1 st.2) (fun w' hw' => (dturned_any ([] : List UInt8) tH (List.replicate 64 0) HSt.start h22 67 (kpad k) (kpad_length k) 92 (by decide) w' (hw'.own _ List.mem_cons_self h22 rfl) (hK.old0 hw') (by omega)).mono fun e w2 ⟨S', R', h1, h2, h3⟩ => ⟨(S', R'), h1, h2, hw'.comp (A := [_]) (fun g hg => ⟨_, List.mem_cons_self, by rw [List.mem_singleton.1 hg]⟩) h3⟩)) (fun x33 hx33 => ?_)
    refine ho_nil ?_
    refine hk_then_code ?_
    refine hl_seq ?_
    have HL36 : (([] : List UInt8) ++ keyed k 92).length + (sha tK tH ((([] : List UInt8) ++ keyed k 54) ++ d)).length ≤ 1152921504606846976 := by rw [List.length_append, List.length_nil, keyed_length, sha_length]; decide
    refine hl_region ?_
    refine ho_val rfl rfl (ex_move rfl) ?_
    refine ho_val rfl rfl (ex_slice_arr rfl Tryd.underlying25 _ size5) ?_
    refine ho_do rfl rfl (exw_call Tryd.func21 rfl (by kernel_rfl) rfl (val := fun _ : List UInt32 × List UInt8 => .int .i64 0) (hs' := fun st => ⟨some h22, hblk st.1 st.2 ((([] : List UInt8) ++ keyed k 92) ++ (sha tK tH ((([] : List UInt8) ++ keyed k 54) ++ d))).length, 67, (0, 0)⟩ :: _) (pre := fun st => HSt ((([] : List UInt8) ++ keyed k 92) ++ (sha tK tH ((([] : List UInt8) ++ keyed k 54) ++ d))) st.1 st.2) (fun w' hw' => (write_any (([] : List UInt8) ++ keyed k 92) (sha tK tH ((([] : List UInt8) ++ keyed k 54) ++ d)) x33.1 x33.2 _ (sha_length _ _ _) hx33 h22 67 (some ⟨b9, 0, none⟩) 32 (fun h => nomatch h) (fun h => nomatch h) (by rw [sha_length]; exact Nat.le_refl _) HL36 w' (hw'.own _ List.mem_cons_self h22 rfl) (Sk.own hw' 1 0 (by decide) rfl rfl rfl rfl vbs_get') (hK.old0 hw') (by omega)).mono fun e w2 ⟨S', R', h1, h2, h3⟩ => ⟨(S', R'), h1, h2, hw'.comp (A := [_]) (fun g hg => ⟨_, List.mem_cons_self, by rw [List.mem_singleton.1 hg]⟩) h3⟩)) (fun x36 hx36 => ?_)
    refine ho_nil ?_
    refine hk_then_code ?_
    refine hl_seq ?_
    refine hl_region ?_
    refine ho_val rfl rfl (ex_move rfl) ?_
    refine ho_do rfl rfl (exw_call_pure Tryd.func23 rfl (by kernel_rfl) rfl (fun w' hw' => sum_any ((([] : List UInt8) ++ keyed k 92) ++ (sha tK tH ((([] : List UInt8) ++ keyed k 54) ++ d))) x36.1 x36.2 hx36 h22 67 (by rw [List.length_append]; exact HL36) w' (hw'.own _ (List.mem_of_getElem? (i := 0) rfl) h22 rfl) (hK.old0 hw'))) (fun _ _ => ?_)
    refine ho_do rfl rfl (exw_store_row5 rfl rfl (by rw [size25, vbs_size, sha_length]) (by rw [vbs_size, vbs_size, sha_length]; rfl) (vbs_one _)) (fun _ _ => ?_)
    refine ho_nil ?_
    refine hk_then_code ?_
    refine hl_ret ?_
    exact hk_ret_row rfl rfl 5 rfl rfl Tryd.underlying25 rfl (by rw [size25, vbs_size, sha_length]) (fun w' hw' => ⟨rfl, hw'.below⟩)
  · try simp only [decide_eq_true_eq, decide_eq_false_iff_not, beq_iff_eq, beq_eq_false_iff_ne, bne_iff_ne, bne_eq_false_iff_eq, ne_eq, Int.not_lt, Int.not_le, gt_iff_lt, ge_iff_le] at hc0
    refine hl_region ?_
    refine ho_val rfl rfl (ex_slice_arr rfl Tryd.underlying53 _ size5) ?_
    refine ho_val rfl rfl (ex_move rfl) ?_
    refine ho_do rfl rfl (exw_copy0 (g := b5) (o := 0) (m := 64) (c := 64) rfl rfl (fun w' hw' => hS.old0 hw') (by rw [List.length_map]; exact (Nat.min_eq_left (by omega)).symm) (map_vb_one _) Tryd.underlying22 size5 (by rw [vbs_size, List.length_map, List.length_replicate]; omega) (fun h => ⟨hp h, hc h⟩) (nk := k.length) (by rw [List.length_map]) (copy_short (by omega))) (fun _ _ => ?_)
    refine ho_nil ?_
    refine hk_then_code ?_
    refine hl_seq ?_
    refine hl_region ?_
    refine ho_do rfl rfl (exw_call Tryd.func19 rfl (by kernel_rfl) rfl (val := fun st : Nat => .pointer (some ⟨st, 0, none⟩)) (hs' := fun st => ⟨some st, hblk tH (List.replicate 64 0) 0, 67, (0, 0)⟩ :: _) (pre := fun st => w.heap.size ≤ st) (fun w' hw' => (new_any w' (hH.old0 hw')).mono fun e w2 ⟨g, h1, h2⟩ => ⟨g, Nat.le_trans hw'.size h2.fresh, h1, hw'.comp (A := []) (by simp) h2⟩)) (fun h21 ge21 => ?_)
    refine ho_do rfl rfl (exw_call Tryd.func19 rfl (by kernel_rfl) rfl (val := fun st : Nat => .pointer (some ⟨st, 0, none⟩)) (hs' := fun st => ⟨some st, hblk tH (List.replicate 64 0) 0, 67, (0, 0)⟩ :: _) (pre := fun st => w.heap.size ≤ st) (fun w' hw' => (new_any w' (hH.old0 hw')).mono fun e w2 ⟨g, h1, h2⟩ => ⟨g, Nat.le_trans hw'.size h2.fresh, h1, hw'.comp (A := []) (by simp) h2⟩)) (fun h22 ge22 => ?_)
    refine ho_val rfl rfl (ex_assign rfl) ?_
    refine ho_val rfl rfl (ex_assign rfl) ?_
    refine ho_nil ?_
    refine hk_then_code ?_
    refine hl_seq ?_
    refine hl_region ?_
    refine ho_val rfl rfl (ex_move rfl) ?_
    refine ho_val rfl rfl (ex_load_row rfl 2 rfl rfl Tryd.underlying53 rfl (by rw [size53, vbs_size, kpad_length])) ?_
    refine ho_pick _ (by decide) (.cons 1 rfl (.cons 0 rfl (.cons 2 rfl (.cons 3 rfl .nil)))) ?_
    refine ho_do rfl rfl (exw_call Tryd.func41 rfl (by kernel_rfl) rfl (val := fun _ : List UInt32 × List UInt8 => .tuple #[]) (hs' := fun st => ⟨some h21, hblk st.1 st.2 (([] : List UInt8) ++ keyed k 54).length, 67, (0, 0)⟩ :: _) (pre := fun st => HSt (([] : List UInt8) ++ keyed k 54) st.1 st.2) (fun w' hw' => (dturned_any ([] : List UInt8) tH (List.replicate 64 0) HSt.start h21 67 (kpad k) (kpad_length k) 54 (by decide) w' (hw'.own _ List.mem_cons_self h21 rfl) (hK.old0 hw') (by omega)).mono fun e w2 ⟨S', R', h1, h2, h3⟩ => ⟨(S', R'), h1, h2, hw'.comp (A := [_]) (fun g hg => ⟨_, List.mem_cons_self, by rw [List.mem_singleton.1 hg]⟩) h3⟩)) (fun x25 hx25 => ?_)
    refine ho_nil ?_
    refine hk_then_code ?_
    refine hl_seq ?_
    have HL28 : (([] : List UInt8) ++ keyed k 54).length + d.length ≤ 1152921504606846976 := by rw [List.length_append, List.length_nil, keyed_length]; omega
    refine hl_region ?_
    refine ho_val rfl rfl (ex_move rfl) ?_
    refine ho_val rfl rfl (ex_move rfl) ?_
    refine ho_do rfl rfl (exw_call Tryd.func21 rfl (by kernel_rfl) rfl (val := fun _ : List UInt32 × List UInt8 => .int .i64 0) (hs' := fun st => ⟨some h21, hblk st.1 st.2 ((([] : List UInt8) ++ keyed k 54) ++ d).length, 67, (0, 0)⟩ :: _) (pre := fun st => HSt ((([] : List UInt8) ++ keyed k 54) ++ d) st.1 st.2) (fun w' hw' => (write_any (([] : List UInt8) ++ keyed k 54) d x25.1 x25.2 _ rfl hx25 h21 67 q c2 hq hqc hqcap HL28 w' (hw'.own _ List.mem_cons_self h21 rfl) (Sk.older hS2 hw' (by intro a ha; rw [List.mem_singleton.1 ha]; exact ge21)) (hK.old0 hw') (by omega)).mono fun e w2 ⟨S', R', h1, h2, h3⟩ => ⟨(S', R'), h1, h2, hw'.comp (A := [_]) (fun g hg => ⟨_, List.mem_cons_self, by rw [List.mem_singleton.1 hg]⟩) h3⟩)) (fun x28 hx28 => ?_)
    refine ho_nil ?_
    refine hk_then_code ?_
    refine hl_seq ?_
    refine hl_region ?_
    refine ho_val rfl rfl (ex_move rfl) ?_
    refine ho_do rfl rfl (exw_call_pure Tryd.func23 rfl (by kernel_rfl) rfl (fun w' hw' => sum_any ((([] : List UInt8) ++ keyed k 54) ++ d) x28.1 x28.2 hx28 h21 67 (by rw [List.length_append]; exact HL28) w' (hw'.own _ (List.mem_of_getElem? (i := 0) rfl) h21 rfl) (hK.old0 hw'))) (fun _ _ => ?_)
    refine ho_do rfl rfl (exw_alloc_cs (z := .agg (vbs (List.replicate 32 0))) (vbs (List.replicate 32 0)) (by kernel_rfl) rfl) (fun b9 hb9 => ?_)
    refine ho_do rfl rfl (exw_store_row0 rfl rfl (by rw [size25, vbs_size, sha_length]) (by rw [vbs_size, vbs_size, sha_length]; rfl) (vbs_one _)) (fun _ _ => ?_)
    refine ho_nil ?_
    refine hk_then_code ?_
    refine hl_seq ?_
    refine hl_region ?_
    refine ho_val rfl rfl (ex_move rfl) ?_
    refine ho_val rfl rfl (ex_load_row rfl 3 rfl rfl Tryd.underlying53 rfl (by rw [size53, vbs_size, kpad_length])) ?_
    refine ho_pick _ (by decide) (.cons 2 rfl (.cons 0 rfl (.cons 1 rfl (.cons 3 rfl (.cons 4 rfl .nil))))) ?_
    refine ho_do rfl rfl (exw_call Tryd.func41 rfl (by kernel_rfl) rfl (val := fun _ : List UInt32 × List UInt8 => .tuple #[]) (hs' := fun st => ⟨some h22, hblk st.1 st.2 (([] : List UInt8) ++ keyed k 92).length, 67, (0, 0)⟩ :: _) (pre := fun st => HSt (([] : List UInt8) ++ keyed k 92) st.1 st.2) (fun w' hw' => (dturned_any ([] : List UInt8) tH (List.replicate 64 0) HSt.start h22 67 (kpad k) (kpad_length k) 92 (by decide) w' (hw'.own _ List.mem_cons_self h22 rfl) (hK.old0 hw') (by omega)).mono fun e w2 ⟨S', R', h1, h2, h3⟩ => ⟨(S', R'), h1, h2, hw'.comp (A := [_]) (fun g hg => ⟨_, List.mem_cons_self, by rw [List.mem_singleton.1 hg]⟩) h3⟩)) (fun x33 hx33 => ?_)
    refine ho_nil ?_
    refine hk_then_code ?_
    refine hl_seq ?_
    have HL36 : (([] : List UInt8) ++ keyed k 92).length + (sha tK tH ((([] : List UInt8) ++ keyed k 54) ++ d)).length ≤ 1152921504606846976 := by rw [List.length_append, List.length_nil, keyed_length, sha_length]; decide
    refine hl_region ?_
    refine ho_val rfl rfl (ex_move rfl) ?_
    refine ho_val rfl rfl (ex_slice_arr rfl Tryd.underlying25 _ size5) ?_
    refine ho_do rfl rfl (exw_call Tryd.func21 rfl (by kernel_rfl) rfl (val := fun _ : List UInt32 × List UInt8 => .int .i64 0) (hs' := fun st => ⟨some h22, hblk st.1 st.2 ((([] : List UInt8) ++ keyed k 92) ++ (sha tK tH ((([] : List UInt8) ++ keyed k 54) ++ d))).length, 67, (0, 0)⟩ :: _) (pre := fun st => HSt ((([] : List UInt8) ++ keyed k 92) ++ (sha tK tH ((([] : List UInt8) ++ keyed k 54) ++ d))) st.1 st.2) (fun w' hw' => (write_any (([] : List UInt8) ++ keyed k 92) (sha tK tH ((([] : List UInt8) ++ keyed k 54) ++ d)) x33.1 x33.2 _ (sha_length _ _ _) hx33 h22 67 (some ⟨b9, 0, none⟩) 32 (fun h => nomatch h) (fun h => nomatch h) (by rw [sha_length]; exact Nat.le_refl _) HL36 w' (hw'.own _ List.mem_cons_self h22 rfl) (Sk.own hw' 1 0 (by decide) rfl rfl rfl rfl vbs_get') (hK.old0 hw') (by omega)).mono fun e w2 ⟨S', R', h1, h2, h3⟩ => ⟨(S', R'), h1, h2, hw'.comp (A := [_]) (fun g hg => ⟨_, List.mem_cons_self, by rw [List.mem_singleton.1 hg]⟩) h3⟩)) (fun x36 hx36 => ?_)
    refine ho_nil ?_
    refine hk_then_code ?_
    refine hl_seq ?_
    refine hl_region ?_
    refine ho_val rfl rfl (ex_move rfl) ?_
    refine ho_do rfl rfl (exw_call_pure Tryd.func23 rfl (by kernel_rfl) rfl (fun w' hw' => sum_any ((([] : List UInt8) ++ keyed k 92) ++ (sha tK tH ((([] : List UInt8) ++ keyed k 54) ++ d))) x36.1 x36.2 hx36 h22 67 (by rw [List.length_append]; exact HL36) w' (hw'.own _ (List.mem_of_getElem? (i := 0) rfl) h22 rfl) (hK.old0 hw'))) (fun _ _ => ?_)
    refine ho_do rfl rfl (exw_store_row4 rfl rfl (by rw [size25, vbs_size, sha_length]) (by rw [vbs_size, vbs_size, sha_length]; rfl) (vbs_one _)) (fun _ _ => ?_)
    refine ho_nil ?_
    refine hk_then_code ?_
    refine hl_ret ?_
    exact hk_ret_row rfl rfl 4 rfl rfl Tryd.underlying25 rfl (by rw [size25, vbs_size, sha_length]) (fun w' hw' => ⟨rfl, hw'.below⟩)

end Go.Proofs.YtdmagjelmhcemaaDoor
