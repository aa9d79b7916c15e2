/- The document's sum of a message. -/
import Derived.Test.YtdmagjelmhcemaaDoorRows
import Derived.Test.YtdmagjelmhcemaaDoorFacts
import Derived.Test.YtdmagjelmhcemaaDoorSha
import Derived.Test.YtdmagjelmhcemaaDoorTextLaw2
import Derived.KernelRfl
import Derived.Test.YtdmagjelmhcemaaDoorMix
import Derived.Test.YtdmagjelmhcemaaDoorSha2
import Derived.Test.YtdmagjelmhcemaaDoorBlock
import Derived.Test.YtdmagjelmhcemaaDoorPad
import Derived.Test.YtdmagjelmhcemaaDoorG
namespace Go.Proofs.YtdmagjelmhcemaaDoor
open Go.RowKit
set_option linter.unusedVariables false
set_option linter.unusedSimpArgs false

set_option maxHeartbeats 400000 in
theorem refof_any (m : List UInt8) (n : Nat) (hn : m.length = n) (p : Option (Nat × Nat)) (c : Nat) (hp : p = none → m.length = 0) (hc : p = none → c = 0) (hl : m.length ≤ 4194304) (w : World) (hS : Sl w p (m.map vb)) (hTK : Sl w (some (1, 0)) (tK.map vw)) (hTH : Sl w (some (0, 0)) (tH.map vw)) :
    Calls Tryd.prog 14 #[slv p n c] w fun e w' => e = .returned (.agg (vbs (sha tK tH m))) ∧ Below w.heap.size w w' := by
  subst hn
  have hL := padm_length m
  have hB : ∀ k, (blocksTo tK tH (padm m) k).length = 8 := fun k => blocksTo_length _ _ _ rfl k
  have hO : ∀ k, (outTo (blocksTo tK tH (padm m) ((padm m).length / 64)) k).length = 32 := fun k => outTo_length _ k
  have hL2 : (padm m).length = 64 * ((padm m).length / 64) := by omega
  have hLb : (padm m).length ≤ 8388608 := by rw [hL]; split <;> omega
  refine calls_enter (n := 47) (hs := []) (M := []) (vs := [slv p m.length c]) Tryd.func14 rfl rfl rfl (Hp.start w) ?_
  refine hl_seq ?_
  refine hl_region ?_
  refine ho_do rfl rfl (exw_alloc_cs (z := .agg (vbs (List.replicate 32 0))) (vbs (List.replicate 32 0)) (by kernel_rfl) rfl) (fun b2 hb2 => ?_)
  refine ho_nil ?_
  refine hk_then_code ?_
  refine hl_seq ?_
  refine hl_region ?_
  refine ho_do rfl rfl (exw_alloc_cs (z := .agg (vbs (List.replicate 32 0))) (vbs (List.replicate 32 0)) (by kernel_rfl) rfl) (fun b3 hb3 => ?_)
  refine ho_nil ?_
  refine hk_then_code ?_
  refine hl_seq ?_
  refine hl_seq ?_
  refine hl_region ?_
  refine ho_val rfl rfl (ex_move rfl) ?_
  refine ho_val rfl rfl (ex_len_slice rfl Tryd.underlying22) ?_
  refine ho_val rfl rfl (ex_gtr rfl rfl rfl) ?_
  refine ho_nil ?_
  refine hk_then_code ?_
  refine hl_if rfl (fun hc0 => ?_) (fun hc0 => ?_)
  · try simp only [decide_eq_true_eq, decide_eq_false_iff_not, beq_iff_eq, beq_eq_false_iff_ne, bne_iff_ne, bne_eq_false_iff_eq, ne_eq, Int.not_lt, Int.not_le, gt_iff_lt, ge_iff_le] at hc0
    exact absurd hc0 (by omega)
  · try simp only [decide_eq_true_eq, decide_eq_false_iff_not, beq_iff_eq, beq_eq_false_iff_ne, bne_iff_ne, bne_eq_false_iff_eq, ne_eq, Int.not_lt, Int.not_le, gt_iff_lt, ge_iff_le] at hc0
    refine hl_skip ?_
    refine hk_then_code ?_
    refine hl_seq ?_
    refine hl_region ?_
    refine ho_val rfl rfl (ex_load_agg (xs := tH.map vw) rfl (fun w' hw' => hTH.old0 hw') Tryd.underlying62 rfl size62) ?_
    refine ho_do rfl rfl (exw_alloc_cs (z := .agg (vws (List.replicate 8 0))) (vws (List.replicate 8 0)) (by kernel_rfl) rfl) (fun b4 hb4 => ?_)
    refine ho_do rfl rfl (exw_store_row0 rfl rfl size62 rfl (vws_one tH)) (fun _ _ => ?_)
    refine ho_nil ?_
    refine hk_then_code ?_
    refine hl_seq ?_
    refine hl_region ?_
    refine ho_val rfl rfl (ex_move rfl) ?_
    refine ho_do rfl rfl (exw_call Tryd.func38 rfl (by kernel_rfl) rfl (val := fun x : Nat × Nat × List Value => rowv (some x.1) (padm m).length x.2.1) (hs' := fun x => ⟨some x.1, vrow (padm m) x.2.2, 5, (0, 0)⟩ :: _) (pre := fun x => RowOk 1 (some x.1) (padm m).length x.2.1 ((padm m).map vb) x.2.2) (fun w' hw' => (rpad_any m _ rfl p c hp hc hl w' (hS.old0 hw')).mono fun e w2 ⟨g, c', r, h1, h2, h3⟩ => ⟨(g, c', r), h1, h2, hw'.comp (A := []) (by simp) h3⟩)) (fun x14 hx14 => ?_)
    refine ho_val rfl rfl (ex_assign rfl) ?_
    refine ho_nil ?_
    refine hk_then_code ?_
    refine hl_seq ?_
    refine hl_seq ?_
    have hcap : (padm m).length ≤ x14.2.1 := RowOk.le hx14
    have hcap0 : x14.2.1 * 1 = x14.2.1 * 1 := rfl
    refine hl_region ?_
    refine ho_val rfl rfl (ex_assign rfl) ?_
    refine ho_nil ?_
    refine hk_then_code ?_
    refine hl_block ?_
    refine hl_loop (G := Nat) (fun i => (padm m).length / 64 - i) (fun i => i ≤ (padm m).length / 64) (fun i => [(2, .pointer (some ⟨b2, 0, none⟩)), (3, .pointer (some ⟨b3, 0, none⟩)), (4, .pointer (some ⟨b4, 0, none⟩)), (5, rowv (some x14.1) (padm m).length x14.2.1), (6, .int .i64 (64 * i : Nat))]) (fun i => [⟨some x14.1, vrow (padm m) x14.2.2, 5, (0, 0)⟩, ⟨some b4, vws (blocksTo tK tH (padm m) i), 62, (0, 0)⟩, ⟨some b3, vbs (List.replicate 32 0), 25, (0, 0)⟩, ⟨some b2, vbs (List.replicate 32 0), 25, (0, 0)⟩]) 0 (by omega) ⟨rfl, rfl, rfl, rfl, rfl, trivial⟩ _ (by decide) (.cons 0 rfl (.cons 1 rfl (.cons 2 rfl (.cons 3 rfl .nil)))) (fun i hi => ?_)
    refine hl_seq ?_
    refine hl_seq ?_
    refine hl_region ?_
    refine ho_val rfl rfl (ex_move rfl) ?_
    refine ho_val rfl rfl (ex_move rfl) ?_
    refine ho_val rfl rfl (ex_len_slice rfl Tryd.underlying22) ?_
    refine ho_val rfl rfl (ex_lss rfl rfl rfl) ?_
    refine ho_nil ?_
    refine hk_then_code ?_
    refine hl_if rfl (fun hc1 => ?_) (fun hc1 => ?_)
    · try simp only [decide_eq_true_eq, decide_eq_false_iff_not, beq_iff_eq, beq_eq_false_iff_ne, bne_iff_ne, bne_eq_false_iff_eq, ne_eq, Int.not_lt, Int.not_le, gt_iff_lt, ge_iff_le] at hc1
      have hi5 : i < (padm m).length / 64 := by omega
      refine hl_skip ?_
      refine hk_then_code ?_
      refine hl_seq ?_
      refine hl_block ?_
      refine hl_heldg _ 8 (by kernel_rfl) (by decide) (.cons 0 rfl (.cons 1 rfl (.cons 2 rfl (.cons 3 rfl .nil)))) ?_
      refine hg_take 0 rfl (by kernel_rfl) (by kernel_rfl) (by kernel_rfl) (by kernel_rfl) (fun _ _ _ h => h) rfl rfl (ex_load_row rfl 1 rfl rfl Tryd.underlying62 rfl (by rw [size62, vws_size, hB])) ?_
      refine hg_take 1 rfl (by kernel_rfl) (by kernel_rfl) (by kernel_rfl) (by kernel_rfl) (fun _ _ _ h => h) rfl rfl (ex_move rfl) ?_
      refine hg_take 2 rfl (by kernel_rfl) (by kernel_rfl) (by kernel_rfl) (by kernel_rfl) (fun _ _ _ h => h) rfl rfl (ex_move rfl) ?_
      refine hg_take 3 rfl (by kernel_rfl) (by kernel_rfl) (by kernel_rfl) (by kernel_rfl) (fun _ _ _ h => h) rfl rfl (ex_move rfl) ?_
      refine hg_take 4 rfl (by kernel_rfl) (by kernel_rfl) (by kernel_rfl) (by kernel_rfl) (fun _ _ _ h => h) rfl rfl (ex_addN (q := 64) rfl rfl (by omega)) ?_
      refine hg_take 5 rfl (by kernel_rfl) (by kernel_rfl) (by kernel_rfl) (by kernel_rfl) (fun _ _ _ h => h) rfl rfl (ex_slice_lohi rfl rfl rfl Tryd.underlying22 _ size5 (by omega) (by omega)) ?_
      refine hg_take 6 rfl (by kernel_rfl) (by kernel_rfl) (by kernel_rfl) (by kernel_rfl) (fun _ _ _ h => h) rfl rfl (ex_load_agg (xs := tK.map vw) rfl (fun w' hw' => hTK.old0 hw') Tryd.underlying64 rfl size64) ?_
      refine hg_do 7 rfl (by kernel_rfl) (fun a _ => wanted_none rfl a) rfl (exw_call_pure (v := .agg (vws (blocksTo tK tH (padm m) (i + 1)))) Tryd.func39 rfl (by kernel_rfl) rfl (fun w' hw' => by rw [show 64 * i + 64 - 64 * i = 64 from by omega]; exact block_any (blocksTo tK tH (padm m) i) (hB i) (cut (some (x14.1, 0)) x14.2.1 (64 * i) 1) (x14.2.1 - 64 * i) (((padm m).drop (64 * i)).take 64) (by rw [List.length_take, List.length_drop]; omega) w' (pad_sl (Sl.own hw' 0 rfl rfl (vrow_own _ _)) i (by rw [← hcap0]; exact hx14.room ▸ Nat.le_add_right _ _)))) (by decide) (fun _ _ => (.cons 0 rfl (.cons 1 rfl (.cons 2 rfl (.cons 3 rfl .nil))))) (fun _ _ => ?_)
      refine hg_last rfl (by kernel_rfl) (by kernel_rfl) (fun a _ => wanted_none rfl a) rfl (exw_store_row1 rfl rfl (by rw [size62, vws_size]; exact congrArg some (blocksTo_length _ _ _ rfl (i + 1)).symm) ((vws_size _).trans ((hB i).trans ((vws_size _).trans (blocksTo_length tK tH (padm m) rfl (i + 1))).symm)) (vws_one _)) (fun _ _ => ?_)
      refine hk_block_normal ?_
      refine hk_then_code ?_
      refine hl_region ?_
      refine ho_val rfl rfl (ex_move rfl) ?_
      refine ho_val rfl rfl (ex_addN (q := 64) rfl rfl (by omega)) ?_
      refine ho_val rfl rfl (ex_assign rfl) ?_
      refine ho_nil ?_
      refine hk_then_normal ?_
      exact hk_round (i + 1) (by omega) (by omega) ⟨rfl, rfl, rfl, rfl, rfl, trivial⟩ _ (by decide) (.cons 0 rfl (.cons 1 rfl (.cons 2 rfl (.cons 3 rfl .nil))))
    · try simp only [decide_eq_true_eq, decide_eq_false_iff_not, beq_iff_eq, beq_eq_false_iff_ne, bne_iff_ne, bne_eq_false_iff_eq, ne_eq, Int.not_lt, Int.not_le, gt_iff_lt, ge_iff_le] at hc1
      obtain rfl : i = (padm m).length / 64 := by omega
      refine hl_exit ?_
      refine hk_then_exit ?_
      refine hk_then_exit ?_
      refine hk_block_hit ?_
      refine hk_then_code ?_
      refine hl_seq ?_
      refine hl_seq ?_
      refine hl_region ?_
      refine ho_val rfl rfl (ex_assign rfl) ?_
      refine ho_nil ?_
      refine hk_then_code ?_
      refine hl_block ?_
      refine hl_loop (G := Nat) (fun i => 32 - i) (fun i => i ≤ 32) (fun i => [(2, .pointer (some ⟨b2, 0, none⟩)), (3, .pointer (some ⟨b3, 0, none⟩)), (4, .pointer (some ⟨b4, 0, none⟩)), (7, .int .i64 (i : Nat))]) (fun i => [⟨some b4, vws (blocksTo tK tH (padm m) ((padm m).length / 64)), 62, (0, 0)⟩, ⟨some b3, vbs (outTo (blocksTo tK tH (padm m) ((padm m).length / 64)) i), 25, (0, 0)⟩, ⟨some b2, vbs (List.replicate 32 0), 25, (0, 0)⟩]) 0 (by omega) ⟨rfl, rfl, rfl, rfl, trivial⟩ _ (by decide) (.cons 1 rfl (.cons 2 rfl (.cons 3 rfl .nil))) (fun i hi => ?_)
      refine hl_seq ?_
      refine hl_seq ?_
      refine hl_region ?_
      refine ho_val rfl rfl (ex_move rfl) ?_
      refine ho_val rfl rfl (ex_lss rfl rfl rfl) ?_
      refine ho_nil ?_
      refine hk_then_code ?_
      refine hl_if rfl (fun hc2 => ?_) (fun hc2 => ?_)
      · try simp only [decide_eq_true_eq, decide_eq_false_iff_not, beq_iff_eq, beq_eq_false_iff_ne, bne_iff_ne, bne_eq_false_iff_eq, ne_eq, Int.not_lt, Int.not_le, gt_iff_lt, ge_iff_le] at hc2
        have hi5 : i < 32 := by omega
        refine hl_skip ?_
        refine hk_then_code ?_
        refine hl_seq ?_
        refine hl_block ?_
        refine hl_region ?_
        refine ho_val rfl rfl (ex_move rfl) ?_
        refine ho_val rfl rfl (ex_move rfl) ?_
        refine ho_val rfl rfl (ex_quoN (q := 4) rfl rfl (by omega) (by omega)) ?_
        refine ho_val rfl rfl (ex_addr_arr0 rfl rfl Tryd.underlying62 size61 (by omega)) ?_
        refine ho_val rfl rfl (ex_load rfl 0 rfl rfl (vws_get _ _ (by rw [hB]; omega)) Tryd.underlying61 rfl) ?_
        refine ho_val rfl rfl (ex_move rfl) ?_
        refine ho_val rfl rfl (ex_remN (q := 4) rfl rfl (by omega) (by omega)) ?_
        refine ho_val rfl rfl (ex_mulN (p := 8) rfl rfl (by omega)) ?_
        refine ho_val rfl rfl (ex_subN (p := 24) rfl rfl (by omega) (by omega)) ?_
        refine ho_val rfl rfl (ex_convN rfl Tryd.underlying3 Tryd.underlying65 (by simp only [cap]; omega)) ?_
        refine ho_val rfl rfl (ex_shr32 rfl rfl (by omega)) ?_
        refine ho_val rfl rfl (ex_conv8 rfl Tryd.underlying61 Tryd.underlying5) ?_
        refine ho_val rfl rfl (ex_addr_arr0 rfl rfl Tryd.underlying25 size5 (by omega)) ?_
        refine ho_do rfl rfl (exw_store1 rfl rfl (vbs_getD _ _ (by rw [hO]; omega)) rfl size5 (vbs_set _ _ _)) (fun _ _ => ?_)
        refine ho_nil ?_
        refine hk_block_normal ?_
        refine hk_then_code ?_
        refine hl_region ?_
        refine ho_val rfl rfl (ex_move rfl) ?_
        refine ho_val rfl rfl (ex_addN (q := 1) rfl rfl (by omega)) ?_
        refine ho_val rfl rfl (ex_assign rfl) ?_
        refine ho_nil ?_
        refine hk_then_normal ?_
        exact hk_round (i + 1) (by omega) (by omega) ⟨rfl, rfl, rfl, rfl, trivial⟩ _ (by decide) (.cons 0 rfl (.cons 1 rfl (.cons 2 rfl .nil)))
      · try simp only [decide_eq_true_eq, decide_eq_false_iff_not, beq_iff_eq, beq_eq_false_iff_ne, bne_iff_ne, bne_eq_false_iff_eq, ne_eq, Int.not_lt, Int.not_le, gt_iff_lt, ge_iff_le] at hc2
        obtain rfl : i = 32 := by omega
        refine hl_exit ?_
        refine hk_then_exit ?_
        refine hk_then_exit ?_
        refine hk_block_hit ?_
        refine hk_then_code ?_
        refine hl_seq ?_
        refine hl_region ?_
        refine ho_val rfl rfl (ex_load_row rfl 1 rfl rfl Tryd.underlying25 rfl (by rw [size25, vbs_size, hO])) ?_
        refine ho_do rfl rfl (exw_store_row2 rfl rfl (by rw [size25, vbs_size, hO]) (by rw [vbs_size, vbs_size, hO]; rfl) (vbs_one _)) (fun _ _ => ?_)
        refine ho_nil ?_
        refine hk_then_code ?_
        refine hl_ret ?_
        exact hk_ret_row rfl rfl 2 rfl rfl Tryd.underlying25 rfl (by rw [size25, vbs_size, hO]) (fun w' hw' => ⟨rfl, hw'.below⟩)

end Go.Proofs.YtdmagjelmhcemaaDoor
