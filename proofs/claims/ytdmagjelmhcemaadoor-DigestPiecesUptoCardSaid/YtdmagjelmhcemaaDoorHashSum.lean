/- What the digest's Sum answers. -/
import Derived.Test.YtdmagjelmhcemaaDoorRows
import Derived.Test.YtdmagjelmhcemaaDoorFacts
import Derived.Test.YtdmagjelmhcemaaDoorSha
import Derived.Test.YtdmagjelmhcemaaDoorTextLaw2
import Derived.Test.YtdmagjelmhcemaaDoorSha2
import Derived.Test.YtdmagjelmhcemaaDoorHash
import Derived.Test.YtdmagjelmhcemaaDoorG
import Derived.Test.YtdmagjelmhcemaaDoorMix
import Derived.KernelRfl
import Derived.Test.YtdmagjelmhcemaaDoorSum
namespace Go.Proofs.YtdmagjelmhcemaaDoor
open Go.RowKit
set_option linter.unusedVariables false
set_option linter.unusedSimpArgs false

set_option maxHeartbeats 1600000 in
theorem sum_any (m : List UInt8) (S : List UInt32) (R : List UInt8) (hst : HSt m S R) (g et : Nat) (hl : m.length ≤ 1152921504606846976) (w : World) (h0 : w.heap[g]? = some (.cells (hblk S R m.length) et (0, 0))) (hK : Sl w (some ⟨3, 0, none⟩) (tK.map vw)) :
    Calls Tryd.prog 23 #[Value.pointer (some ⟨g, 0, none⟩)] w fun e w' => e = .returned (.agg (vbs (sha tK tH m))) ∧ Below w.heap.size w w' := by
  have hS8 := hst.len
  have hR8 := hst.r
  have hr : m.length % 64 < 64 := Nat.mod_lt _ (by decide)
  have hO : ∀ S k, (outTo S k).length = 32 := fun S k => outTo_length _ k
  have hB : ∀ k, (blocksTo tK tH (padm m) k).length = 8 := fun k => blocksTo_length _ _ _ rfl k
  have h3 : 3 < w.heap.size := World.block_lt_of_cell? w _ (hK.cell0 (tK_get 0 (by decide)))
  have hW' : Sl w (some ⟨g, 0, none⟩) (S.map vw ++ []) := Sl.heap h0 (by rw [List.append_nil]; exact wrow_all _ _)
  have hR' : Sl w (some ⟨g, 8, none⟩) (R.map vb) := Sl.heap h0 (hblk_rest _ hS8)
  have hN : w.cell? ⟨g, 0 + 72, none⟩ = some (.int .i64 (m.length : Int)) := by rw [cell_of_row w g (0 + 72) _ et (0, 0) h0]; exact hblk_n _ hS8 hR8
  refine calls_enter (n := 81) (hs := []) (M := []) (vs := [Value.pointer (some ⟨g, 0, none⟩)]) Tryd.func23 rfl rfl rfl (Hp.start w) ?_
  refine hl_seq ?_
  refine hl_region ?_
  refine ho_do rfl rfl (exw_alloc_cs (z := .agg (vbs (List.replicate 32 0))) (vbs (List.replicate 32 0)) (by kernel_rfl) rfl) (fun b2 hb2 => ?_)
  refine ho_nil ?_
  refine hk_then_code ?_
  refine hl_seq ?_
  refine hl_region ?_
  refine ho_do rfl rfl (exw_alloc_cs (z := .agg (vbs (List.replicate 32 0))) (vbs (List.replicate 32 0)) (by kernel_rfl) rfl) (fun b3 hb3 => ?_)
  refine ho_nil ?_
  refine hk_then_code ?_
  refine hl_seq ?_
  refine hl_seq ?_
  refine hl_region ?_
  refine ho_val rfl rfl (ex_move rfl) ?_
  refine ho_val rfl rfl (ex_eql_ptr rfl rfl Tryd.underlying34 rfl) ?_
  refine ho_nil ?_
  refine hk_then_code ?_
  refine hl_false rfl ?_
  refine hl_skip ?_
  refine hk_then_code ?_
  refine hl_seq ?_
  refine hl_region ?_
  refine ho_val rfl rfl (ex_move rfl) ?_
  refine ho_val rfl rfl (ex_nilCheck rfl) ?_
  refine ho_val rfl rfl (ex_field_addr rfl Tryd.underlying67 rfl size62 rfl) ?_
  refine ho_val rfl rfl (ex_load_agg (xs := S.map vw ++ []) rfl (fun w' hw' => hW'.old0 hw') Tryd.underlying62 rfl (by rw [size62, List.length_append, List.length_map, hS8]; rfl)) ?_
  refine ho_do rfl rfl (exw_alloc_cs (z := .agg (vws (List.replicate 8 0))) (vws (List.replicate 8 0)) (by kernel_rfl) rfl) (fun b4 hb4 => ?_)
  refine ho_do rfl rfl (exw_store_row0 rfl rfl (by rw [size62]; simp [hS8]) (by simp [vws_size, hS8]) (by rw [List.append_nil]; exact vws_one _)) (fun _ _ => ?_)
  refine ho_nil ?_
  refine hk_then_code ?_
  refine hl_seq ?_
  refine hl_region ?_
  refine ho_do rfl rfl (exw_alloc_cs (z := .agg (vbs (List.replicate 128 0))) (vbs (List.replicate 128 0)) (by kernel_rfl) rfl) (fun b5 hb5 => ?_)
  refine ho_nil ?_
  refine hk_then_code ?_
  refine hl_seq ?_
  refine hl_held _ (by kernel_rfl) (by decide) (.cons 1 rfl (.cons 2 rfl (.cons 3 rfl .nil))) ?_
  refine ha_take 0 rfl (by kernel_rfl) (by kernel_rfl) (by kernel_rfl) (fun _ _ _ h => h) rfl rfl (ex_slice_arr rfl Tryd.underlying72 _ size5) ?_
  refine ha_take 1 rfl (by kernel_rfl) (by kernel_rfl) (by kernel_rfl) (fun _ _ _ h => h) rfl rfl (ex_move rfl) ?_
  refine ha_take 2 rfl (by kernel_rfl) (by kernel_rfl) (by kernel_rfl) (fun _ _ _ h => h) rfl rfl (ex_nilCheck rfl) ?_
  refine ha_take 3 rfl (by kernel_rfl) (by kernel_rfl) (by kernel_rfl) (fun _ _ _ h => h) rfl rfl (ex_field_addr rfl Tryd.underlying67 rfl size53 rfl) ?_
  refine ha_take 4 rfl (by kernel_rfl) (by kernel_rfl) (by kernel_rfl) (fun _ _ _ h => h) rfl rfl (ex_move rfl) ?_
  refine ha_take 5 rfl (by kernel_rfl) (by kernel_rfl) (by kernel_rfl) (fun _ _ _ h => h) rfl rfl (ex_nilCheck rfl) ?_
  refine ha_take 6 rfl (by kernel_rfl) (by kernel_rfl) (by kernel_rfl) (fun _ _ _ h => h) rfl rfl (ex_field_addr rfl Tryd.underlying67 rfl size3 rfl) ?_
  refine ha_take 7 rfl (by kernel_rfl) (by kernel_rfl) (by kernel_rfl) (fun _ _ _ h => h) rfl rfl (ex_load_old (p := ⟨g, 0 + 72, none⟩) rfl (fun w' hw' => hw'.old hN) Tryd.underlying3 rfl) ?_
  refine ha_take 8 rfl (by kernel_rfl) (by kernel_rfl) (by kernel_rfl) (fun _ _ _ h => h) rfl rfl (ex_remN (q := 64) rfl rfl (by omega) (by omega)) ?_
  refine ha_take 9 rfl (by kernel_rfl) (by kernel_rfl) (by kernel_rfl) (fun _ _ _ h => h) rfl rfl (ex_slice_arr_hi rfl rfl Tryd.underlying53 _ size5 (by omega)) ?_
  refine ha_do 10 rfl (by kernel_rfl) (fun a _ => wanted_none rfl a) rfl (exw_copy0 (g := b5) (o := 0) (m := 128) (c := 128) rfl rfl (fun w' hw' => take_sl (m.length % 64) (hR'.old0 hw')) (by rw [List.length_map, List.length_take, hR8]; show min _ _ = min _ _; omega) (map_vb_one _) Tryd.underlying22 size5 (by rw [vbs_size, List.length_map, List.length_take, hR8, List.length_replicate]; omega) (fun h => nomatch h) (nk := m.length % 64) (by rw [List.length_map, List.length_take, hR8]; omega) (copy_last hR8 hr)) (by decide) (fun _ _ => (.cons 1 rfl (.cons 2 rfl (.cons 3 rfl .nil)))) (fun _ _ => ?_)
  refine ha_take 11 rfl (by kernel_rfl) (by kernel_rfl) (by kernel_rfl) (fun _ _ _ h => h) rfl rfl (ex_assign rfl) ?_
  refine ha_done (by kernel_rfl) ?_
  refine hk_then_code ?_
  refine hl_seq ?_
  refine hl_region ?_
  refine ho_val rfl rfl (ex_move rfl) ?_
  refine ho_val rfl rfl (ex_addr_arr0 rfl rfl Tryd.underlying72 size5 (by omega)) ?_
  refine ho_do rfl rfl (exw_store0 rfl rfl (vbs_getD _ _ (by simp [hR8]; omega)) rfl size5 (mark_vbs hR8 hr)) (fun _ _ => ?_)
  refine ho_nil ?_
  refine hk_then_code ?_
  refine hl_seq ?_
  refine hl_region ?_
  refine ho_val rfl rfl (ex_assign rfl) ?_
  refine ho_nil ?_
  refine hk_then_code ?_
  refine hl_seq ?_
  refine hl_seq ?_
  refine hl_region ?_
  refine ho_val rfl rfl (ex_move rfl) ?_
  refine ho_val rfl rfl (ex_geq rfl rfl rfl) ?_
  refine ho_nil ?_
  refine hk_then_code ?_
  refine hl_if rfl (fun hc1 => ?_) (fun hc1 => ?_)
  · try simp only [decide_eq_true_eq, decide_eq_false_iff_not, beq_iff_eq, beq_eq_false_iff_ne, bne_iff_ne, bne_eq_false_iff_eq, ne_eq, Int.not_lt, Int.not_le, gt_iff_lt, ge_iff_le] at hc1
    have hE : m.length % 64 < 56 ∧ 128 = 64 ∨ 56 ≤ m.length % 64 ∧ 128 = 128 := .inr ⟨by omega, rfl⟩
    skip
    refine hl_region ?_
    refine ho_val rfl rfl (ex_assign rfl) ?_
    refine ho_nil ?_
    refine hk_then_code ?_
    refine hl_seq ?_
    refine hl_region ?_
    refine ho_val rfl rfl (ex_move rfl) ?_
    refine ho_val rfl rfl (ex_nilCheck rfl) ?_
    refine ho_val rfl rfl (ex_field_addr rfl Tryd.underlying67 rfl size3 rfl) ?_
    refine ho_val rfl rfl (ex_load_old (p := ⟨g, 0 + 72, none⟩) rfl (fun w' hw' => hw'.old hN) Tryd.underlying3 rfl) ?_
    refine ho_val rfl rfl (ex_convN rfl Tryd.underlying3 Tryd.underlying73 (by simp only [cap]; omega)) ?_
    refine ho_val rfl rfl (ex_mulK (q := 8) rfl rfl (by simp only [cap]; omega)) ?_
    refine ho_val rfl rfl (ex_assign rfl) ?_
    refine ho_nil ?_
    refine hk_then_code ?_
    refine hl_seq ?_
    refine hl_seq ?_
    skip
    refine hl_region ?_
    refine ho_val rfl rfl (ex_move rfl) ?_
    refine ho_nil ?_
    refine hk_then_code ?_
    refine hl_block ?_
    refine hl_loop (G := Nat) (fun i => 8 - i) (fun i => i ≤ 8) (fun i => [(2, .pointer (some ⟨b2, 0, none⟩)), (3, .pointer (some ⟨b3, 0, none⟩)), (4, .pointer (some ⟨b4, 0, none⟩)), (5, .pointer (some ⟨b5, 0, none⟩)), (7, .int .i64 (128 : Nat)), (8, .int .u64 (m.length * 8 : Nat)), (40, .int .i64 (i : Nat))]) (fun i => [⟨some b5, vbs (setBe (lastOf R (m.length % 64)) (m.length * 8) 128 i), 72, (0, 0)⟩, ⟨some b4, wrow S [], 62, (0, 0)⟩, ⟨some b3, vbs (List.replicate 32 0), 25, (0, 0)⟩, ⟨some b2, vbs (List.replicate 32 0), 25, (0, 0)⟩]) 0 (by omega) ⟨rfl, rfl, rfl, rfl, rfl, rfl, rfl, trivial⟩ _ (by decide) (.cons 0 rfl (.cons 1 rfl (.cons 2 rfl (.cons 3 rfl .nil)))) (fun i hi => ?_)
    refine hl_seq ?_
    refine hl_region ?_
    refine ho_val rfl rfl (ex_lss rfl rfl rfl) ?_
    refine ho_nil ?_
    refine hk_then_code ?_
    refine hl_seq ?_
    refine hl_if rfl (fun hc2 => ?_) (fun hc2 => ?_)
    · try simp only [decide_eq_true_eq, decide_eq_false_iff_not, beq_iff_eq, beq_eq_false_iff_ne, bne_iff_ne, bne_eq_false_iff_eq, ne_eq, Int.not_lt, Int.not_le, gt_iff_lt, ge_iff_le] at hc2
      have hi5 : i < 8 := by omega
      refine hl_skip ?_
      refine hk_then_code ?_
      refine hl_seq ?_
      refine hl_block ?_
      refine hl_seq ?_
      refine hl_region ?_
      refine ho_val rfl rfl (ex_move rfl) ?_
      refine ho_val rfl rfl (ex_assign rfl) ?_
      refine ho_nil ?_
      refine hk_then_code ?_
      refine hl_region ?_
      refine ho_val rfl rfl (ex_move rfl) ?_
      refine ho_val rfl rfl (ex_subN (q := 1) rfl rfl (by omega) (by omega)) ?_
      refine ho_val rfl rfl (ex_move rfl) ?_
      refine ho_val rfl rfl (ex_subN rfl rfl (by omega) (by omega)) ?_
      refine ho_val rfl rfl (ex_move rfl) ?_
      refine ho_val rfl rfl (ex_move rfl) ?_
      refine ho_val rfl rfl (ex_mulN (p := 8) rfl rfl (by omega)) ?_
      refine ho_val rfl rfl (ex_shrN rfl rfl (by simp only [cap]; omega)) ?_
      refine ho_val rfl rfl (ex_conv8 rfl Tryd.underlying73 Tryd.underlying5) ?_
      refine ho_val rfl rfl (ex_addr_arr0 rfl rfl Tryd.underlying72 size5 (by omega)) ?_
      refine ho_do rfl rfl (exw_store0 rfl rfl (vbs_getD _ _ (by rw [setBe_length, lastOf_length hR8 hr]; omega)) rfl size5 (vbs_set _ _ _)) (fun _ _ => ?_)
      refine ho_nil ?_
      refine hk_block_normal ?_
      refine hk_then_code ?_
      refine hl_region ?_
      refine ho_val rfl rfl (ex_addN (q := 1) rfl rfl (by omega)) ?_
      refine ho_val rfl rfl (ex_move rfl) ?_
      refine ho_nil ?_
      refine hk_then_normal ?_
      exact hk_round (i + 1) (by omega) (by omega) ⟨rfl, rfl, rfl, rfl, rfl, rfl, rfl, trivial⟩ _ (by decide) (.cons 0 rfl (.cons 1 rfl (.cons 2 rfl (.cons 3 rfl .nil))))
    · try simp only [decide_eq_true_eq, decide_eq_false_iff_not, beq_iff_eq, beq_eq_false_iff_ne, bne_iff_ne, bne_eq_false_iff_eq, ne_eq, Int.not_lt, Int.not_le, gt_iff_lt, ge_iff_le] at hc2
      obtain rfl : i = 8 := by omega
      refine hl_exit ?_
      refine hk_then_exit ?_
      refine hk_then_exit ?_
      refine hk_block_hit ?_
      refine hk_then_code ?_
      refine hl_seq ?_
      refine hl_seq ?_
      refine hl_region ?_
      refine ho_val rfl rfl (ex_assign rfl) ?_
      refine ho_nil ?_
      refine hk_then_code ?_
      refine hl_block ?_
      refine hl_loop (G := Nat) (fun k => 128 - 64 * k) (fun k => 64 * k ≤ 128) (fun k => [(2, .pointer (some ⟨b2, 0, none⟩)), (3, .pointer (some ⟨b3, 0, none⟩)), (4, .pointer (some ⟨b4, 0, none⟩)), (5, .pointer (some ⟨b5, 0, none⟩)), (7, .int .i64 (128 : Nat)), (10, .int .i64 (64 * k : Nat))]) (fun k => [⟨some b5, vbs (setBe (lastOf R (m.length % 64)) (m.length * 8) 128 8), 72, (0, 0)⟩, ⟨some b4, wrow (blocksTo tK tH (padm m) (m.length / 64 + k)) [], 62, (0, 0)⟩, ⟨some b3, vbs (List.replicate 32 0), 25, (0, 0)⟩, ⟨some b2, vbs (List.replicate 32 0), 25, (0, 0)⟩]) 0 (by omega) ⟨rfl, rfl, rfl, rfl, rfl, rfl, trivial⟩ _ (by decide) (.cons 0 rfl (.cons 1 (by rw [← last_start hst]; rfl) (.cons 2 rfl (.cons 3 rfl .nil)))) (fun k hk => ?_)
      refine hl_seq ?_
      refine hl_seq ?_
      refine hl_region ?_
      refine ho_val rfl rfl (ex_move rfl) ?_
      refine ho_val rfl rfl (ex_move rfl) ?_
      refine ho_val rfl rfl (ex_lss rfl rfl rfl) ?_
      refine ho_nil ?_
      refine hk_then_code ?_
      refine hl_if rfl (fun hc3 => ?_) (fun hc3 => ?_)
      · try simp only [decide_eq_true_eq, decide_eq_false_iff_not, beq_iff_eq, beq_eq_false_iff_ne, bne_iff_ne, bne_eq_false_iff_eq, ne_eq, Int.not_lt, Int.not_le, gt_iff_lt, ge_iff_le] at hc3
        have hk5 : 64 * k + 64 ≤ 128 := by omega
        refine hl_skip ?_
        refine hk_then_code ?_
        refine hl_seq ?_
        refine hl_block ?_
        refine hl_region ?_
        refine ho_val rfl rfl (ex_move rfl) ?_
        refine ho_val rfl rfl (ex_move rfl) ?_
        refine ho_val rfl rfl (ex_addN (q := 64) rfl rfl (by omega)) ?_
        refine ho_val rfl rfl (ex_slice_arr_lohi1 rfl rfl rfl Tryd.underlying72 size5 (by omega) (by omega) (by omega)) ?_
        refine ho_pick _ (by decide) (.cons 1 rfl (.cons 0 rfl (.cons 2 rfl (.cons 3 rfl .nil)))) ?_
        refine ho_do rfl rfl (exw_call Tryd.func40 rfl (by kernel_rfl) rfl (val := fun _ : Unit => .tuple #[]) (hs' := fun _ => ⟨some b4, wrow (compress tK (blocksTo tK tH (padm m) (m.length / 64 + k)) ((setBe (lastOf R (m.length % 64)) (m.length * 8) 128 8).drop (64 * k) |>.take 64)) [], 62, (0, 0)⟩ :: _) (pre := fun _ => True) (fun w' hw' => by rw [show 64 * k + 64 - 64 * k = 64 from by omega]; exact (mix_any _ (blocksTo_length _ _ _ rfl _) [] 62 b4 (some ⟨b5, 0 + 64 * k, none⟩) (128 - 64 * k) ((setBe (lastOf R (m.length % 64)) (m.length * 8) 128 8).drop (64 * k) |>.take 64) (by rw [List.length_take, List.length_drop, setBe_length, lastOf_length hR8 hr]; omega) w' (Sl.own hw' 1 rfl rfl vbs_part) (hw'.own _ List.mem_cons_self b4 rfl) (hK.old0 hw') (by omega)).mono fun e w2 ⟨h1, h2⟩ => ⟨(), trivial, h1, hw'.comp (A := [_]) (fun g hg => ⟨_, List.mem_cons_self, by rw [List.mem_singleton.1 hg]⟩) h2⟩)) (fun _ _ => ?_)
        refine ho_nil ?_
        refine hk_block_normal ?_
        refine hk_then_code ?_
        refine hl_region ?_
        refine ho_val rfl rfl (ex_move rfl) ?_
        refine ho_val rfl rfl (ex_addN (q := 64) rfl rfl (by omega)) ?_
        refine ho_val rfl rfl (ex_assign rfl) ?_
        refine ho_nil ?_
        refine hk_then_normal ?_
        exact hk_round (k + 1) (by omega) (by omega) ⟨rfl, rfl, rfl, rfl, rfl, (by rw [show 64 * (k + 1) = 64 * k + 64 by omega]; rfl), trivial⟩ _ (by decide) (.cons 1 rfl (.cons 0 (by rw [← last_step hst hE hk5]; rfl) (.cons 2 rfl (.cons 3 rfl .nil))))
      · try simp only [decide_eq_true_eq, decide_eq_false_iff_not, beq_iff_eq, beq_eq_false_iff_ne, bne_iff_ne, bne_eq_false_iff_eq, ne_eq, Int.not_lt, Int.not_le, gt_iff_lt, ge_iff_le] at hc3
        have hk6 : 64 * k = 128 := by omega
        refine hl_exit ?_
        refine hk_then_exit ?_
        refine hk_then_exit ?_
        refine hk_block_hit ?_
        refine hk_then_code ?_
        refine hl_seq ?_
        refine hl_seq ?_
        refine hl_region ?_
        refine ho_val rfl rfl (ex_move rfl) ?_
        refine ho_nil ?_
        refine hk_then_code ?_
        refine hl_block ?_
        refine hl_loop (G := Nat) (fun i => 32 - i) (fun i => i ≤ 32) (fun i => [(2, .pointer (some ⟨b2, 0, none⟩)), (3, .pointer (some ⟨b3, 0, none⟩)), (4, .pointer (some ⟨b4, 0, none⟩)), (64, .int .i64 (i : Nat))]) (fun i => [⟨some b4, wrow (blocksTo tK tH (padm m) (m.length / 64 + k)) [], 62, (0, 0)⟩, ⟨some b3, vbs (outTo (blocksTo tK tH (padm m) (m.length / 64 + k)) i), 25, (0, 0)⟩, ⟨some b2, vbs (List.replicate 32 0), 25, (0, 0)⟩]) 0 (by omega) ⟨rfl, rfl, rfl, rfl, trivial⟩ _ (by decide) (.cons 1 rfl (.cons 2 rfl (.cons 3 rfl .nil))) (fun i hi => ?_)
        refine hl_seq ?_
        refine hl_region ?_
        refine ho_val rfl rfl (ex_lss rfl rfl rfl) ?_
        refine ho_nil ?_
        refine hk_then_code ?_
        refine hl_seq ?_
        refine hl_if rfl (fun hc4 => ?_) (fun hc4 => ?_)
        · try simp only [decide_eq_true_eq, decide_eq_false_iff_not, beq_iff_eq, beq_eq_false_iff_ne, bne_iff_ne, bne_eq_false_iff_eq, ne_eq, Int.not_lt, Int.not_le, gt_iff_lt, ge_iff_le] at hc4
          have hi5 : i < 32 := by omega
          refine hl_skip ?_
          refine hk_then_code ?_
          refine hl_seq ?_
          refine hl_block ?_
          refine hl_seq ?_
          refine hl_region ?_
          refine ho_val rfl rfl (ex_move rfl) ?_
          refine ho_val rfl rfl (ex_assign rfl) ?_
          refine ho_nil ?_
          refine hk_then_code ?_
          refine hl_region ?_
          refine ho_val rfl rfl (ex_move rfl) ?_
          refine ho_val rfl rfl (ex_move rfl) ?_
          refine ho_val rfl rfl (ex_quoN (q := 4) rfl rfl (by omega) (by omega)) ?_
          refine ho_val rfl rfl (ex_addr_arr0 rfl rfl Tryd.underlying62 size61 (by omega)) ?_
          refine ho_val rfl rfl (ex_load rfl 0 rfl rfl (wrow_get _ _ _ (by rw [hB]; omega)) Tryd.underlying61 rfl) ?_
          refine ho_val rfl rfl (ex_move rfl) ?_
          refine ho_val rfl rfl (ex_remN (q := 4) rfl rfl (by omega) (by omega)) ?_
          refine ho_val rfl rfl (ex_mulN (p := 8) rfl rfl (by omega)) ?_
          refine ho_val rfl rfl (ex_subN (p := 24) rfl rfl (by omega) (by omega)) ?_
          refine ho_val rfl rfl (ex_shr32 rfl rfl (by omega)) ?_
          refine ho_val rfl rfl (ex_conv8 rfl Tryd.underlying61 Tryd.underlying5) ?_
          refine ho_val rfl rfl (ex_addr_arr0 rfl rfl Tryd.underlying25 size5 (by omega)) ?_
          refine ho_do rfl rfl (exw_store1 rfl rfl (vbs_getD _ _ (by rw [hO]; omega)) rfl size5 (vbs_set _ _ _)) (fun _ _ => ?_)
          refine ho_nil ?_
          refine hk_block_normal ?_
          refine hk_then_code ?_
          refine hl_region ?_
          refine ho_val rfl rfl (ex_addN (q := 1) rfl rfl (by omega)) ?_
          refine ho_val rfl rfl (ex_move rfl) ?_
          refine ho_nil ?_
          refine hk_then_normal ?_
          exact hk_round (i + 1) (by omega) (by omega) ⟨rfl, rfl, rfl, rfl, trivial⟩ _ (by decide) (.cons 0 rfl (.cons 1 rfl (.cons 2 rfl .nil)))
        · try simp only [decide_eq_true_eq, decide_eq_false_iff_not, beq_iff_eq, beq_eq_false_iff_ne, bne_iff_ne, bne_eq_false_iff_eq, ne_eq, Int.not_lt, Int.not_le, gt_iff_lt, ge_iff_le] at hc4
          obtain rfl : i = 32 := by omega
          refine hl_exit ?_
          refine hk_then_exit ?_
          refine hk_then_exit ?_
          refine hk_block_hit ?_
          refine hk_then_code ?_
          refine hl_seq ?_
          refine hl_region ?_
          refine ho_val rfl rfl (ex_load_row rfl 1 rfl rfl Tryd.underlying25 rfl (by rw [size25, vbs_size, hO])) ?_
          refine ho_do rfl rfl (exw_store_row2 rfl rfl (by rw [size25, vbs_size, hO]) (by rw [vbs_size, vbs_size, hO]; rfl) (vbs_one _)) (fun _ _ => ?_)
          refine ho_nil ?_
          refine hk_then_code ?_
          refine hl_ret ?_
          exact hk_ret_row rfl rfl 2 rfl rfl Tryd.underlying25 rfl (by rw [size25, vbs_size, hO]) (fun w' hw' => ⟨by rw [last_sha hE (k := k) (by omega)], hw'.below⟩)
  · try simp only [decide_eq_true_eq, decide_eq_false_iff_not, beq_iff_eq, beq_eq_false_iff_ne, bne_iff_ne, bne_eq_false_iff_eq, ne_eq, Int.not_lt, Int.not_le, gt_iff_lt, ge_iff_le] at hc1
    have hE : m.length % 64 < 56 ∧ 64 = 64 ∨ 56 ≤ m.length % 64 ∧ 64 = 128 := .inl ⟨by omega, rfl⟩
    refine hl_skip ?_
    refine hk_then_code ?_
    refine hl_seq ?_
    refine hl_region ?_
    refine ho_val rfl rfl (ex_move rfl) ?_
    refine ho_val rfl rfl (ex_nilCheck rfl) ?_
    refine ho_val rfl rfl (ex_field_addr rfl Tryd.underlying67 rfl size3 rfl) ?_
    refine ho_val rfl rfl (ex_load_old (p := ⟨g, 0 + 72, none⟩) rfl (fun w' hw' => hw'.old hN) Tryd.underlying3 rfl) ?_
    refine ho_val rfl rfl (ex_convN rfl Tryd.underlying3 Tryd.underlying73 (by simp only [cap]; omega)) ?_
    refine ho_val rfl rfl (ex_mulK (q := 8) rfl rfl (by simp only [cap]; omega)) ?_
    refine ho_val rfl rfl (ex_assign rfl) ?_
    refine ho_nil ?_
    refine hk_then_code ?_
    refine hl_seq ?_
    refine hl_seq ?_
    skip
    refine hl_region ?_
    refine ho_val rfl rfl (ex_move rfl) ?_
    refine ho_nil ?_
    refine hk_then_code ?_
    refine hl_block ?_
    refine hl_loop (G := Nat) (fun i => 8 - i) (fun i => i ≤ 8) (fun i => [(2, .pointer (some ⟨b2, 0, none⟩)), (3, .pointer (some ⟨b3, 0, none⟩)), (4, .pointer (some ⟨b4, 0, none⟩)), (5, .pointer (some ⟨b5, 0, none⟩)), (7, .int .i64 (64 : Nat)), (8, .int .u64 (m.length * 8 : Nat)), (40, .int .i64 (i : Nat))]) (fun i => [⟨some b5, vbs (setBe (lastOf R (m.length % 64)) (m.length * 8) 64 i), 72, (0, 0)⟩, ⟨some b4, wrow S [], 62, (0, 0)⟩, ⟨some b3, vbs (List.replicate 32 0), 25, (0, 0)⟩, ⟨some b2, vbs (List.replicate 32 0), 25, (0, 0)⟩]) 0 (by omega) ⟨rfl, rfl, rfl, rfl, rfl, rfl, rfl, trivial⟩ _ (by decide) (.cons 0 rfl (.cons 1 rfl (.cons 2 rfl (.cons 3 rfl .nil)))) (fun i hi => ?_)
    refine hl_seq ?_
    refine hl_region ?_
    refine ho_val rfl rfl (ex_lss rfl rfl rfl) ?_
    refine ho_nil ?_
    refine hk_then_code ?_
    refine hl_seq ?_
    refine hl_if rfl (fun hc5 => ?_) (fun hc5 => ?_)
    · try simp only [decide_eq_true_eq, decide_eq_false_iff_not, beq_iff_eq, beq_eq_false_iff_ne, bne_iff_ne, bne_eq_false_iff_eq, ne_eq, Int.not_lt, Int.not_le, gt_iff_lt, ge_iff_le] at hc5
      have hi5 : i < 8 := by omega
      refine hl_skip ?_
      refine hk_then_code ?_
      refine hl_seq ?_
      refine hl_block ?_
      refine hl_seq ?_
      refine hl_region ?_
      refine ho_val rfl rfl (ex_move rfl) ?_
      refine ho_val rfl rfl (ex_assign rfl) ?_
      refine ho_nil ?_
      refine hk_then_code ?_
      refine hl_region ?_
      refine ho_val rfl rfl (ex_move rfl) ?_
      refine ho_val rfl rfl (ex_subN (q := 1) rfl rfl (by omega) (by omega)) ?_
      refine ho_val rfl rfl (ex_move rfl) ?_
      refine ho_val rfl rfl (ex_subN rfl rfl (by omega) (by omega)) ?_
      refine ho_val rfl rfl (ex_move rfl) ?_
      refine ho_val rfl rfl (ex_move rfl) ?_
      refine ho_val rfl rfl (ex_mulN (p := 8) rfl rfl (by omega)) ?_
      refine ho_val rfl rfl (ex_shrN rfl rfl (by simp only [cap]; omega)) ?_
      refine ho_val rfl rfl (ex_conv8 rfl Tryd.underlying73 Tryd.underlying5) ?_
      refine ho_val rfl rfl (ex_addr_arr0 rfl rfl Tryd.underlying72 size5 (by omega)) ?_
      refine ho_do rfl rfl (exw_store0 rfl rfl (vbs_getD _ _ (by rw [setBe_length, lastOf_length hR8 hr]; omega)) rfl size5 (vbs_set _ _ _)) (fun _ _ => ?_)
      refine ho_nil ?_
      refine hk_block_normal ?_
      refine hk_then_code ?_
      refine hl_region ?_
      refine ho_val rfl rfl (ex_addN (q := 1) rfl rfl (by omega)) ?_
      refine ho_val rfl rfl (ex_move rfl) ?_
      refine ho_nil ?_
      refine hk_then_normal ?_
      exact hk_round (i + 1) (by omega) (by omega) ⟨rfl, rfl, rfl, rfl, rfl, rfl, rfl, trivial⟩ _ (by decide) (.cons 0 rfl (.cons 1 rfl (.cons 2 rfl (.cons 3 rfl .nil))))
    · try simp only [decide_eq_true_eq, decide_eq_false_iff_not, beq_iff_eq, beq_eq_false_iff_ne, bne_iff_ne, bne_eq_false_iff_eq, ne_eq, Int.not_lt, Int.not_le, gt_iff_lt, ge_iff_le] at hc5
      obtain rfl : i = 8 := by omega
      refine hl_exit ?_
      refine hk_then_exit ?_
      refine hk_then_exit ?_
      refine hk_block_hit ?_
      refine hk_then_code ?_
      refine hl_seq ?_
      refine hl_seq ?_
      refine hl_region ?_
      refine ho_val rfl rfl (ex_assign rfl) ?_
      refine ho_nil ?_
      refine hk_then_code ?_
      refine hl_block ?_
      refine hl_loop (G := Nat) (fun k => 64 - 64 * k) (fun k => 64 * k ≤ 64) (fun k => [(2, .pointer (some ⟨b2, 0, none⟩)), (3, .pointer (some ⟨b3, 0, none⟩)), (4, .pointer (some ⟨b4, 0, none⟩)), (5, .pointer (some ⟨b5, 0, none⟩)), (7, .int .i64 (64 : Nat)), (10, .int .i64 (64 * k : Nat))]) (fun k => [⟨some b5, vbs (setBe (lastOf R (m.length % 64)) (m.length * 8) 64 8), 72, (0, 0)⟩, ⟨some b4, wrow (blocksTo tK tH (padm m) (m.length / 64 + k)) [], 62, (0, 0)⟩, ⟨some b3, vbs (List.replicate 32 0), 25, (0, 0)⟩, ⟨some b2, vbs (List.replicate 32 0), 25, (0, 0)⟩]) 0 (by omega) ⟨rfl, rfl, rfl, rfl, rfl, rfl, trivial⟩ _ (by decide) (.cons 0 rfl (.cons 1 (by rw [← last_start hst]; rfl) (.cons 2 rfl (.cons 3 rfl .nil)))) (fun k hk => ?_)
      refine hl_seq ?_
      refine hl_seq ?_
      refine hl_region ?_
      refine ho_val rfl rfl (ex_move rfl) ?_
      refine ho_val rfl rfl (ex_move rfl) ?_
      refine ho_val rfl rfl (ex_lss rfl rfl rfl) ?_
      refine ho_nil ?_
      refine hk_then_code ?_
      refine hl_if rfl (fun hc6 => ?_) (fun hc6 => ?_)
      · try simp only [decide_eq_true_eq, decide_eq_false_iff_not, beq_iff_eq, beq_eq_false_iff_ne, bne_iff_ne, bne_eq_false_iff_eq, ne_eq, Int.not_lt, Int.not_le, gt_iff_lt, ge_iff_le] at hc6
        have hk5 : 64 * k + 64 ≤ 64 := by omega
        refine hl_skip ?_
        refine hk_then_code ?_
        refine hl_seq ?_
        refine hl_block ?_
        refine hl_region ?_
        refine ho_val rfl rfl (ex_move rfl) ?_
        refine ho_val rfl rfl (ex_move rfl) ?_
        refine ho_val rfl rfl (ex_addN (q := 64) rfl rfl (by omega)) ?_
        refine ho_val rfl rfl (ex_slice_arr_lohi1 rfl rfl rfl Tryd.underlying72 size5 (by omega) (by omega) (by omega)) ?_
        refine ho_pick _ (by decide) (.cons 1 rfl (.cons 0 rfl (.cons 2 rfl (.cons 3 rfl .nil)))) ?_
        refine ho_do rfl rfl (exw_call Tryd.func40 rfl (by kernel_rfl) rfl (val := fun _ : Unit => .tuple #[]) (hs' := fun _ => ⟨some b4, wrow (compress tK (blocksTo tK tH (padm m) (m.length / 64 + k)) ((setBe (lastOf R (m.length % 64)) (m.length * 8) 64 8).drop (64 * k) |>.take 64)) [], 62, (0, 0)⟩ :: _) (pre := fun _ => True) (fun w' hw' => by rw [show 64 * k + 64 - 64 * k = 64 from by omega]; exact (mix_any _ (blocksTo_length _ _ _ rfl _) [] 62 b4 (some ⟨b5, 0 + 64 * k, none⟩) (128 - 64 * k) ((setBe (lastOf R (m.length % 64)) (m.length * 8) 64 8).drop (64 * k) |>.take 64) (by rw [List.length_take, List.length_drop, setBe_length, lastOf_length hR8 hr]; omega) w' (Sl.own hw' 1 rfl rfl vbs_part) (hw'.own _ List.mem_cons_self b4 rfl) (hK.old0 hw') (by omega)).mono fun e w2 ⟨h1, h2⟩ => ⟨(), trivial, h1, hw'.comp (A := [_]) (fun g hg => ⟨_, List.mem_cons_self, by rw [List.mem_singleton.1 hg]⟩) h2⟩)) (fun _ _ => ?_)
        refine ho_nil ?_
        refine hk_block_normal ?_
        refine hk_then_code ?_
        refine hl_region ?_
        refine ho_val rfl rfl (ex_move rfl) ?_
        refine ho_val rfl rfl (ex_addN (q := 64) rfl rfl (by omega)) ?_
        refine ho_val rfl rfl (ex_assign rfl) ?_
        refine ho_nil ?_
        refine hk_then_normal ?_
        exact hk_round (k + 1) (by omega) (by omega) ⟨rfl, rfl, rfl, rfl, rfl, (by rw [show 64 * (k + 1) = 64 * k + 64 by omega]; rfl), trivial⟩ _ (by decide) (.cons 1 rfl (.cons 0 (by rw [← last_step hst hE hk5]; rfl) (.cons 2 rfl (.cons 3 rfl .nil))))
      · try simp only [decide_eq_true_eq, decide_eq_false_iff_not, beq_iff_eq, beq_eq_false_iff_ne, bne_iff_ne, bne_eq_false_iff_eq, ne_eq, Int.not_lt, Int.not_le, gt_iff_lt, ge_iff_le] at hc6
        have hk6 : 64 * k = 64 := by omega
        refine hl_exit ?_
        refine hk_then_exit ?_
        refine hk_then_exit ?_
        refine hk_block_hit ?_
        refine hk_then_code ?_
        refine hl_seq ?_
        refine hl_seq ?_
        refine hl_region ?_
        refine ho_val rfl rfl (ex_move rfl) ?_
        refine ho_nil ?_
        refine hk_then_code ?_
        refine hl_block ?_
        refine hl_loop (G := Nat) (fun i => 32 - i) (fun i => i ≤ 32) (fun i => [(2, .pointer (some ⟨b2, 0, none⟩)), (3, .pointer (some ⟨b3, 0, none⟩)), (4, .pointer (some ⟨b4, 0, none⟩)), (64, .int .i64 (i : Nat))]) (fun i => [⟨some b4, wrow (blocksTo tK tH (padm m) (m.length / 64 + k)) [], 62, (0, 0)⟩, ⟨some b3, vbs (outTo (blocksTo tK tH (padm m) (m.length / 64 + k)) i), 25, (0, 0)⟩, ⟨some b2, vbs (List.replicate 32 0), 25, (0, 0)⟩]) 0 (by omega) ⟨rfl, rfl, rfl, rfl, trivial⟩ _ (by decide) (.cons 1 rfl (.cons 2 rfl (.cons 3 rfl .nil))) (fun i hi => ?_)
        refine hl_seq ?_
        refine hl_region ?_
        refine ho_val rfl rfl (ex_lss rfl rfl rfl) ?_
        refine ho_nil ?_
        refine hk_then_code ?_
        refine hl_seq ?_
        refine hl_if rfl (fun hc7 => ?_) (fun hc7 => ?_)
        · try simp only [decide_eq_true_eq, decide_eq_false_iff_not, beq_iff_eq, beq_eq_false_iff_ne, bne_iff_ne, bne_eq_false_iff_eq, ne_eq, Int.not_lt, Int.not_le, gt_iff_lt, ge_iff_le] at hc7
          have hi5 : i < 32 := by omega
          refine hl_skip ?_
          refine hk_then_code ?_
          refine hl_seq ?_
          refine hl_block ?_
          refine hl_seq ?_
          refine hl_region ?_
          refine ho_val rfl rfl (ex_move rfl) ?_
          refine ho_val rfl rfl (ex_assign rfl) ?_
          refine ho_nil ?_
          refine hk_then_code ?_
          refine hl_region ?_
          refine ho_val rfl rfl (ex_move rfl) ?_
          refine ho_val rfl rfl (ex_move rfl) ?_
          refine ho_val rfl rfl (ex_quoN (q := 4) rfl rfl (by omega) (by omega)) ?_
          refine ho_val rfl rfl (ex_addr_arr0 rfl rfl Tryd.underlying62 size61 (by omega)) ?_
          refine ho_val rfl rfl (ex_load rfl 0 rfl rfl (wrow_get _ _ _ (by rw [hB]; omega)) Tryd.underlying61 rfl) ?_
          refine ho_val rfl rfl (ex_move rfl) ?_
          refine ho_val rfl rfl (ex_remN (q := 4) rfl rfl (by omega) (by omega)) ?_
          refine ho_val rfl rfl (ex_mulN (p := 8) rfl rfl (by omega)) ?_
          refine ho_val rfl rfl (ex_subN (p := 24) rfl rfl (by omega) (by omega)) ?_
          refine ho_val rfl rfl (ex_shr32 rfl rfl (by omega)) ?_
          refine ho_val rfl rfl (ex_conv8 rfl Tryd.underlying61 Tryd.underlying5) ?_
          refine ho_val rfl rfl (ex_addr_arr0 rfl rfl Tryd.underlying25 size5 (by omega)) ?_
          refine ho_do rfl rfl (exw_store1 rfl rfl (vbs_getD _ _ (by rw [hO]; omega)) rfl size5 (vbs_set _ _ _)) (fun _ _ => ?_)
          refine ho_nil ?_
          refine hk_block_normal ?_
          refine hk_then_code ?_
          refine hl_region ?_
          refine ho_val rfl rfl (ex_addN (q := 1) rfl rfl (by omega)) ?_
          refine ho_val rfl rfl (ex_move rfl) ?_
          refine ho_nil ?_
          refine hk_then_normal ?_
          exact hk_round (i + 1) (by omega) (by omega) ⟨rfl, rfl, rfl, rfl, trivial⟩ _ (by decide) (.cons 0 rfl (.cons 1 rfl (.cons 2 rfl .nil)))
        · try simp only [decide_eq_true_eq, decide_eq_false_iff_not, beq_iff_eq, beq_eq_false_iff_ne, bne_iff_ne, bne_eq_false_iff_eq, ne_eq, Int.not_lt, Int.not_le, gt_iff_lt, ge_iff_le] at hc7
          obtain rfl : i = 32 := by omega
          refine hl_exit ?_
          refine hk_then_exit ?_
          refine hk_then_exit ?_
          refine hk_block_hit ?_
          refine hk_then_code ?_
          refine hl_seq ?_
          refine hl_region ?_
          refine ho_val rfl rfl (ex_load_row rfl 1 rfl rfl Tryd.underlying25 rfl (by rw [size25, vbs_size, hO])) ?_
          refine ho_do rfl rfl (exw_store_row2 rfl rfl (by rw [size25, vbs_size, hO]) (by rw [vbs_size, vbs_size, hO]; rfl) (vbs_one _)) (fun _ _ => ?_)
          refine ho_nil ?_
          refine hk_then_code ?_
          refine hl_ret ?_
          exact hk_ret_row rfl rfl 2 rfl rfl Tryd.underlying25 rfl (by rw [size25, vbs_size, hO]) (fun w' hw' => ⟨by rw [last_sha hE (k := k) (by omega)], hw'.below⟩)

end Go.Proofs.YtdmagjelmhcemaaDoor
