/- What the digest's New and Write do. -/
import Derived.Test.YtdmagjelmhcemaaDoorRows
import Derived.Test.YtdmagjelmhcemaaDoorFacts
import Derived.Test.YtdmagjelmhcemaaDoorSha
import Derived.Test.YtdmagjelmhcemaaDoorTextLaw2
import Derived.Test.YtdmagjelmhcemaaDoorSha2
import Derived.Test.YtdmagjelmhcemaaDoorHash
import Derived.Test.YtdmagjelmhcemaaDoorG
import Derived.Test.YtdmagjelmhcemaaDoorMix
import Derived.KernelRfl
namespace Go.Proofs.YtdmagjelmhcemaaDoor
open Go.RowKit
set_option linter.unusedVariables false
set_option linter.unusedSimpArgs false

set_option maxHeartbeats 400000 in
theorem new_any (w : World) (hH : Sl w (some ⟨2, 0, none⟩) (tH.map vw)) :
    Calls Tryd.prog 19 #[] w fun e w' => ∃ g, e = .returned (.pointer (some ⟨g, 0, none⟩)) ∧ Hp w [] [⟨some g, hblk tH (List.replicate 64 0) 0, 67, (0, 0)⟩] w' := by
  refine calls_enter (n := 4) (hs := []) (M := []) (vs := []) Tryd.func19 rfl rfl rfl (Hp.start w) ?_
  refine hl_seq ?_
  refine hl_region ?_
  refine ho_val rfl rfl (ex_assign rfl) ?_
  refine ho_nil ?_
  refine hk_then_code ?_
  refine hl_seq ?_
  refine hl_region ?_
  refine ho_val rfl rfl (ex_load_agg (xs := tH.map vw) rfl (fun w' hw' => hH.old0 hw') Tryd.underlying62 rfl size62) ?_
  refine ho_val rfl rfl (ex_build_run (ps := [(0, .agg (vws tH))]) (v := .agg (hblk tH (List.replicate 64 0) 0)) (fun a ha => by have h := ha.ev (x := .tmp 1) (v := .agg (vws tH)) rfl; simp [h]) (fun w => by kernel_rfl)) ?_
  refine ho_do rfl rfl (exw_box_agg rfl) (fun b3 hb3 => ?_)
  refine ho_val rfl rfl (ex_assign rfl) ?_
  refine ho_nil ?_
  refine hk_then_code ?_
  refine hl_ret ?_
  exact hk_ret rfl rfl (fun w' hw' => ⟨b3, rfl, hw'⟩)

set_option maxHeartbeats 1600000 in
theorem write_any (m p : List UInt8) (S : List UInt32) (R : List UInt8) (n : Nat) (hn : p.length = n) (hst : HSt m S R) (g et : Nat) (q : Option Addr) (c : Nat) (hq : q = none → p.length = 0) (hc : q = none → c = 0) (hcap : p.length ≤ c) (hl : m.length + p.length ≤ 1152921504606846976) (w : World) (h0 : w.heap[g]? = some (.cells (hblk S R m.length) et (0, 0))) (hS : Sk w [g] q (p.map vb)) (hK : Sl w (some ⟨3, 0, none⟩) (tK.map vw)) (hg3 : 3 ≠ g) :
    Calls Tryd.prog 21 #[Value.pointer (some ⟨g, 0, none⟩), slv q n c] w fun e w' => ∃ S' R', HSt (m ++ p) S' R' ∧ e = .returned (.int .i64 0) ∧ Hp w [g] [⟨some g, hblk S' R' (m ++ p).length, et, (0, 0)⟩] w' := by
  subst hn
  have hS8 := hst.len
  have hR8 := hst.r
  have hZ : ∀ k, (blocksTo tK tH (m ++ p) k).length = 8 := fun k => blocksTo_length _ _ _ rfl k
  have hne : q = none → p.length = 0 ∧ c = 0 := fun h => ⟨hq h, hc h⟩
  refine calls_enter (n := 72) (hs := [⟨some g, hblk S R m.length, et, (0, 0)⟩]) (M := [g]) (vs := [Value.pointer (some ⟨g, 0, none⟩), slv q p.length c]) Tryd.func21 rfl rfl rfl (Hp.mine w g _ _ h0) ?_
  refine hl_seq ?_
  refine hl_region ?_
  refine ho_val rfl rfl (ex_assign rfl) ?_
  refine ho_nil ?_
  refine hk_then_code ?_
  refine hl_seq ?_
  refine hl_seq ?_
  refine hl_region ?_
  refine ho_val rfl rfl (ex_move rfl) ?_
  refine ho_val rfl rfl (ex_eql_ptr rfl rfl Tryd.underlying34 rfl) ?_
  refine ho_nil ?_
  refine hk_then_code ?_
  refine hl_false rfl ?_
  refine hl_skip ?_
  refine hk_then_code ?_
  refine hl_seq ?_
  refine hl_seq ?_
  refine hl_region ?_
  refine ho_val rfl rfl (ex_move rfl) ?_
  refine ho_val rfl rfl (ex_len_slice rfl Tryd.underlying22) ?_
  refine ho_val rfl rfl (ex_move rfl) ?_
  refine ho_val rfl rfl (ex_nilCheck rfl) ?_
  refine ho_val rfl rfl (ex_field_addr rfl Tryd.underlying67 rfl size3 rfl) ?_
  refine ho_val rfl rfl (ex_load rfl 0 rfl rfl (hblk_n _ hS8 hR8) Tryd.underlying3 rfl) ?_
  refine ho_val rfl rfl (ex_subN (p := 1152921504606846976) rfl rfl (by omega) (by omega)) ?_
  refine ho_val rfl rfl (ex_gtr rfl rfl rfl) ?_
  refine ho_nil ?_
  refine hk_then_code ?_
  refine hl_if rfl (fun hc1 => ?_) (fun hc1 => ?_)
  · try simp only [decide_eq_true_eq, decide_eq_false_iff_not, beq_iff_eq, beq_eq_false_iff_ne, bne_iff_ne, bne_eq_false_iff_eq, ne_eq, Int.not_lt, Int.not_le, gt_iff_lt, ge_iff_le] at hc1
    exact absurd hc1 (by omega)
  · try simp only [decide_eq_true_eq, decide_eq_false_iff_not, beq_iff_eq, beq_eq_false_iff_ne, bne_iff_ne, bne_eq_false_iff_eq, ne_eq, Int.not_lt, Int.not_le, gt_iff_lt, ge_iff_le] at hc1
    refine hl_skip ?_
    refine hk_then_code ?_
    refine hl_seq ?_
    refine hl_region ?_
    refine ho_val rfl rfl (ex_move rfl) ?_
    refine ho_val rfl rfl (ex_nilCheck rfl) ?_
    refine ho_val rfl rfl (ex_field_addr rfl Tryd.underlying67 rfl size3 rfl) ?_
    refine ho_val rfl rfl (ex_load rfl 0 rfl rfl (hblk_n _ hS8 hR8) Tryd.underlying3 rfl) ?_
    refine ho_val rfl rfl (ex_remN (q := 64) rfl rfl (by omega) (by omega)) ?_
    refine ho_val rfl rfl (ex_assign rfl) ?_
    refine ho_nil ?_
    refine hk_then_code ?_
    refine hl_seq ?_
    refine hl_region ?_
    refine ho_val rfl rfl (ex_move rfl) ?_
    refine ho_val rfl rfl (ex_nilCheck rfl) ?_
    refine ho_val rfl rfl (ex_field_addr rfl Tryd.underlying67 rfl size3 rfl) ?_
    refine ho_val rfl rfl (ex_load rfl 0 rfl rfl (hblk_n _ hS8 hR8) Tryd.underlying3 rfl) ?_
    refine ho_val rfl rfl (ex_move rfl) ?_
    refine ho_val rfl rfl (ex_len_slice rfl Tryd.underlying22) ?_
    refine ho_val rfl rfl (ex_addN rfl rfl (by omega)) ?_
    refine ho_val rfl rfl (ex_nilCheck rfl) ?_
    refine ho_val rfl rfl (ex_field_addr rfl Tryd.underlying67 rfl size3 rfl) ?_
    refine ho_do rfl rfl (exw_store0 rfl rfl (hblk_n _ hS8 hR8) rfl size3 (hblk_set _ _ hS8 hR8)) (fun _ _ => ?_)
    refine ho_nil ?_
    refine hk_then_code ?_
    refine hl_seq ?_
    refine hl_seq ?_
    refine hl_region ?_
    refine ho_val rfl rfl (ex_move rfl) ?_
    refine ho_val rfl rfl (ex_gtr rfl rfl rfl) ?_
    refine ho_nil ?_
    refine hk_then_code ?_
    refine hl_if rfl (fun hc2 => ?_) (fun hc2 => ?_)
    · try simp only [decide_eq_true_eq, decide_eq_false_iff_not, beq_iff_eq, beq_eq_false_iff_ne, bne_iff_ne, bne_eq_false_iff_eq, ne_eq, Int.not_lt, Int.not_le, gt_iff_lt, ge_iff_le] at hc2
      refine hl_seq ?_
      refine hl_region ?_
      refine ho_val rfl rfl (ex_move rfl) ?_
      refine ho_val rfl rfl (ex_nilCheck rfl) ?_
      refine ho_val rfl rfl (ex_field_addr rfl Tryd.underlying67 rfl size53 rfl) ?_
      refine ho_val rfl rfl (ex_move rfl) ?_
      refine ho_val rfl rfl (ex_slice_arr_lo1 rfl rfl Tryd.underlying53 size5 (by omega)) ?_
      refine ho_val rfl rfl (ex_move rfl) ?_
      refine ho_do rfl rfl (exw_copy0 (g := g) (o := 8 + m.length % 64) (m := 64 - m.length % 64) (c := 64 - m.length % 64) rfl rfl (fun w' hw' => take_sl (64 - m.length % 64) (hS _ w' hw')) (by rw [List.length_map, List.length_take]; exact Nat.min_comm _ _) (map_vb_one _) Tryd.underlying22 size5 (by rw [hblk_size _ hS8 hR8, List.length_map, List.length_take]; omega) hne (nk := min p.length (64 - m.length % 64)) (by rw [List.length_map, List.length_take]; exact Nat.min_comm _ _) (hblk_copy _ _ _ hS8 hR8 (by rw [List.length_take]; omega))) (fun _ _ => ?_)
      refine ho_val rfl rfl (ex_assign rfl) ?_
      refine ho_nil ?_
      refine hk_then_code ?_
      refine hl_seq ?_
      refine hl_region ?_
      refine ho_val rfl rfl (ex_move rfl) ?_
      refine ho_val rfl rfl (ex_move rfl) ?_
      refine ho_val rfl rfl (ex_slice_lo rfl rfl Tryd.underlying22 _ size5 (by omega) hcap) ?_
      refine ho_val rfl rfl (ex_assign rfl) ?_
      refine ho_nil ?_
      refine hk_then_code ?_
      refine hl_seq ?_
      refine hl_seq ?_
      refine hl_region ?_
      refine ho_val rfl rfl (ex_move rfl) ?_
      refine ho_val rfl rfl (ex_move rfl) ?_
      refine ho_val rfl rfl (ex_addN rfl rfl (by omega)) ?_
      refine ho_val rfl rfl (ex_lss rfl rfl rfl) ?_
      refine ho_nil ?_
      refine hk_then_code ?_
      refine hl_if rfl (fun hc3 => ?_) (fun hc3 => ?_)
      · try simp only [decide_eq_true_eq, decide_eq_false_iff_not, beq_iff_eq, beq_eq_false_iff_ne, bne_iff_ne, bne_eq_false_iff_eq, ne_eq, Int.not_lt, Int.not_le, gt_iff_lt, ge_iff_le] at hc3
        refine hl_seq ?_
        refine hl_region ?_
        refine ho_val rfl rfl (ex_assign rfl) ?_
        refine ho_nil ?_
        refine hk_then_code ?_
        refine hl_ret ?_
        refine hk_then_ret ?_
        refine hk_then_ret ?_
        exact hk_ret rfl rfl (fun w' hw' => ⟨_, _, hst.small (p := p) (by omega), rfl, by rw [List.length_append]; rw [List.take_of_length_le (l := p) (by omega)] at hw'; exact hw'⟩)
      · try simp only [decide_eq_true_eq, decide_eq_false_iff_not, beq_iff_eq, beq_eq_false_iff_ne, bne_iff_ne, bne_eq_false_iff_eq, ne_eq, Int.not_lt, Int.not_le, gt_iff_lt, ge_iff_le] at hc3
        refine hl_skip ?_
        refine hk_then_code ?_
        refine hl_held _ (by kernel_rfl) (by decide) .nil ?_
        refine ha_take 0 rfl (by kernel_rfl) (by kernel_rfl) (by kernel_rfl) (fun _ _ _ h => h) rfl rfl (ex_move rfl) ?_
        refine ha_take 1 rfl (by kernel_rfl) (by kernel_rfl) (by kernel_rfl) (fun _ _ _ h => h) rfl rfl (ex_nilCheck rfl) ?_
        refine ha_take 2 rfl (by kernel_rfl) (by kernel_rfl) (by kernel_rfl) (fun _ _ _ h => h) rfl rfl (ex_field_addr rfl Tryd.underlying67 rfl size62 rfl) ?_
        refine ha_take 3 rfl (by kernel_rfl) (by kernel_rfl) (by kernel_rfl) (fun _ _ _ h => h) rfl rfl (ex_move rfl) ?_
        refine ha_take 4 rfl (by kernel_rfl) (by kernel_rfl) (by kernel_rfl) (fun _ _ _ h => h) rfl rfl (ex_nilCheck rfl) ?_
        refine ha_take 5 rfl (by kernel_rfl) (by kernel_rfl) (by kernel_rfl) (fun _ _ _ h => h) rfl rfl (ex_field_addr rfl Tryd.underlying67 rfl size53 rfl) ?_
        refine ha_take 6 rfl (by kernel_rfl) (by kernel_rfl) (by kernel_rfl) (fun _ _ _ h => h) rfl rfl (ex_slice_arr rfl Tryd.underlying53 _ size5) ?_
        refine ha_do 7 rfl (by kernel_rfl) (fun a _ => wanted_none rfl a) rfl (exw_call Tryd.func40 rfl (by kernel_rfl) rfl (val := fun _ : Unit => .tuple #[]) (hs' := fun _ => ⟨some g, hblk (compress tK S (R.take (m.length % 64) ++ p.take (64 - m.length % 64) ++ R.drop (m.length % 64 + (p.take (64 - m.length % 64)).length))) (R.take (m.length % 64) ++ p.take (64 - m.length % 64) ++ R.drop (m.length % 64 + (p.take (64 - m.length % 64)).length)) (m.length + p.length), et, (0, 0)⟩ :: _) (pre := fun _ => True) (fun w' hw' => (mix_any S hst.len _ et g (some ⟨g, 8, none⟩) 64 (R.take (m.length % 64) ++ p.take (64 - m.length % 64) ++ R.drop (m.length % 64 + (p.take (64 - m.length % 64)).length)) (rest_length _ _ hR8 (by rw [List.length_take]; omega)) w' (Sl.own hw' 0 rfl rfl (hblk_rest _ hS8)) (hw'.own _ List.mem_cons_self g rfl) (hK.old hw' (fun q hq => by obtain rfl := Option.some.inj hq; simpa using hg3)) hg3).mono fun e w2 ⟨h1, h2⟩ => ⟨(), trivial, h1, hw'.comp (A := [_]) (fun g hg => ⟨_, List.mem_cons_self, by rw [List.mem_singleton.1 hg]⟩) h2⟩)) (by decide) (fun _ _ => .nil) (fun _ _ => ?_)
        refine ha_done (by kernel_rfl) ?_
        refine hk_then_code ?_
        refine hl_seq ?_
        refine hl_block ?_
        refine hl_loop (G := Nat × Option Addr × Nat × Nat × List UInt8) (fun z => p.length - z.1) (fun z => 64 * z.2.2.2.1 = m.length + z.1 ∧ z.1 ≤ p.length ∧ z.2.2.2.2.length = 64 ∧ (z.2.1 = none → p.length - z.1 = 0 ∧ z.2.2.1 = 0) ∧ p.length - z.1 ≤ z.2.2.1 ∧ Sk w [g] z.2.1 ((p.drop z.1).map vb)) (fun z => [(0, .pointer (some ⟨g, 0, none⟩)), (1, slv z.2.1 (p.length - z.1) z.2.2.1)]) (fun z => [⟨some g, hblk (blocksTo tK tH (m ++ p) z.2.2.2.1) z.2.2.2.2 (m.length + p.length), et, (0, 0)⟩]) (min p.length (64 - m.length % 64), cut q c (min p.length (64 - m.length % 64)) 1, c - (min p.length (64 - m.length % 64)), m.length / 64 + 1, (R.take (m.length % 64) ++ p.take (64 - m.length % 64) ++ R.drop (m.length % 64 + (p.take (64 - m.length % 64)).length))) ⟨by dsimp only; omega, by dsimp only; omega, rest_length _ _ hR8 (by rw [List.length_take]; omega), fun h => by have := hne (cut_none h); dsimp only; omega, by dsimp only; omega, fun hs w' h => by have := drop_sl (l := p) (i := 0) (min p.length (64 - m.length % 64)) (hS hs w' h) hcap; rw [Nat.zero_add] at this; exact this⟩ ⟨rfl, rfl, trivial⟩ _ (by decide) (.cons 0 (by rw [← hst.fill (p := p) (by omega)]; rfl) .nil) (fun z ⟨hz1, hz2, hzR, hzn, hzc, hz⟩ => ?_)
        refine hl_seq ?_
        refine hl_seq ?_
        refine hl_region ?_
        refine ho_val rfl rfl (ex_move rfl) ?_
        refine ho_val rfl rfl (ex_len_slice rfl Tryd.underlying22) ?_
        refine ho_val rfl rfl (ex_geq rfl rfl rfl) ?_
        refine ho_nil ?_
        refine hk_then_code ?_
        refine hl_if rfl (fun hc4 => ?_) (fun hc4 => ?_)
        · try simp only [decide_eq_true_eq, decide_eq_false_iff_not, beq_iff_eq, beq_eq_false_iff_ne, bne_iff_ne, bne_eq_false_iff_eq, ne_eq, Int.not_lt, Int.not_le, gt_iff_lt, ge_iff_le] at hc4
          have hz5 : 64 + z.1 ≤ p.length := by omega
          refine hl_skip ?_
          refine hk_then_code ?_
          refine hl_block ?_
          refine hl_seq ?_
          refine hl_held _ (by kernel_rfl) (by decide) .nil ?_
          refine ha_take 0 rfl (by kernel_rfl) (by kernel_rfl) (by kernel_rfl) (fun _ _ _ h => h) rfl rfl (ex_move rfl) ?_
          refine ha_take 1 rfl (by kernel_rfl) (by kernel_rfl) (by kernel_rfl) (fun _ _ _ h => h) rfl rfl (ex_nilCheck rfl) ?_
          refine ha_take 2 rfl (by kernel_rfl) (by kernel_rfl) (by kernel_rfl) (fun _ _ _ h => h) rfl rfl (ex_field_addr rfl Tryd.underlying67 rfl size62 rfl) ?_
          refine ha_take 3 rfl (by kernel_rfl) (by kernel_rfl) (by kernel_rfl) (fun _ _ _ h => h) rfl rfl (ex_move rfl) ?_
          refine ha_take 4 rfl (by kernel_rfl) (by kernel_rfl) (by kernel_rfl) (fun _ _ _ h => h) rfl rfl (ex_slice_hi (j := 64) rfl rfl Tryd.underlying22 _ size5 (by omega)) ?_
          refine ha_do 5 rfl (by kernel_rfl) (fun a _ => wanted_none rfl a) rfl (exw_call Tryd.func40 rfl (by kernel_rfl) rfl (val := fun _ : Unit => .tuple #[]) (hs' := fun _ => ⟨some g, hblk (compress tK (blocksTo tK tH (m ++ p) z.2.2.2.1) ((p.drop z.1).take 64)) z.2.2.2.2 (m.length + p.length), et, (0, 0)⟩ :: _) (pre := fun _ => True) (fun w' hw' => (mix_any (blocksTo tK tH (m ++ p) z.2.2.2.1) (blocksTo_length _ _ _ rfl _) _ et g z.2.1 z.2.2.1 ((p.drop z.1).take 64) (by rw [List.length_take, List.length_drop]; omega) w' (take_sl 64 (hz _ w' hw')) (hw'.own _ List.mem_cons_self g rfl) (hK.old hw' (fun q hq => by obtain rfl := Option.some.inj hq; simpa using hg3)) hg3).mono fun e w2 ⟨h1, h2⟩ => ⟨(), trivial, h1, hw'.comp (A := [_]) (fun g hg => ⟨_, List.mem_cons_self, by rw [List.mem_singleton.1 hg]⟩) h2⟩)) (by decide) (fun _ _ => .nil) (fun _ _ => ?_)
          refine ha_done (by kernel_rfl) ?_
          refine hk_then_code ?_
          refine hl_region ?_
          refine ho_val rfl rfl (ex_move rfl) ?_
          refine ho_val rfl rfl (ex_slice_lo (i := 64) rfl rfl Tryd.underlying22 _ size5 (by omega) (by omega)) ?_
          refine ho_val rfl rfl (ex_assign rfl) ?_
          refine ho_nil ?_
          refine hk_block_normal ?_
          refine hk_then_normal ?_
          exact hk_round (z.1 + 64, cut z.2.1 z.2.2.1 64 1, z.2.2.1 - 64, z.2.2.2.1 + 1, z.2.2.2.2) ⟨by dsimp only; omega, by dsimp only; omega, hzR, fun h => by have := hzn (cut_none h); dsimp only; omega, by dsimp only; omega, fun hs w' h => drop_sl 64 (hz hs w' h) hzc⟩ (by dsimp only; omega) ⟨rfl, (by rw [show p.length - (z.1 + 64) = p.length - z.1 - 64 by omega]; rfl), trivial⟩ _ (by decide) (.cons 0 (by rw [← blocks_step hz1 (by omega)]; rfl) .nil)
        · try simp only [decide_eq_true_eq, decide_eq_false_iff_not, beq_iff_eq, beq_eq_false_iff_ne, bne_iff_ne, bne_eq_false_iff_eq, ne_eq, Int.not_lt, Int.not_le, gt_iff_lt, ge_iff_le] at hc4
          have hz6 : p.length - z.1 < 64 := by omega
          refine hl_exit ?_
          refine hk_then_exit ?_
          refine hk_then_exit ?_
          refine hk_block_hit ?_
          refine hk_then_code ?_
          refine hl_seq ?_
          refine hl_region ?_
          refine ho_val rfl rfl (ex_move rfl) ?_
          refine ho_val rfl rfl (ex_nilCheck rfl) ?_
          refine ho_val rfl rfl (ex_field_addr rfl Tryd.underlying67 rfl size53 rfl) ?_
          refine ho_val rfl rfl (ex_slice_arr rfl Tryd.underlying53 _ size5) ?_
          refine ho_val rfl rfl (ex_move rfl) ?_
          refine ho_do rfl rfl (exw_copy0 (g := g) (o := 8 + 0) (m := 64) (c := 64) rfl rfl (fun w' hw' => hz _ w' hw') (by rw [List.length_map, List.length_drop]; exact (Nat.min_eq_left (by omega)).symm) (map_vb_one _) Tryd.underlying22 size5 (by rw [hblk_size _ (hZ _) hzR, List.length_map, List.length_drop]; omega) hzn (by rw [List.length_map, List.length_drop]) (hblk_copy _ _ _ (hZ _) hzR (by rw [List.length_drop]; omega))) (fun _ _ => ?_)
          refine ho_nil ?_
          refine hk_then_code ?_
          refine hl_seq ?_
          refine hl_region ?_
          refine ho_val rfl rfl (ex_assign rfl) ?_
          refine ho_nil ?_
          refine hk_then_code ?_
          refine hl_ret ?_
          exact hk_ret rfl rfl (fun w' hw' => ⟨_, _, HSt.last hzR hz1 hz2 hz6, rfl, by rw [List.length_append]; exact hw'⟩)
    · try simp only [decide_eq_true_eq, decide_eq_false_iff_not, beq_iff_eq, beq_eq_false_iff_ne, bne_iff_ne, bne_eq_false_iff_eq, ne_eq, Int.not_lt, Int.not_le, gt_iff_lt, ge_iff_le] at hc2
      refine hl_skip ?_
      refine hk_then_code ?_
      refine hl_seq ?_
      refine hl_block ?_
      refine hl_loop (G := Nat × Option Addr × Nat × Nat × List UInt8) (fun z => p.length - z.1) (fun z => 64 * z.2.2.2.1 = m.length + z.1 ∧ z.1 ≤ p.length ∧ z.2.2.2.2.length = 64 ∧ (z.2.1 = none → p.length - z.1 = 0 ∧ z.2.2.1 = 0) ∧ p.length - z.1 ≤ z.2.2.1 ∧ Sk w [g] z.2.1 ((p.drop z.1).map vb)) (fun z => [(0, .pointer (some ⟨g, 0, none⟩)), (1, slv z.2.1 (p.length - z.1) z.2.2.1)]) (fun z => [⟨some g, hblk (blocksTo tK tH (m ++ p) z.2.2.2.1) z.2.2.2.2 (m.length + p.length), et, (0, 0)⟩]) (0, q, c, m.length / 64, R) ⟨by dsimp only; omega, Nat.zero_le _, hR8, hne, hcap, hS⟩ ⟨rfl, rfl, trivial⟩ _ (by decide) (.cons 0 (by rw [← HSt.zero (p := p) hst]; rfl) .nil) (fun z ⟨hz1, hz2, hzR, hzn, hzc, hz⟩ => ?_)
      refine hl_seq ?_
      refine hl_seq ?_
      refine hl_region ?_
      refine ho_val rfl rfl (ex_move rfl) ?_
      refine ho_val rfl rfl (ex_len_slice rfl Tryd.underlying22) ?_
      refine ho_val rfl rfl (ex_geq rfl rfl rfl) ?_
      refine ho_nil ?_
      refine hk_then_code ?_
      refine hl_if rfl (fun hc5 => ?_) (fun hc5 => ?_)
      · try simp only [decide_eq_true_eq, decide_eq_false_iff_not, beq_iff_eq, beq_eq_false_iff_ne, bne_iff_ne, bne_eq_false_iff_eq, ne_eq, Int.not_lt, Int.not_le, gt_iff_lt, ge_iff_le] at hc5
        have hz5 : 64 + z.1 ≤ p.length := by omega
        refine hl_skip ?_
        refine hk_then_code ?_
        refine hl_block ?_
        refine hl_seq ?_
        refine hl_held _ (by kernel_rfl) (by decide) .nil ?_
        refine ha_take 0 rfl (by kernel_rfl) (by kernel_rfl) (by kernel_rfl) (fun _ _ _ h => h) rfl rfl (ex_move rfl) ?_
        refine ha_take 1 rfl (by kernel_rfl) (by kernel_rfl) (by kernel_rfl) (fun _ _ _ h => h) rfl rfl (ex_nilCheck rfl) ?_
        refine ha_take 2 rfl (by kernel_rfl) (by kernel_rfl) (by kernel_rfl) (fun _ _ _ h => h) rfl rfl (ex_field_addr rfl Tryd.underlying67 rfl size62 rfl) ?_
        refine ha_take 3 rfl (by kernel_rfl) (by kernel_rfl) (by kernel_rfl) (fun _ _ _ h => h) rfl rfl (ex_move rfl) ?_
        refine ha_take 4 rfl (by kernel_rfl) (by kernel_rfl) (by kernel_rfl) (fun _ _ _ h => h) rfl rfl (ex_slice_hi (j := 64) rfl rfl Tryd.underlying22 _ size5 (by omega)) ?_
        refine ha_do 5 rfl (by kernel_rfl) (fun a _ => wanted_none rfl a) rfl (exw_call Tryd.func40 rfl (by kernel_rfl) rfl (val := fun _ : Unit => .tuple #[]) (hs' := fun _ => ⟨some g, hblk (compress tK (blocksTo tK tH (m ++ p) z.2.2.2.1) ((p.drop z.1).take 64)) z.2.2.2.2 (m.length + p.length), et, (0, 0)⟩ :: _) (pre := fun _ => True) (fun w' hw' => (mix_any (blocksTo tK tH (m ++ p) z.2.2.2.1) (blocksTo_length _ _ _ rfl _) _ et g z.2.1 z.2.2.1 ((p.drop z.1).take 64) (by rw [List.length_take, List.length_drop]; omega) w' (take_sl 64 (hz _ w' hw')) (hw'.own _ List.mem_cons_self g rfl) (hK.old hw' (fun q hq => by obtain rfl := Option.some.inj hq; simpa using hg3)) hg3).mono fun e w2 ⟨h1, h2⟩ => ⟨(), trivial, h1, hw'.comp (A := [_]) (fun g hg => ⟨_, List.mem_cons_self, by rw [List.mem_singleton.1 hg]⟩) h2⟩)) (by decide) (fun _ _ => .nil) (fun _ _ => ?_)
        refine ha_done (by kernel_rfl) ?_
        refine hk_then_code ?_
        refine hl_region ?_
        refine ho_val rfl rfl (ex_move rfl) ?_
        refine ho_val rfl rfl (ex_slice_lo (i := 64) rfl rfl Tryd.underlying22 _ size5 (by omega) (by omega)) ?_
        refine ho_val rfl rfl (ex_assign rfl) ?_
        refine ho_nil ?_
        refine hk_block_normal ?_
        refine hk_then_normal ?_
        exact hk_round (z.1 + 64, cut z.2.1 z.2.2.1 64 1, z.2.2.1 - 64, z.2.2.2.1 + 1, z.2.2.2.2) ⟨by dsimp only; omega, by dsimp only; omega, hzR, fun h => by have := hzn (cut_none h); dsimp only; omega, by dsimp only; omega, fun hs w' h => drop_sl 64 (hz hs w' h) hzc⟩ (by dsimp only; omega) ⟨rfl, (by rw [show p.length - (z.1 + 64) = p.length - z.1 - 64 by omega]; rfl), trivial⟩ _ (by decide) (.cons 0 (by rw [← blocks_step hz1 (by omega)]; rfl) .nil)
      · try simp only [decide_eq_true_eq, decide_eq_false_iff_not, beq_iff_eq, beq_eq_false_iff_ne, bne_iff_ne, bne_eq_false_iff_eq, ne_eq, Int.not_lt, Int.not_le, gt_iff_lt, ge_iff_le] at hc5
        have hz6 : p.length - z.1 < 64 := by omega
        refine hl_exit ?_
        refine hk_then_exit ?_
        refine hk_then_exit ?_
        refine hk_block_hit ?_
        refine hk_then_code ?_
        refine hl_seq ?_
        refine hl_region ?_
        refine ho_val rfl rfl (ex_move rfl) ?_
        refine ho_val rfl rfl (ex_nilCheck rfl) ?_
        refine ho_val rfl rfl (ex_field_addr rfl Tryd.underlying67 rfl size53 rfl) ?_
        refine ho_val rfl rfl (ex_slice_arr rfl Tryd.underlying53 _ size5) ?_
        refine ho_val rfl rfl (ex_move rfl) ?_
        refine ho_do rfl rfl (exw_copy0 (g := g) (o := 8 + 0) (m := 64) (c := 64) rfl rfl (fun w' hw' => hz _ w' hw') (by rw [List.length_map, List.length_drop]; exact (Nat.min_eq_left (by omega)).symm) (map_vb_one _) Tryd.underlying22 size5 (by rw [hblk_size _ (hZ _) hzR, List.length_map, List.length_drop]; omega) hzn (by rw [List.length_map, List.length_drop]) (hblk_copy _ _ _ (hZ _) hzR (by rw [List.length_drop]; omega))) (fun _ _ => ?_)
        refine ho_nil ?_
        refine hk_then_code ?_
        refine hl_seq ?_
        refine hl_region ?_
        refine ho_val rfl rfl (ex_assign rfl) ?_
        refine ho_nil ?_
        refine hk_then_code ?_
        refine hl_ret ?_
        exact hk_ret rfl rfl (fun w' hw' => ⟨_, _, HSt.last hzR hz1 hz2 hz6, rfl, by rw [List.length_append]; exact hw'⟩)

end Go.Proofs.YtdmagjelmhcemaaDoor
