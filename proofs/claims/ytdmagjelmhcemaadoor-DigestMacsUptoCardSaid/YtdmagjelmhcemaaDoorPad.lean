/- The document's padding of a message. -/
import Derived.Test.YtdmagjelmhcemaaDoorRows
import Derived.Test.YtdmagjelmhcemaaDoorFacts
import Derived.Test.YtdmagjelmhcemaaDoorSha
import Derived.Test.YtdmagjelmhcemaaDoorTextLaw2
import Derived.KernelRfl
import Derived.Test.YtdmagjelmhcemaaDoorMix
import Derived.Test.YtdmagjelmhcemaaDoorSha2
namespace Go.Proofs.YtdmagjelmhcemaaDoor
open Go.RowKit
set_option linter.unusedVariables false
set_option linter.unusedSimpArgs false

set_option maxHeartbeats 400000 in
theorem rpad_any (m : List UInt8) (n : Nat) (hn : m.length = n) (p : Option (Nat × Nat)) (c : Nat) (hp : p = none → m.length = 0) (hc : p = none → c = 0) (hl : m.length ≤ 4194304) (w : World) (hS : Sl w p (m.map vb)) :
    Calls Tryd.prog 38 #[slv p n c] w fun e w' => ∃ g c' r, RowOk 1 (some g) (padm m).length c' ((padm m).map vb) r ∧ e = .returned (rowv (some g) (padm m).length c') ∧ Hp w [] [⟨some g, vrow (padm m) r, 5, (0, 0)⟩] w' := by
  subst hn
  have hne : p = none → m.length = 0 ∧ c = 0 := fun h => ⟨hp h, hc h⟩
  refine calls_enter (n := 37) (hs := []) (M := []) (vs := [slv p m.length c]) Tryd.func38 rfl rfl rfl (Hp.start w) ?_
  refine hl_seq ?_
  refine hl_region ?_
  refine ho_val rfl rfl (ex_assign rfl) ?_
  refine ho_nil ?_
  refine hk_then_code ?_
  refine hl_seq ?_
  refine hl_region ?_
  refine ho_val rfl rfl (ex_assign rfl) ?_
  refine ho_nil ?_
  refine hk_then_code ?_
  refine hl_seq ?_
  refine hl_region ?_
  refine ho_val rfl rfl (ex_move rfl) ?_
  refine ho_val rfl rfl (ex_move rfl) ?_
  refine ho_nil_block 5 ?_
  refine ho_do rfl rfl (exw_append0 (o := none) (m := 0) (c := 0) (xs := []) (rest := []) rfl rfl rfl (RowOk.start _) (fun w' hw' => hS.old0 hw') (by simp) (map_vb_one _) Tryd.underlying22 info5 rfl (by decide) (by omega) (by simp only [maxLen]; omega) hne) (fun y8 hk8 => ?_)
  refine ho_val rfl rfl (ex_assign rfl) ?_
  refine ho_nil ?_
  refine hk_then_code ?_
  refine hl_seq ?_
  refine hl_region ?_
  refine ho_val rfl rfl (ex_move rfl) ?_
  refine ho_do rfl rfl (exw_list (xs := [.const (.int .u8 128)]) rfl rfl rfl Tryd.underlying22 info5 rfl rfl (by decide)) (fun b10 hb10 => ?_)
  refine ho_pick _ (by decide) (.cons 1 rfl (.cons 0 rfl .nil)) ?_
  refine ho_do rfl rfl (exw_append0 (rest := y8.2.2) rfl rfl rfl hk8 (fun w hw => Sl.ownAll hw 1 rfl) rfl (by simp only [List.mem_cons, List.not_mem_nil, or_false, forall_eq]; rfl) Tryd.underlying22 info5 rfl (by decide) (by omega) (by simp only [maxLen]; omega) (fun h => nomatch h)) (fun y11 hk11 => ?_)
  refine ho_val rfl rfl (ex_assign rfl) ?_
  refine ho_nil ?_
  refine hk_then_code ?_
  refine hl_seq ?_
  refine hl_block ?_
  refine hl_loop (G := Nat × Option Nat × Nat × List Value) (fun g => (119 - m.length % 64) % 64 - g.1) (fun g => g.1 ≤ (119 - m.length % 64) % 64 ∧ RowOk 1 g.2.1 (m.length + 1 + g.1) g.2.2.1 ((padTo m g.1).map vb) g.2.2.2) (fun g => [(0, slv p m.length c), (3, rowv g.2.1 (m.length + 1 + g.1) g.2.2.1)]) (fun g => [⟨g.2.1, ((padTo m g.1).map vb ++ g.2.2.2).toArray, 5, (0, 0)⟩]) (0, y11.1, y11.2.1, y11.2.2) ⟨Nat.zero_le _, by rw [← padTo_zero]; simpa using hk11⟩ ⟨rfl, (by rw [show m.length + 1 + (0, y11.1, y11.2.1, y11.2.2).1 = 0 + m.length + 1 from by dsimp only; omega]; rfl), trivial⟩ _ (by decide) (.cons 0 (by rw [← padTo_zero]; rfl) .nil) (fun g ⟨hg, hok⟩ => ?_)
  refine hl_seq ?_
  refine hl_seq ?_
  refine hl_region ?_
  refine ho_val rfl rfl (ex_move rfl) ?_
  refine ho_val rfl rfl (ex_len_slice rfl Tryd.underlying22) ?_
  refine ho_val rfl rfl (ex_remN (q := 64) rfl rfl (by omega) (by omega)) ?_
  refine ho_val rfl rfl (ex_neq rfl rfl rfl) ?_
  refine ho_nil ?_
  refine hk_then_code ?_
  refine hl_if rfl (fun hc0 => ?_) (fun hc0 => ?_)
  · try simp only [decide_eq_true_eq, decide_eq_false_iff_not, beq_iff_eq, beq_eq_false_iff_ne, bne_iff_ne, bne_eq_false_iff_eq, ne_eq, Int.not_lt, Int.not_le, gt_iff_lt, ge_iff_le] at hc0
    have hk : g.1 < (119 - m.length % 64) % 64 := by omega
    refine hl_skip ?_
    refine hk_then_code ?_
    refine hl_block ?_
    refine hl_region ?_
    refine ho_val rfl rfl (ex_move rfl) ?_
    refine ho_do rfl rfl (exw_list (xs := [.const (.int .u8 0)]) rfl rfl rfl Tryd.underlying22 info5 rfl rfl (by decide)) (fun b17 hb17 => ?_)
    refine ho_pick _ (by decide) (.cons 1 rfl (.cons 0 rfl .nil)) ?_
    refine ho_do rfl rfl (exw_append0 (xs := (padTo m g.1).map vb) (rest := g.2.2.2) rfl rfl rfl hok (fun w hw => Sl.ownAll hw 1 rfl) rfl (by simp only [List.mem_cons, List.not_mem_nil, or_false, forall_eq]; rfl) Tryd.underlying22 info5 rfl (by decide) (by omega) (by simp only [maxLen]; omega) (fun h => nomatch h)) (fun y18 hk18 => ?_)
    refine ho_val rfl rfl (ex_assign rfl) ?_
    refine ho_nil ?_
    refine hk_block_normal ?_
    refine hk_then_normal ?_
    exact hk_round (g.1 + 1, y18.1, y18.2.1, y18.2.2) ⟨by dsimp only; omega, by rw [← padTo_step]; exact hk18⟩ (by dsimp only; omega) ⟨rfl, rfl, trivial⟩ _ (by decide) (.cons 0 (by rw [← padTo_step]; rfl) .nil)
  · try simp only [decide_eq_true_eq, decide_eq_false_iff_not, beq_iff_eq, beq_eq_false_iff_ne, bne_iff_ne, bne_eq_false_iff_eq, ne_eq, Int.not_lt, Int.not_le, gt_iff_lt, ge_iff_le] at hc0
    have hk : g.1 = (119 - m.length % 64) % 64 := by omega
    refine hl_exit ?_
    refine hk_then_exit ?_
    refine hk_then_exit ?_
    refine hk_block_hit ?_
    refine hk_then_code ?_
    refine hl_seq ?_
    refine hl_region ?_
    refine ho_val rfl rfl (ex_move rfl) ?_
    refine ho_val rfl rfl (ex_len_slice rfl Tryd.underlying22) ?_
    refine ho_val rfl rfl (ex_convN rfl Tryd.underlying3 Tryd.underlying73 (by simp only [cap]; omega)) ?_
    refine ho_val rfl rfl (ex_mulK (q := 8) rfl rfl (by simp only [cap]; omega)) ?_
    refine ho_val rfl rfl (ex_assign rfl) ?_
    refine ho_nil ?_
    refine hk_then_code ?_
    refine hl_seq ?_
    refine hl_seq ?_
    refine hl_region ?_
    refine ho_val rfl rfl (ex_assign rfl) ?_
    refine ho_nil ?_
    refine hk_then_code ?_
    refine hl_block ?_
    refine hl_loop (G := Nat × Option Nat × Nat × List Value) (fun q => 8 - q.1) (fun q => q.1 ≤ 8 ∧ RowOk 1 q.2.1 (m.length + 1 + (119 - m.length % 64) % 64 + q.1) q.2.2.1 ((padTo2 m q.1).map vb) q.2.2.2) (fun q => [(3, rowv q.2.1 (m.length + 1 + (119 - m.length % 64) % 64 + q.1) q.2.2.1), (4, .int .u64 (m.length * 8 : Nat)), (5, .int .i64 ((7 : Int) - (q.1 : Int)))]) (fun q => [⟨q.2.1, ((padTo2 m q.1).map vb ++ q.2.2.2).toArray, 5, (0, 0)⟩]) (0, g.2.1, g.2.2.1, g.2.2.2) ⟨Nat.zero_le _, by have h := hok; rw [hk] at h; simpa [padTo2] using h⟩ ⟨(by rw [← hk]; rfl), rfl, rfl, trivial⟩ _ (by decide) (.cons 0 (by simp only [padTo2, List.take_zero, List.append_nil]; rw [← hk]; rfl) .nil) (fun q ⟨hq, hqk⟩ => ?_)
    refine hl_seq ?_
    refine hl_seq ?_
    refine hl_region ?_
    refine ho_val rfl rfl (ex_move rfl) ?_
    refine ho_val rfl rfl (ex_geq rfl rfl rfl) ?_
    refine ho_nil ?_
    refine hk_then_code ?_
    refine hl_if rfl (fun hc1 => ?_) (fun hc1 => ?_)
    · try simp only [decide_eq_true_eq, decide_eq_false_iff_not, beq_iff_eq, beq_eq_false_iff_ne, bne_iff_ne, bne_eq_false_iff_eq, ne_eq, Int.not_lt, Int.not_le, gt_iff_lt, ge_iff_le] at hc1
      have hj5 : q.1 < 8 := by omega
      refine hl_skip ?_
      refine hk_then_code ?_
      refine hl_seq ?_
      refine hl_block ?_
      refine hl_region ?_
      refine ho_val rfl rfl (ex_move rfl) ?_
      refine ho_val rfl rfl (ex_move rfl) ?_
      refine ho_val rfl rfl (ex_move rfl) ?_
      refine ho_val rfl rfl (ex_mulN (p := 8) (q := 7 - q.1) rfl (by rw [show ((7 - q.1 : Nat) : Int) = (7 : Int) - (q.1 : Int) by omega]; rfl) (by omega)) ?_
      refine ho_val rfl rfl (ex_convN rfl Tryd.underlying3 Tryd.underlying65 (by simp only [cap]; omega)) ?_
      refine ho_val rfl rfl (ex_shrN rfl rfl (by simp only [cap]; omega)) ?_
      refine ho_val rfl rfl (ex_conv8 rfl Tryd.underlying73 Tryd.underlying5) ?_
      refine ho_do rfl rfl (exw_list (xs := [.tmp 33]) rfl rfl rfl Tryd.underlying22 info5 rfl rfl (by decide)) (fun b34 hb34 => ?_)
      refine ho_pick _ (by decide) (.cons 1 rfl (.cons 0 rfl .nil)) ?_
      refine ho_do rfl rfl (exw_append0 (xs := (padTo2 m q.1).map vb) (rest := q.2.2.2) rfl rfl rfl hqk (fun w hw => Sl.ownAll hw 1 rfl) rfl (by simp only [List.mem_cons, List.not_mem_nil, or_false, forall_eq]; rfl) Tryd.underlying22 info5 rfl (by decide) (by omega) (by simp only [maxLen]; omega) (fun h => nomatch h)) (fun y35 hk35 => ?_)
      refine ho_val rfl rfl (ex_assign rfl) ?_
      refine ho_nil ?_
      refine hk_block_normal ?_
      refine hk_then_code ?_
      refine hl_region ?_
      refine ho_val rfl rfl (ex_move rfl) ?_
      refine ho_val rfl rfl (ex_sub (r := (7 : Int) - ((q.1 + 1 : Nat) : Int)) rfl rfl (by rw [i64_wrap _ (by omega)]; omega)) ?_
      refine ho_val rfl rfl (ex_assign rfl) ?_
      refine ho_nil ?_
      refine hk_then_normal ?_
      exact hk_round (q.1 + 1, y35.1, y35.2.1, y35.2.2) ⟨by dsimp only; omega, by rw [← padTo2_step m q.1 (by omega)]; exact hk35⟩ (by dsimp only; omega) ⟨rfl, rfl, rfl, trivial⟩ _ (by decide) (.cons 0 (by rw [← padTo2_step m q.1 (by omega)]; rfl) .nil)
    · try simp only [decide_eq_true_eq, decide_eq_false_iff_not, beq_iff_eq, beq_eq_false_iff_ne, bne_iff_ne, bne_eq_false_iff_eq, ne_eq, Int.not_lt, Int.not_le, gt_iff_lt, ge_iff_le] at hc1
      have hj8 : q.1 = 8 := by omega
      refine hl_exit ?_
      refine hk_then_exit ?_
      refine hk_then_exit ?_
      refine hk_block_hit ?_
      refine hk_then_code ?_
      refine hl_seq ?_
      refine hl_region ?_
      refine ho_val rfl rfl (ex_move rfl) ?_
      refine ho_val rfl rfl (ex_assign rfl) ?_
      refine ho_nil ?_
      refine hk_then_code ?_
      refine hl_ret ?_
      exact hk_ret rfl rfl (fun w' hw' => rpad_fin m q hqk hj8 hw')

end Go.Proofs.YtdmagjelmhcemaaDoor
