/- filled and grown, that the laws deal with lists by. -/
import Derived.Test.YtdmagjelmhcemaaRows
import Derived.Test.YtdmagjelmhcemaaFacts
import Derived.Test.YtdmagjelmhcemaaB
import Derived.Test.YtdmagjelmhcemaaTwo
import Derived.Test.YtdmagjelmhcemaaRange
import Derived.Test.YtdmagjelmhcemaaApart
import Derived.KernelRfl
namespace Go.Proofs.Ytdmagjelmhcemaa
open Go.RowKit
set_option linter.unusedVariables false
set_option linter.unusedSimpArgs false

set_option maxHeartbeats 400000 in
theorem filled_any (x : List UInt8) (n : Nat) (hn : x.length = n) (p : Option Addr) (c : Nat) (hp : p = none → x.length = 0) (b : UInt8) (hl : x.length ≤ 4194304) (w : World) (hS : Sl w p (x.map vb)) :
    Calls Try.prog 33 #[slv p n c, vb b] w fun e w' => e = .returned (.bool (x.all (· == b))) ∧ Below w.heap.size w w' := by
  subst hn
  refine calls_enter (n := 18) (hs := []) (M := []) (vs := [slv p x.length c, vb b]) Try.func33 rfl rfl rfl (Hp.start w) ?_
  refine hl_seq ?_
  refine hl_region ?_
  refine ho_val rfl rfl (ex_assign rfl) ?_
  refine ho_nil ?_
  refine hk_then_code ?_
  refine hl_seq ?_
  refine hl_seq ?_
  refine hl_region ?_
  refine ho_val rfl rfl (ex_assign rfl) ?_
  refine ho_nil ?_
  refine hk_then_code ?_
  refine hl_block ?_
  refine hl_loop (G := Nat) (fun k => x.length - k) (fun k => k ≤ x.length ∧ ∀ j, j < k → x.getD j 0 = b) (fun k => [(0, slv p x.length c), (1, vb b), (5, .int .i64 (k : Nat))]) (fun k => []) 0 ⟨Nat.zero_le _, fun j h => absurd h (by omega)⟩ ⟨rfl, rfl, rfl, trivial⟩ _ (by decide) .nil (fun k hg => ?_)
  refine hl_seq ?_
  refine hl_seq ?_
  refine hl_region ?_
  refine ho_val rfl rfl (ex_move rfl) ?_
  refine ho_val rfl rfl (ex_move rfl) ?_
  refine ho_val rfl rfl (ex_len_slice rfl Try.underlying28) ?_
  refine ho_val rfl rfl (ex_lss rfl rfl rfl) ?_
  refine ho_nil ?_
  refine hk_then_code ?_
  refine hl_if rfl (fun hc0 => ?_) (fun hc0 => ?_)
  · try simp only [decide_eq_true_eq, decide_eq_false_iff_not, beq_iff_eq, beq_eq_false_iff_ne, bne_iff_ne, bne_eq_false_iff_eq, ne_eq, Int.not_lt, Int.not_le, gt_iff_lt, ge_iff_le, Bool.not_eq_true', Bool.not_eq_false'] at hc0
    have hk5 : k < x.length := by have := hg.1; omega
    refine hl_skip ?_
    refine hk_then_code ?_
    refine hl_seq ?_
    refine hl_block ?_
    refine hl_seq ?_
    refine hl_region ?_
    refine ho_val rfl rfl (ex_move rfl) ?_
    refine ho_val rfl rfl (ex_move rfl) ?_
    refine ho_val rfl rfl (ex_addr_sl1 rfl rfl Try.underlying28 size5 (by omega) hp) ?_
    refine ho_val rfl rfl (ex_load_sl rfl (fun w' hw' => hS.old0 hw') (map_vb_get _ _ (by omega)) Try.underlying5 rfl) ?_
    refine ho_val rfl rfl (ex_move rfl) ?_
    refine ho_val rfl rfl (ex_neq8 rfl rfl rfl) ?_
    refine ho_nil ?_
    refine hk_then_code ?_
    refine hl_if rfl (fun hc1 => ?_) (fun hc1 => ?_)
    · try simp only [decide_eq_true_eq, decide_eq_false_iff_not, beq_iff_eq, beq_eq_false_iff_ne, bne_iff_ne, bne_eq_false_iff_eq, ne_eq, Int.not_lt, Int.not_le, gt_iff_lt, ge_iff_le, Bool.not_eq_true', Bool.not_eq_false'] at hc1
      refine hl_seq ?_
      refine hl_region ?_
      refine ho_val rfl rfl (ex_assign rfl) ?_
      refine ho_nil ?_
      refine hk_then_code ?_
      refine hl_ret ?_
      refine hk_block_ret ?_
      refine hk_then_ret ?_
      refine hk_then_ret ?_
      refine hk_block_ret ?_
      refine hk_then_ret ?_
      exact hk_ret rfl rfl (fun w' hw' => ⟨by rw [all_not hk5 hc1], hw'.below⟩)
    · try simp only [decide_eq_true_eq, decide_eq_false_iff_not, beq_iff_eq, beq_eq_false_iff_ne, bne_iff_ne, bne_eq_false_iff_eq, ne_eq, Int.not_lt, Int.not_le, gt_iff_lt, ge_iff_le, Bool.not_eq_true', Bool.not_eq_false'] at hc1
      refine hl_skip ?_
      refine hk_block_normal ?_
      refine hk_then_code ?_
      refine hl_region ?_
      refine ho_val rfl rfl (ex_move rfl) ?_
      refine ho_val rfl rfl (ex_addN (q := 1) rfl rfl (by omega)) ?_
      refine ho_val rfl rfl (ex_assign rfl) ?_
      refine ho_nil ?_
      refine hk_then_normal ?_
      exact hk_round (k + 1) ⟨by omega, fun j hj => by rcases Nat.lt_or_ge j k with h | h; exact hg.2 j h; obtain rfl : j = k := (by omega); exact hc1⟩ (by omega) ⟨rfl, rfl, rfl, trivial⟩ _ (by decide) .nil
  · try simp only [decide_eq_true_eq, decide_eq_false_iff_not, beq_iff_eq, beq_eq_false_iff_ne, bne_iff_ne, bne_eq_false_iff_eq, ne_eq, Int.not_lt, Int.not_le, gt_iff_lt, ge_iff_le, Bool.not_eq_true', Bool.not_eq_false'] at hc0
    have hk6 : k = x.length := by have := hg.1; omega
    refine hl_exit ?_
    refine hk_then_exit ?_
    refine hk_then_exit ?_
    refine hk_block_hit ?_
    refine hk_then_code ?_
    refine hl_seq ?_
    refine hl_region ?_
    refine ho_val rfl rfl (ex_assign rfl) ?_
    refine ho_nil ?_
    refine hk_then_code ?_
    refine hl_ret ?_
    exact hk_ret rfl rfl (fun w' hw' => ⟨by rw [all_yes (fun j hj => hg.2 j (by omega))], hw'.below⟩)

set_option maxHeartbeats 400000 in
theorem grown_any (x : List UInt8) (r : List Value) (gx c : Nat) (b : UInt8) (hl : x.length ≤ 4194304) (w : World) (h0 : w.heap[gx]? = some (.cells (vrow x r) 5 (0, 0))) (hr : RowOk 1 (some gx) x.length c (x.map vb) r) :
    Calls Try.prog 32 #[slv (some ⟨gx, 0, none⟩) x.length c, vb b] w fun e w' => ∃ old g' c' r' ro, RowOk 1 (some g') (x.length + 100) c' ((x ++ List.replicate 100 b).map vb) r' ∧ (old = none ∧ g' = gx ∨ old = some gx) ∧ e = .returned (rowv (some g') (x.length + 100) c') ∧ Hp w [gx] [⟨some g', ((x ++ List.replicate 100 b).map vb ++ r').toArray, 5, (0, 0)⟩, ⟨old, (x.map vb ++ ro).toArray, 5, (0, 0)⟩] w' := by
  refine calls_enter (n := 17) (hs := [⟨some gx, vrow x r, 5, (0, 0)⟩]) (M := [gx]) (vs := [slv (some ⟨gx, 0, none⟩) x.length c, vb b]) Try.func32 rfl rfl rfl (Hp.mine w gx _ _ h0) ?_
  refine hl_seq ?_
  refine hl_region ?_
  refine ho_val rfl rfl (ex_assign rfl) ?_
  refine ho_nil ?_
  refine hk_then_code ?_
  refine hl_seq ?_
  refine hl_region ?_
  refine ho_val rfl rfl (ex_move rfl) ?_
  refine ho_val rfl rfl (ex_assign rfl) ?_
  refine ho_nil ?_
  refine hk_then_code ?_
  refine hl_seq ?_
  refine hl_seq ?_
  refine hl_region ?_
  refine ho_val rfl rfl (ex_assign rfl) ?_
  refine ho_nil ?_
  refine hk_then_code ?_
  refine hl_block ?_
  refine hl_none_block ((x.map vb ++ r).toArray) 5 ?_
  refine hl_loop (G := Nat × Option Nat × Nat × Nat × List Value × List Value) (fun z => 100 - z.1) (fun z => z.1 ≤ 100 ∧ RowOk 1 (some z.2.2.1) (x.length + z.1) z.2.2.2.1 ((x ++ List.replicate z.1 b).map vb) z.2.2.2.2.1 ∧ (z.2.1 = none ∧ z.2.2.1 = gx ∨ z.2.1 = some gx)) (fun z => [(1, vb b), (5, rowv (some z.2.2.1) (x.length + z.1) z.2.2.2.1), (6, .int .i64 (z.1 : Nat))]) (fun z => [⟨some z.2.2.1, ((x ++ List.replicate z.1 b).map vb ++ z.2.2.2.2.1).toArray, 5, (0, 0)⟩, ⟨z.2.1, (x.map vb ++ z.2.2.2.2.2).toArray, 5, (0, 0)⟩]) (0, none, gx, c, r, r) ⟨Nat.zero_le _, by simpa using hr, .inl ⟨rfl, rfl⟩⟩ ⟨rfl, rfl, rfl, trivial⟩ _ (by decide) (.cons 1 (by simp only [List.replicate_zero, List.append_nil]; rfl) (.cons 0 rfl .nil)) (fun z ⟨hz, hok, hold⟩ => ?_)
  refine hl_seq ?_
  refine hl_seq ?_
  refine hl_region ?_
  refine ho_val rfl rfl (ex_move rfl) ?_
  refine ho_val rfl rfl (ex_lss rfl rfl rfl) ?_
  refine ho_nil ?_
  refine hk_then_code ?_
  refine hl_if rfl (fun hc0 => ?_) (fun hc0 => ?_)
  · try simp only [decide_eq_true_eq, decide_eq_false_iff_not, beq_iff_eq, beq_eq_false_iff_ne, bne_iff_ne, bne_eq_false_iff_eq, ne_eq, Int.not_lt, Int.not_le, gt_iff_lt, ge_iff_le, Bool.not_eq_true', Bool.not_eq_false'] at hc0
    have hk5 : z.1 < 100 := by omega
    refine hl_skip ?_
    refine hk_then_code ?_
    refine hl_seq ?_
    refine hl_block ?_
    rcases hq : z.2.1 with _ | q
    · refine hl_region ?_
      refine ho_val rfl rfl (ex_move rfl) ?_
      refine ho_val rfl rfl (ex_move rfl) ?_
      refine ho_do rfl rfl (exw_list (xs := [.tmp 13]) rfl rfl rfl Try.underlying28 info5 rfl rfl (by decide)) (fun b14 hb14 => ?_)
      refine ho_pick _ (by decide) (.cons 1 rfl (.cons 0 rfl .nil)) ?_
      refine ho_do rfl rfl (exw_append_two (xs := (x ++ List.replicate z.1 b).map vb) (rest := z.2.2.2.2.1) rfl rfl hok (fun w hw => Sl.ownAll hw 1 rfl) rfl (by simp only [List.mem_cons, List.not_mem_nil, or_false, forall_eq]; rfl) Try.underlying28 info5 rfl (by omega) (by simp only [maxLen]; omega)) (fun y15 hk15 => ?_)
      refine ho_val rfl rfl (ex_assign rfl) ?_
      refine ho_nil ?_
      refine hk_block_normal ?_
      refine hk_then_code ?_
      skip
      refine hl_region ?_
      refine ho_val rfl rfl (ex_move rfl) ?_
      refine ho_val rfl rfl (ex_addN (q := 1) rfl rfl (by omega)) ?_
      refine ho_val rfl rfl (ex_assign rfl) ?_
      refine ho_nil ?_
      refine hk_then_normal ?_
      exact hk_round (z.1 + 1, y15.1, y15.2.1, y15.2.2.1, y15.2.2.2, (List.replicate z.1 b).map vb ++ z.2.2.2.2.1) ⟨by dsimp only; omega, by rw [← rep_app x b z.1]; exact hk15.1, two_next hq hold hk15.2⟩ (by dsimp only; omega) ⟨rfl, rfl, rfl, trivial⟩ _ (by decide) (.cons 0 (by rw [← rep_app x b z.1]; rfl) (.cons 1 (by rw [two_old x b z.1 z.2.2.2.2.1]; rfl) .nil))
    · refine hl_region ?_
      refine ho_val rfl rfl (ex_move rfl) ?_
      refine ho_val rfl rfl (ex_move rfl) ?_
      refine ho_do rfl rfl (exw_list (xs := [.tmp 13]) rfl rfl rfl Try.underlying28 info5 rfl rfl (by decide)) (fun b14 hb14 => ?_)
      refine ho_pick _ (by decide) (.cons 1 rfl (.cons 0 rfl (.cons 2 rfl .nil))) ?_
      refine ho_do rfl rfl (exw_append0 (xs := (x ++ List.replicate z.1 b).map vb) (rest := z.2.2.2.2.1) rfl rfl rfl hok (fun w hw => Sl.ownAll hw 1 rfl) rfl (by simp only [List.mem_cons, List.not_mem_nil, or_false, forall_eq]; rfl) Try.underlying28 info5 rfl (by decide) (by omega) (by simp only [maxLen]; omega) (fun h => nomatch h)) (fun y15 hk15 => ?_)
      refine ho_val rfl rfl (ex_assign rfl) ?_
      refine ho_nil ?_
      refine hk_block_normal ?_
      refine hk_then_code ?_
      obtain ⟨q15, hy15⟩ := row_some hk15 (by omega)
      refine hl_region ?_
      refine ho_val rfl rfl (ex_move rfl) ?_
      refine ho_val rfl rfl (ex_addN (q := 1) rfl rfl (by omega)) ?_
      refine ho_val rfl rfl (ex_assign rfl) ?_
      refine ho_nil ?_
      refine hk_then_normal ?_
      exact hk_round (z.1 + 1, some q, q15, y15.2.1, y15.2.2, z.2.2.2.2.2) ⟨by dsimp only; omega, by rw [← rep_app x b z.1, ← hy15]; exact hk15, two_stay hq hold⟩ (by dsimp only; omega) ⟨rfl, (by rw [← hy15]; rfl), rfl, trivial⟩ _ (by decide) (.cons 0 (by rw [← rep_app x b z.1, ← hy15]; rfl) (.cons 2 rfl .nil))
  · try simp only [decide_eq_true_eq, decide_eq_false_iff_not, beq_iff_eq, beq_eq_false_iff_ne, bne_iff_ne, bne_eq_false_iff_eq, ne_eq, Int.not_lt, Int.not_le, gt_iff_lt, ge_iff_le, Bool.not_eq_true', Bool.not_eq_false'] at hc0
    have hk6 : z.1 = 100 := by omega
    refine hl_exit ?_
    refine hk_then_exit ?_
    refine hk_then_exit ?_
    refine hk_block_hit ?_
    refine hk_then_code ?_
    refine hl_seq ?_
    refine hl_region ?_
    refine ho_val rfl rfl (ex_move rfl) ?_
    refine ho_val rfl rfl (ex_assign rfl) ?_
    refine ho_nil ?_
    refine hk_then_code ?_
    refine hl_ret ?_
    exact hk_ret rfl rfl (fun w' hw' => ⟨z.2.1, z.2.2.1, z.2.2.2.1, z.2.2.2.2.1, z.2.2.2.2.2, hk6 ▸ hok, hold, by rw [hk6], by rw [hk6] at hw'; exact hw'⟩)

theorem filled_rep (n m : Nat) (hm : n = m) (p : Option Addr) (c : Nat) (hp : p = none → n = 0) (b : UInt8) (hl : n ≤ 4194304) (w : World) (hS : Sl w p ((List.replicate n b).map vb)) :
    Calls Try.prog 33 #[slv p m c, vb b] w fun e w' => e = .returned (.bool true) ∧ Below w.heap.size w w' := by
  have h := filled_any (List.replicate n b) m (by simpa using hm) p c (by simpa using hp) b (by simpa using hl) w hS
  rw [rep_all] at h
  exact h
theorem grown_rep (n : Nat) (a : UInt8) (r : List Value) (gx c : Nat) (b : UInt8) (hl : n ≤ 4194304) (w : World) (h0 : w.heap[gx]? = some (.cells (vrow (List.replicate n a) r) 5 (0, 0))) (hr : RowOk 1 (some gx) n c ((List.replicate n a).map vb) r) :
    Calls Try.prog 32 #[slv (some ⟨gx, 0, none⟩) n c, vb b] w fun e w' => ∃ old g' c' r' ro, RowOk 1 (some g') (n + 100) c' ((List.replicate n a ++ List.replicate 100 b).map vb) r' ∧ (old = none ∧ g' = gx ∨ old = some gx) ∧ e = .returned (rowv (some g') (n + 100) c') ∧ Hp w [gx] [⟨some g', ((List.replicate n a ++ List.replicate 100 b).map vb ++ r').toArray, 5, (0, 0)⟩, ⟨old, ((List.replicate n a).map vb ++ ro).toArray, 5, (0, 0)⟩] w' := by
  have h := grown_any (List.replicate n a) r gx c b (by simpa using hl) w h0 (by rw [List.length_replicate]; exact hr)
  rw [List.length_replicate] at h
  exact h

end Go.Proofs.Ytdmagjelmhcemaa
