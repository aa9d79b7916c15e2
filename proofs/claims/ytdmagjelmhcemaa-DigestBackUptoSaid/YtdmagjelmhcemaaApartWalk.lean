/- apart, that the laws deal with lists by. -/
import Derived.Test.YtdmagjelmhcemaaRows
import Derived.Test.YtdmagjelmhcemaaFacts
import Derived.Test.YtdmagjelmhcemaaB
import Derived.Test.YtdmagjelmhcemaaTwo
import Derived.Test.YtdmagjelmhcemaaRange
import Derived.Test.YtdmagjelmhcemaaApart
import Derived.KernelRfl
import Derived.Test.YtdmagjelmhcemaaGrown
namespace Go.Proofs.Ytdmagjelmhcemaa
open Go.RowKit
set_option linter.unusedVariables false
set_option linter.unusedSimpArgs false

set_option maxHeartbeats 800000 in
theorem apart_any (x y z : List UInt8) (rx ry rz : List Value) (gx gy gz cx cy cz : Nat) (hx : x.length ≤ 4194304) (hy : y.length ≤ 4194304) (hz : z.length ≤ 4194304) (hrx : RowOk 1 (some gx) x.length cx (x.map vb) rx) (hry : RowOk 1 (some gy) y.length cy (y.map vb) ry) (hrz : RowOk 1 (some gz) z.length cz (z.map vb) rz) (w : World) (hA : Hp w [gx, gy, gz] [⟨some gx, vrow x rx, 5, (0, 0)⟩, ⟨some gy, vrow y ry, 5, (0, 0)⟩, ⟨some gz, vrow z rz, 5, (0, 0)⟩] w) :
    Calls Try.prog 23 #[slv (some ⟨gx, 0, none⟩) x.length cx, slv (some ⟨gy, 0, none⟩) y.length cy, slv (some ⟨gz, 0, none⟩) z.length cz] w fun e w' => e = .returned (.bool true) ∧ Hp w [gx, gy, gz] [] w' := by
  refine calls_enter (n := 99) (hs := [⟨some gx, vrow x rx, 5, (0, 0)⟩, ⟨some gy, vrow y ry, 5, (0, 0)⟩, ⟨some gz, vrow z rz, 5, (0, 0)⟩]) (M := [gx, gy, gz]) (vs := [slv (some ⟨gx, 0, none⟩) x.length cx, slv (some ⟨gy, 0, none⟩) y.length cy, slv (some ⟨gz, 0, none⟩) z.length cz]) Try.func23 rfl rfl rfl hA ?_
  refine hl_seq ?_
  refine hl_region ?_
  refine ho_val rfl rfl (ex_assign rfl) ?_
  refine ho_nil ?_
  refine hk_then_code ?_
  refine hl_seq ?_
  refine hl_seq ?_
  refine hl_region ?_
  refine ho_val rfl rfl (ex_assign rfl) ?_
  refine ho_nil ?_
  refine hk_then_code ?_
  refine hl_block ?_
  refine hl_loop (G := Nat) (fun k => x.length - k) (fun k => k ≤ x.length) (fun k => [(0, slv (some ⟨gx, 0, none⟩) x.length cx), (1, slv (some ⟨gy, 0, none⟩) y.length cy), (2, slv (some ⟨gz, 0, none⟩) z.length cz), (7, .int .i64 (k : Nat))]) (fun k => [⟨some gx, vrow (List.replicate k 165 ++ x.drop k) rx, 5, (0, 0)⟩, ⟨some gy, vrow y ry, 5, (0, 0)⟩, ⟨some gz, vrow z rz, 5, (0, 0)⟩]) 0 (by omega) ⟨rfl, rfl, rfl, rfl, trivial⟩ _ (by decide) (.cons 0 (by rw [List.replicate_zero, List.nil_append, List.drop_zero]; rfl) (.cons 1 rfl (.cons 2 rfl .nil))) (fun k hk => ?_)
  refine hl_seq ?_
  refine hl_seq ?_
  refine hl_region ?_
  refine ho_val rfl rfl (ex_move rfl) ?_
  refine ho_val rfl rfl (ex_move rfl) ?_
  refine ho_val rfl rfl (ex_len_slice rfl Try.underlying28) ?_
  refine ho_val rfl rfl (ex_lss rfl rfl rfl) ?_
  refine ho_nil ?_
  refine hk_then_code ?_
  refine hl_if rfl (fun hc0 => ?_) (fun hc0 => ?_)
  · try simp only [decide_eq_true_eq, decide_eq_false_iff_not, beq_iff_eq, beq_eq_false_iff_ne, bne_iff_ne, bne_eq_false_iff_eq, ne_eq, Int.not_lt, Int.not_le, gt_iff_lt, ge_iff_le, Bool.not_eq_true', Bool.not_eq_false'] at hc0
    have hk5 : k < x.length := by omega
    refine hl_skip ?_
    refine hk_then_code ?_
    refine hl_seq ?_
    refine hl_block ?_
    refine hl_region ?_
    refine ho_val rfl rfl (ex_move rfl) ?_
    refine ho_val rfl rfl (ex_move rfl) ?_
    refine ho_val rfl rfl (ex_addr_own rfl rfl Try.underlying28 size5 (by omega)) ?_
    refine ho_do rfl rfl (exw_store0 rfl rfl (vrow_get _ _ _ (by rw [fill_length _ _ _ hk]; omega)) rfl size5 (vrow_set _ _ _ 165 (by rw [fill_length _ _ _ hk]; omega))) (fun _ _ => ?_)
    refine ho_nil ?_
    refine hk_block_normal ?_
    refine hk_then_code ?_
    refine hl_region ?_
    refine ho_val rfl rfl (ex_move rfl) ?_
    refine ho_val rfl rfl (ex_addN (q := 1) rfl rfl (by omega)) ?_
    refine ho_val rfl rfl (ex_assign rfl) ?_
    refine ho_nil ?_
    refine hk_then_normal ?_
    exact hk_round (k + 1) (by omega) (by omega) ⟨rfl, rfl, rfl, rfl, trivial⟩ _ (by decide) (.cons 0 (by rw [← fill_step x 165 k hk5]; rfl) (.cons 1 rfl (.cons 2 rfl .nil)))
  · try simp only [decide_eq_true_eq, decide_eq_false_iff_not, beq_iff_eq, beq_eq_false_iff_ne, bne_iff_ne, bne_eq_false_iff_eq, ne_eq, Int.not_lt, Int.not_le, gt_iff_lt, ge_iff_le, Bool.not_eq_true', Bool.not_eq_false'] at hc0
    obtain rfl : k = x.length := by omega
    refine hl_exit ?_
    refine hk_then_exit ?_
    refine hk_then_exit ?_
    refine hk_block_hit ?_
    refine hk_then_code ?_
    refine hl_seq ?_
    refine hl_seq ?_
    refine hl_region ?_
    refine ho_val rfl rfl (ex_assign rfl) ?_
    refine ho_nil ?_
    refine hk_then_code ?_
    refine hl_block ?_
    refine hl_loop (G := Nat) (fun k => y.length - k) (fun k => k ≤ y.length) (fun k => [(0, slv (some ⟨gx, 0, none⟩) x.length cx), (1, slv (some ⟨gy, 0, none⟩) y.length cy), (2, slv (some ⟨gz, 0, none⟩) z.length cz), (8, .int .i64 (k : Nat))]) (fun k => [⟨some gx, vrow (List.replicate x.length (165 : UInt8)) rx, 5, (0, 0)⟩, ⟨some gy, vrow (List.replicate k 90 ++ y.drop k) ry, 5, (0, 0)⟩, ⟨some gz, vrow z rz, 5, (0, 0)⟩]) 0 (by omega) ⟨rfl, rfl, rfl, rfl, trivial⟩ _ (by decide) (.cons 0 (by rw [fill_done x 165]; rfl) (.cons 1 (by rw [List.replicate_zero, List.nil_append, List.drop_zero]; rfl) (.cons 2 rfl .nil))) (fun k hk => ?_)
    refine hl_seq ?_
    refine hl_seq ?_
    refine hl_region ?_
    refine ho_val rfl rfl (ex_move rfl) ?_
    refine ho_val rfl rfl (ex_move rfl) ?_
    refine ho_val rfl rfl (ex_len_slice rfl Try.underlying28) ?_
    refine ho_val rfl rfl (ex_lss rfl rfl rfl) ?_
    refine ho_nil ?_
    refine hk_then_code ?_
    refine hl_if rfl (fun hc1 => ?_) (fun hc1 => ?_)
    · try simp only [decide_eq_true_eq, decide_eq_false_iff_not, beq_iff_eq, beq_eq_false_iff_ne, bne_iff_ne, bne_eq_false_iff_eq, ne_eq, Int.not_lt, Int.not_le, gt_iff_lt, ge_iff_le, Bool.not_eq_true', Bool.not_eq_false'] at hc1
      have hk5 : k < y.length := by omega
      refine hl_skip ?_
      refine hk_then_code ?_
      refine hl_seq ?_
      refine hl_block ?_
      refine hl_region ?_
      refine ho_val rfl rfl (ex_move rfl) ?_
      refine ho_val rfl rfl (ex_move rfl) ?_
      refine ho_val rfl rfl (ex_addr_own rfl rfl Try.underlying28 size5 (by omega)) ?_
      refine ho_do rfl rfl (exw_store1 rfl rfl (vrow_get _ _ _ (by rw [fill_length _ _ _ hk]; omega)) rfl size5 (vrow_set _ _ _ 90 (by rw [fill_length _ _ _ hk]; omega))) (fun _ _ => ?_)
      refine ho_nil ?_
      refine hk_block_normal ?_
      refine hk_then_code ?_
      refine hl_region ?_
      refine ho_val rfl rfl (ex_move rfl) ?_
      refine ho_val rfl rfl (ex_addN (q := 1) rfl rfl (by omega)) ?_
      refine ho_val rfl rfl (ex_assign rfl) ?_
      refine ho_nil ?_
      refine hk_then_normal ?_
      exact hk_round (k + 1) (by omega) (by omega) ⟨rfl, rfl, rfl, rfl, trivial⟩ _ (by decide) (.cons 0 rfl (.cons 1 (by rw [← fill_step y 90 k hk5]; rfl) (.cons 2 rfl .nil)))
    · try simp only [decide_eq_true_eq, decide_eq_false_iff_not, beq_iff_eq, beq_eq_false_iff_ne, bne_iff_ne, bne_eq_false_iff_eq, ne_eq, Int.not_lt, Int.not_le, gt_iff_lt, ge_iff_le, Bool.not_eq_true', Bool.not_eq_false'] at hc1
      obtain rfl : k = y.length := by omega
      refine hl_exit ?_
      refine hk_then_exit ?_
      refine hk_then_exit ?_
      refine hk_block_hit ?_
      refine hk_then_code ?_
      refine hl_seq ?_
      refine hl_seq ?_
      refine hl_region ?_
      refine ho_val rfl rfl (ex_assign rfl) ?_
      refine ho_nil ?_
      refine hk_then_code ?_
      refine hl_block ?_
      refine hl_loop (G := Nat) (fun k => z.length - k) (fun k => k ≤ z.length) (fun k => [(0, slv (some ⟨gx, 0, none⟩) x.length cx), (1, slv (some ⟨gy, 0, none⟩) y.length cy), (2, slv (some ⟨gz, 0, none⟩) z.length cz), (9, .int .i64 (k : Nat))]) (fun k => [⟨some gx, vrow (List.replicate x.length (165 : UInt8)) rx, 5, (0, 0)⟩, ⟨some gy, vrow (List.replicate y.length (90 : UInt8)) ry, 5, (0, 0)⟩, ⟨some gz, vrow (List.replicate k 51 ++ z.drop k) rz, 5, (0, 0)⟩]) 0 (by omega) ⟨rfl, rfl, rfl, rfl, trivial⟩ _ (by decide) (.cons 0 rfl (.cons 1 (by rw [fill_done y 90]; rfl) (.cons 2 (by rw [List.replicate_zero, List.nil_append, List.drop_zero]; rfl) .nil))) (fun k hk => ?_)
      refine hl_seq ?_
      refine hl_seq ?_
      refine hl_region ?_
      refine ho_val rfl rfl (ex_move rfl) ?_
      refine ho_val rfl rfl (ex_move rfl) ?_
      refine ho_val rfl rfl (ex_len_slice rfl Try.underlying28) ?_
      refine ho_val rfl rfl (ex_lss rfl rfl rfl) ?_
      refine ho_nil ?_
      refine hk_then_code ?_
      refine hl_if rfl (fun hc2 => ?_) (fun hc2 => ?_)
      · try simp only [decide_eq_true_eq, decide_eq_false_iff_not, beq_iff_eq, beq_eq_false_iff_ne, bne_iff_ne, bne_eq_false_iff_eq, ne_eq, Int.not_lt, Int.not_le, gt_iff_lt, ge_iff_le, Bool.not_eq_true', Bool.not_eq_false'] at hc2
        have hk5 : k < z.length := by omega
        refine hl_skip ?_
        refine hk_then_code ?_
        refine hl_seq ?_
        refine hl_block ?_
        refine hl_region ?_
        refine ho_val rfl rfl (ex_move rfl) ?_
        refine ho_val rfl rfl (ex_move rfl) ?_
        refine ho_val rfl rfl (ex_addr_own rfl rfl Try.underlying28 size5 (by omega)) ?_
        refine ho_do rfl rfl (exw_store2 rfl rfl (vrow_get _ _ _ (by rw [fill_length _ _ _ hk]; omega)) rfl size5 (vrow_set _ _ _ 51 (by rw [fill_length _ _ _ hk]; omega))) (fun _ _ => ?_)
        refine ho_nil ?_
        refine hk_block_normal ?_
        refine hk_then_code ?_
        refine hl_region ?_
        refine ho_val rfl rfl (ex_move rfl) ?_
        refine ho_val rfl rfl (ex_addN (q := 1) rfl rfl (by omega)) ?_
        refine ho_val rfl rfl (ex_assign rfl) ?_
        refine ho_nil ?_
        refine hk_then_normal ?_
        exact hk_round (k + 1) (by omega) (by omega) ⟨rfl, rfl, rfl, rfl, trivial⟩ _ (by decide) (.cons 0 rfl (.cons 1 rfl (.cons 2 (by rw [← fill_step z 51 k hk5]; rfl) .nil)))
      · try simp only [decide_eq_true_eq, decide_eq_false_iff_not, beq_iff_eq, beq_eq_false_iff_ne, bne_iff_ne, bne_eq_false_iff_eq, ne_eq, Int.not_lt, Int.not_le, gt_iff_lt, ge_iff_le, Bool.not_eq_true', Bool.not_eq_false'] at hc2
        obtain rfl : k = z.length := by omega
        refine hl_exit ?_
        refine hk_then_exit ?_
        refine hk_then_exit ?_
        refine hk_block_hit ?_
        refine hk_then_code ?_
        refine hl_seq ?_
        rw [fill_done z 51]
        refine hl_region ?_
        refine ho_val rfl rfl (ex_move rfl) ?_
        refine ho_do rfl rfl (exw_call Try.func32 rfl (by kernel_rfl) rfl (val := fun q : Option Nat × Nat × Nat × List Value × List Value => rowv (some q.2.1) (x.length + 100) q.2.2.1) (hs' := fun q => ⟨some q.2.1, (((List.replicate x.length (165 : UInt8)) ++ List.replicate 100 (177 : UInt8)).map vb ++ q.2.2.2.1).toArray, 5, (0, 0)⟩ :: ⟨q.1, ((List.replicate x.length (165 : UInt8)).map vb ++ q.2.2.2.2).toArray, 5, (0, 0)⟩ :: _) (pre := fun q => RowOk 1 (some q.2.1) (x.length + 100) q.2.2.1 (((List.replicate x.length (165 : UInt8)) ++ List.replicate 100 (177 : UInt8)).map vb) q.2.2.2.1 ∧ (q.1 = none ∧ q.2.1 = gx ∨ q.1 = some gx)) (fun w' hw' => (grown_rep x.length 165 rx gx cx 177 hx w' (hw'.own _ List.mem_cons_self gx rfl) (hrx.re (by simp))).mono fun e w2 ⟨o, g, c, r, ro, h1, h2, h3, h4⟩ => ⟨(o, g, c, r, ro), ⟨h1, h2⟩, h3, hw'.comp (A := [_]) (fun g hg => ⟨_, List.mem_cons_self, by rw [List.mem_singleton.1 hg]⟩) h4⟩)) (fun y41 hk41 => ?_)
        refine ho_val rfl rfl (ex_assign rfl) ?_
        refine ho_nil ?_
        refine hk_then_code ?_
        refine hl_seq ?_
        refine hl_region ?_
        refine ho_val rfl rfl (ex_move rfl) ?_
        refine ho_pick _ (by decide) (.cons 2 rfl (.cons 0 rfl (.cons 1 rfl (.cons 3 rfl .nil)))) ?_
        refine ho_do rfl rfl (exw_call Try.func32 rfl (by kernel_rfl) rfl (val := fun q : Option Nat × Nat × Nat × List Value × List Value => rowv (some q.2.1) (y.length + 100) q.2.2.1) (hs' := fun q => ⟨some q.2.1, (((List.replicate y.length (90 : UInt8)) ++ List.replicate 100 (178 : UInt8)).map vb ++ q.2.2.2.1).toArray, 5, (0, 0)⟩ :: ⟨q.1, ((List.replicate y.length (90 : UInt8)).map vb ++ q.2.2.2.2).toArray, 5, (0, 0)⟩ :: _) (pre := fun q => RowOk 1 (some q.2.1) (y.length + 100) q.2.2.1 (((List.replicate y.length (90 : UInt8)) ++ List.replicate 100 (178 : UInt8)).map vb) q.2.2.2.1 ∧ (q.1 = none ∧ q.2.1 = gy ∨ q.1 = some gy)) (fun w' hw' => (grown_rep y.length 90 ry gy cy 178 hy w' (hw'.own _ List.mem_cons_self gy rfl) (hry.re (by simp))).mono fun e w2 ⟨o, g, c, r, ro, h1, h2, h3, h4⟩ => ⟨(o, g, c, r, ro), ⟨h1, h2⟩, h3, hw'.comp (A := [_]) (fun g hg => ⟨_, List.mem_cons_self, by rw [List.mem_singleton.1 hg]⟩) h4⟩)) (fun y43 hk43 => ?_)
        refine ho_val rfl rfl (ex_assign rfl) ?_
        refine ho_nil ?_
        refine hk_then_code ?_
        refine hl_seq ?_
        refine hl_region ?_
        refine ho_val rfl rfl (ex_move rfl) ?_
        refine ho_pick _ (by decide) (.cons 4 rfl (.cons 0 rfl (.cons 1 rfl (.cons 2 rfl (.cons 3 rfl .nil))))) ?_
        refine ho_do rfl rfl (exw_call Try.func32 rfl (by kernel_rfl) rfl (val := fun q : Option Nat × Nat × Nat × List Value × List Value => rowv (some q.2.1) (z.length + 100) q.2.2.1) (hs' := fun q => ⟨some q.2.1, (((List.replicate z.length (51 : UInt8)) ++ List.replicate 100 (179 : UInt8)).map vb ++ q.2.2.2.1).toArray, 5, (0, 0)⟩ :: ⟨q.1, ((List.replicate z.length (51 : UInt8)).map vb ++ q.2.2.2.2).toArray, 5, (0, 0)⟩ :: _) (pre := fun q => RowOk 1 (some q.2.1) (z.length + 100) q.2.2.1 (((List.replicate z.length (51 : UInt8)) ++ List.replicate 100 (179 : UInt8)).map vb) q.2.2.2.1 ∧ (q.1 = none ∧ q.2.1 = gz ∨ q.1 = some gz)) (fun w' hw' => (grown_rep z.length 51 rz gz cz 179 hz w' (hw'.own _ List.mem_cons_self gz rfl) (hrz.re (by simp))).mono fun e w2 ⟨o, g, c, r, ro, h1, h2, h3, h4⟩ => ⟨(o, g, c, r, ro), ⟨h1, h2⟩, h3, hw'.comp (A := [_]) (fun g hg => ⟨_, List.mem_cons_self, by rw [List.mem_singleton.1 hg]⟩) h4⟩)) (fun y45 hk45 => ?_)
        refine ho_val rfl rfl (ex_assign rfl) ?_
        refine ho_nil ?_
        refine hk_then_code ?_
        refine hl_seq ?_
        refine hl_seq ?_
        refine hl_region ?_
        refine ho_val rfl rfl (ex_move rfl) ?_
        refine ho_do rfl rfl (exw_call_pure (v := .bool true) Try.func33 rfl (by kernel_rfl) rfl (fun w' hw' => filled_rep x.length x.length rfl (some ⟨gx, 0, none⟩) cx (fun h => nomatch h) 165 hx w' (two_sl hw' (i := 4) (j := 5) rfl rfl hk41.2))) (fun _ _ => ?_)
        refine ho_val rfl rfl (ex_not rfl) ?_
        refine ho_val rfl rfl (ex_move rfl) ?_
        refine ho_want rfl rfl rfl rfl rfl (ex_move rfl) ?_
        refine ho_do_want rfl rfl rfl rfl rfl (exw_call_pure (v := .bool true) Try.func33 rfl (by kernel_rfl) rfl (fun w' hw' => filled_rep y.length y.length rfl (some ⟨gy, 0, none⟩) cy (fun h => nomatch h) 90 hy w' (two_sl hw' (i := 2) (j := 3) rfl rfl hk43.2))) (fun _ _ => ?_)
        refine ho_want rfl rfl rfl rfl rfl (ex_not rfl) ?_
        refine ho_val rfl rfl (ex_pick_false rfl rfl) ?_
        refine ho_val rfl rfl (ex_move rfl) ?_
        refine ho_want rfl rfl rfl rfl rfl (ex_move rfl) ?_
        refine ho_do_want rfl rfl rfl rfl rfl (exw_call_pure (v := .bool true) Try.func33 rfl (by kernel_rfl) rfl (fun w' hw' => filled_rep z.length z.length rfl (some ⟨gz, 0, none⟩) cz (fun h => nomatch h) 51 hz w' (two_sl hw' (i := 0) (j := 1) rfl rfl hk45.2))) (fun _ _ => ?_)
        refine ho_want rfl rfl rfl rfl rfl (ex_not rfl) ?_
        refine ho_val rfl rfl (ex_pick_false rfl rfl) ?_
        refine ho_nil ?_
        refine hk_then_code ?_
        refine hl_false rfl ?_
        refine hl_skip ?_
        refine hk_then_code ?_
        refine hl_seq ?_
        refine hl_region ?_
        refine ho_val rfl rfl (ex_move rfl) ?_
        refine ho_val rfl rfl (ex_move rfl) ?_
        refine ho_val rfl rfl (ex_len_slice rfl Try.underlying28) ?_
        refine ho_val rfl rfl (ex_slice_lo rfl rfl Try.underlying28 _ size5 (by omega) (hk41.1.le)) ?_
        refine ho_do rfl rfl (exw_call_pure (v := .bool true) Try.func33 rfl (by kernel_rfl) rfl (fun w' hw' => filled_rep 100 (x.length + 100 - x.length) (by omega) (cut (some ⟨y41.2.1, 0, none⟩) y41.2.2.1 x.length 1) (y41.2.2.1 - x.length) (fun h => nomatch (show (some (⟨y41.2.1, 0, none⟩ : Addr)) = none from cut_none h)) 177 (by decide) w' (grow_tail (x := (List.replicate x.length (165 : UInt8))) (y := List.replicate 100 177) (Sl.own hw' 4 rfl rfl pre_get) (by simp) (by rw [List.length_replicate]; exact hk41.1.le)))) (fun _ _ => ?_)
        refine ho_val rfl rfl (ex_move rfl) ?_
        refine ho_want rfl rfl rfl rfl rfl (ex_move rfl) ?_
        refine ho_want rfl rfl rfl rfl rfl (ex_move rfl) ?_
        refine ho_want rfl rfl rfl rfl rfl (ex_len_slice rfl Try.underlying28) ?_
        refine ho_want rfl rfl rfl rfl rfl (ex_slice_lo rfl rfl Try.underlying28 _ size5 (by omega) (hk43.1.le)) ?_
        refine ho_do_want rfl rfl rfl rfl rfl (exw_call_pure (v := .bool true) Try.func33 rfl (by kernel_rfl) rfl (fun w' hw' => filled_rep 100 (y.length + 100 - y.length) (by omega) (cut (some ⟨y43.2.1, 0, none⟩) y43.2.2.1 y.length 1) (y43.2.2.1 - y.length) (fun h => nomatch (show (some (⟨y43.2.1, 0, none⟩ : Addr)) = none from cut_none h)) 178 (by decide) w' (grow_tail (x := (List.replicate y.length (90 : UInt8))) (y := List.replicate 100 178) (Sl.own hw' 2 rfl rfl pre_get) (by simp) (by rw [List.length_replicate]; exact hk43.1.le)))) (fun _ _ => ?_)
        refine ho_val rfl rfl (ex_pick_true rfl rfl) ?_
        refine ho_val rfl rfl (ex_move rfl) ?_
        refine ho_want rfl rfl rfl rfl rfl (ex_move rfl) ?_
        refine ho_want rfl rfl rfl rfl rfl (ex_move rfl) ?_
        refine ho_want rfl rfl rfl rfl rfl (ex_len_slice rfl Try.underlying28) ?_
        refine ho_want rfl rfl rfl rfl rfl (ex_slice_lo rfl rfl Try.underlying28 _ size5 (by omega) (hk45.1.le)) ?_
        refine ho_do_want rfl rfl rfl rfl rfl (exw_call_pure (v := .bool true) Try.func33 rfl (by kernel_rfl) rfl (fun w' hw' => filled_rep 100 (z.length + 100 - z.length) (by omega) (cut (some ⟨y45.2.1, 0, none⟩) y45.2.2.1 z.length 1) (y45.2.2.1 - z.length) (fun h => nomatch (show (some (⟨y45.2.1, 0, none⟩ : Addr)) = none from cut_none h)) 179 (by decide) w' (grow_tail (x := (List.replicate z.length (51 : UInt8))) (y := List.replicate 100 179) (Sl.own hw' 0 rfl rfl pre_get) (by simp) (by rw [List.length_replicate]; exact hk45.1.le)))) (fun _ _ => ?_)
        refine ho_val rfl rfl (ex_pick_true rfl rfl) ?_
        refine ho_val rfl rfl (ex_move rfl) ?_
        refine ho_want rfl rfl rfl rfl rfl (ex_move rfl) ?_
        refine ho_want rfl rfl rfl rfl rfl (ex_move rfl) ?_
        refine ho_want rfl rfl rfl rfl rfl (ex_len_slice rfl Try.underlying28) ?_
        refine ho_want rfl rfl rfl rfl rfl (ex_slice_hi rfl rfl Try.underlying28 _ size5 (by have := hk41.1.le; omega)) ?_
        refine ho_do_want rfl rfl rfl rfl rfl (exw_call_pure (v := .bool true) Try.func33 rfl (by kernel_rfl) rfl (fun w' hw' => filled_rep x.length (x.length) rfl (some ⟨y41.2.1, 0, none⟩) y41.2.2.1 (fun h => nomatch h) 165 hx w' (grow_head (x := (List.replicate x.length (165 : UInt8))) (y := List.replicate 100 177) (Sl.own hw' 4 rfl rfl pre_get)))) (fun _ _ => ?_)
        refine ho_val rfl rfl (ex_pick_true rfl rfl) ?_
        refine ho_val rfl rfl (ex_move rfl) ?_
        refine ho_want rfl rfl rfl rfl rfl (ex_move rfl) ?_
        refine ho_want rfl rfl rfl rfl rfl (ex_move rfl) ?_
        refine ho_want rfl rfl rfl rfl rfl (ex_len_slice rfl Try.underlying28) ?_
        refine ho_want rfl rfl rfl rfl rfl (ex_slice_hi rfl rfl Try.underlying28 _ size5 (by have := hk43.1.le; omega)) ?_
        refine ho_do_want rfl rfl rfl rfl rfl (exw_call_pure (v := .bool true) Try.func33 rfl (by kernel_rfl) rfl (fun w' hw' => filled_rep y.length (y.length) rfl (some ⟨y43.2.1, 0, none⟩) y43.2.2.1 (fun h => nomatch h) 90 hy w' (grow_head (x := (List.replicate y.length (90 : UInt8))) (y := List.replicate 100 178) (Sl.own hw' 2 rfl rfl pre_get)))) (fun _ _ => ?_)
        refine ho_val rfl rfl (ex_pick_true rfl rfl) ?_
        refine ho_val rfl rfl (ex_move rfl) ?_
        refine ho_want rfl rfl rfl rfl rfl (ex_move rfl) ?_
        refine ho_want rfl rfl rfl rfl rfl (ex_move rfl) ?_
        refine ho_want rfl rfl rfl rfl rfl (ex_len_slice rfl Try.underlying28) ?_
        refine ho_want rfl rfl rfl rfl rfl (ex_slice_hi rfl rfl Try.underlying28 _ size5 (by have := hk45.1.le; omega)) ?_
        refine ho_do_want rfl rfl rfl rfl rfl (exw_call_pure (v := .bool true) Try.func33 rfl (by kernel_rfl) rfl (fun w' hw' => filled_rep z.length (z.length) rfl (some ⟨y45.2.1, 0, none⟩) y45.2.2.1 (fun h => nomatch h) 51 hz w' (grow_head (x := (List.replicate z.length (51 : UInt8))) (y := List.replicate 100 179) (Sl.own hw' 0 rfl rfl pre_get)))) (fun _ _ => ?_)
        refine ho_val rfl rfl (ex_pick_true rfl rfl) ?_
        refine ho_val rfl rfl (ex_assign rfl) ?_
        refine ho_nil ?_
        refine hk_then_code ?_
        refine hl_ret ?_
        exact hk_ret rfl rfl (fun w' hw' => ⟨rfl, hw'.pick (is := []) (by decide) .nil⟩)

end Go.Proofs.Ytdmagjelmhcemaa
