/- A block of a message taken into a state: what the digest's mix does. -/
import Derived.Test.YtdmagjelmhcemaaDoorRows
import Derived.Test.YtdmagjelmhcemaaDoorFacts
import Derived.Test.YtdmagjelmhcemaaDoorSha
import Derived.Test.YtdmagjelmhcemaaDoorTextLaw2
import Derived.KernelRfl
namespace Go.Proofs.YtdmagjelmhcemaaDoor
open Go.RowKit
set_option linter.unusedVariables false
set_option linter.unusedSimpArgs false

set_option maxHeartbeats 400000 in
theorem right_any (x : UInt32) (n : Nat) (h0 : 0 < n) (h1 : n < 32) (w : World) :
    Calls Tryd.prog 51 #[vw x, Value.int .i64 (n : Int)] w fun e w' => e = .returned (vw (rotr x n)) ∧ Below w.heap.size w w' := by
  refine calls_enter (n := 13) (hs := []) (M := []) (vs := [vw x, Value.int .i64 (n : Int)]) Tryd.func51 rfl rfl rfl (Hp.start w) ?_
  refine hl_seq ?_
  refine hl_region ?_
  refine ho_val rfl rfl (ex_assign rfl) ?_
  refine ho_nil ?_
  refine hk_then_code ?_
  refine hl_seq ?_
  refine hl_still 8 (by kernel_rfl) (by kernel_rfl) ?_
  refine hs_val rfl rfl (ex_move rfl) ?_
  refine hs_val rfl rfl (ex_move rfl) ?_
  refine hs_val rfl rfl (ex_shr32 rfl rfl (by omega)) ?_
  refine hs_val rfl rfl (ex_move rfl) ?_
  refine hs_val rfl rfl (ex_move rfl) ?_
  refine hs_val rfl rfl (ex_subN (p := 32) rfl rfl (by omega) (by omega)) ?_
  refine hs_val rfl rfl (ex_shl32 rfl rfl (by omega)) ?_
  refine hs_val rfl rfl (ex_or32 rfl rfl) ?_
  refine hs_nil ?_
  refine ho_val rfl rfl (ex_assign rfl) ?_
  refine ho_nil ?_
  refine hk_then_code ?_
  refine hl_ret ?_
  exact hk_ret rfl rfl (fun w' hw' => ⟨rfl, hw'.below⟩)

set_option maxHeartbeats 400000 in
theorem ror_any (x : UInt32) (n : Nat) (h0 : 0 < n) (h1 : n < 32) (w : World) :
    Calls Tryd.prog 50 #[vw x, Value.int .i64 (n : Int)] w fun e w' => e = .returned (vw (rotr x n)) ∧ Below w.heap.size w w' := by
  refine calls_enter (n := 15) (hs := []) (M := []) (vs := [vw x, Value.int .i64 (n : Int)]) Tryd.func50 rfl rfl rfl (Hp.start w) ?_
  refine hl_seq ?_
  refine hl_region ?_
  refine ho_val rfl rfl (ex_assign rfl) ?_
  refine ho_nil ?_
  refine hk_then_code ?_
  refine hl_seq ?_
  refine hl_region ?_
  refine ho_val rfl rfl (ex_move rfl) ?_
  refine ho_val rfl rfl (ex_move rfl) ?_
  refine ho_val rfl rfl (ex_convN rfl Tryd.underlying3 Tryd.underlying65 (by simp only [cap]; omega)) ?_
  refine ho_val rfl rfl (ex_shr32 rfl rfl (by omega)) ?_
  refine ho_val rfl rfl (ex_move rfl) ?_
  refine ho_val rfl rfl (ex_move rfl) ?_
  refine ho_val rfl rfl (ex_subN (p := 32) rfl rfl (by omega) (by omega)) ?_
  refine ho_val rfl rfl (ex_convN rfl Tryd.underlying3 Tryd.underlying65 (by simp only [cap]; omega)) ?_
  refine ho_val rfl rfl (ex_shl32 rfl rfl (by omega)) ?_
  refine ho_val rfl rfl (ex_or32 rfl rfl) ?_
  refine ho_val rfl rfl (ex_assign rfl) ?_
  refine ho_nil ?_
  refine hk_then_code ?_
  refine hl_ret ?_
  exact hk_ret rfl rfl (fun w' hw' => ⟨rfl, hw'.below⟩)

set_option maxHeartbeats 1600000 in
theorem mix_any (S : List UInt32) (hS : S.length = 8) (tail : List Value) (et g : Nat) (p : Option Addr) (c : Nat) (b : List UInt8) (hb : b.length = 64) (w : World) (hP : Sl w p (b.map vb)) (h0 : w.heap[g]? = some (.cells (wrow S tail) et (0, 0))) (hK : Sl w (some ⟨3, 0, none⟩) (tK.map vw)) (hg3 : 3 ≠ g) :
    Calls Tryd.prog 40 #[Value.pointer (some ⟨g, 0, none⟩), slv p 64 c] w fun e w' => e = .returned (.tuple #[]) ∧ Hp w [g] [⟨some g, wrow (compress tK S b) tail, et, (0, 0)⟩] w' := by
  have hpn : p = none → 64 = 0 := by
    intro h; subst h
    obtain ⟨q, hq, _⟩ := hP 0 _ (map_vb_get b 0 (by omega))
    cases hq
  refine calls_enter (n := 190) (hs := [⟨some g, wrow S tail, et, (0, 0)⟩]) (M := [g]) (vs := [Value.pointer (some ⟨g, 0, none⟩), slv p 64 c]) Tryd.func40 rfl rfl rfl (Hp.mine w g _ _ h0) ?_
  refine hl_seq ?_
  refine hl_region ?_
  refine ho_do rfl rfl (exw_alloc_cs (z := .agg (vws (List.replicate 64 0))) (vws (List.replicate 64 0)) (by kernel_rfl) rfl) (fun b4 hb4 => ?_)
  refine ho_nil ?_
  refine hk_then_code ?_
  refine hl_seq ?_
  refine hl_seq ?_
  refine hl_region ?_
  refine ho_val rfl rfl (ex_move rfl) ?_
  refine ho_nil ?_
  refine hk_then_code ?_
  refine hl_block ?_
  refine hl_loop (G := Nat) (fun t => 16 - t) (fun t => t ≤ 16) (fun t => [(0, .pointer (some ⟨g, 0, none⟩)), (1, slv p 64 c), (4, .pointer (some ⟨b4, 0, none⟩)), (18, .int .i64 (t : Nat))]) (fun t => [⟨some b4, vws (w0To b t), 64, (0, 0)⟩, ⟨some g, wrow S tail, et, (0, 0)⟩]) 0 (by omega) ⟨rfl, rfl, rfl, rfl, trivial⟩ _ (by decide) (.cons 0 rfl (.cons 1 rfl .nil)) (fun t ht => ?_)
  refine hl_seq ?_
  refine hl_region ?_
  refine ho_val rfl rfl (ex_lss rfl rfl rfl) ?_
  refine ho_nil ?_
  refine hk_then_code ?_
  refine hl_seq ?_
  refine hl_if rfl (fun hc0 => ?_) (fun hc0 => ?_)
  · try simp only [decide_eq_true_eq, decide_eq_false_iff_not, beq_iff_eq, beq_eq_false_iff_ne, bne_iff_ne, bne_eq_false_iff_eq, ne_eq, Int.not_lt, Int.not_le, gt_iff_lt, ge_iff_le] at hc0
    have ht5 : t < 16 := by omega
    refine hl_skip ?_
    refine hk_then_code ?_
    refine hl_seq ?_
    refine hl_block ?_
    refine hl_seq ?_
    refine hl_region ?_
    refine ho_val rfl rfl (ex_move rfl) ?_
    refine ho_val rfl rfl (ex_assign rfl) ?_
    refine ho_nil ?_
    refine hk_then_code ?_
    refine hl_still 35 (by kernel_rfl) (by kernel_rfl) ?_
    refine hs_val rfl rfl (ex_move rfl) ?_
    refine hs_val rfl rfl (ex_move rfl) ?_
    refine hs_val rfl rfl (ex_move rfl) ?_
    refine hs_val rfl rfl (ex_mulN (p := 4) rfl rfl (by omega)) ?_
    refine hs_val rfl rfl (ex_addr_sl1 rfl rfl Tryd.underlying22 size5 (by omega) hpn) ?_
    refine hs_val rfl rfl (ex_load_sl rfl (fun w' hw' => hP.keep h0 hw' 1 rfl) (map_vb_get _ _ (by omega)) Tryd.underlying5 rfl) ?_
    refine hs_val rfl rfl (ex_conv32 rfl Tryd.underlying5 Tryd.underlying61) ?_
    refine hs_val rfl rfl (ex_shl32 (q := 24) rfl rfl (by omega)) ?_
    refine hs_val rfl rfl (ex_move rfl) ?_
    refine hs_val rfl rfl (ex_move rfl) ?_
    refine hs_val rfl rfl (ex_mulN (p := 4) rfl rfl (by omega)) ?_
    refine hs_val rfl rfl (ex_addN (q := 1) rfl rfl (by omega)) ?_
    refine hs_val rfl rfl (ex_addr_sl1 rfl rfl Tryd.underlying22 size5 (by omega) hpn) ?_
    refine hs_val rfl rfl (ex_load_sl rfl (fun w' hw' => hP.keep h0 hw' 1 rfl) (map_vb_get _ _ (by omega)) Tryd.underlying5 rfl) ?_
    refine hs_val rfl rfl (ex_conv32 rfl Tryd.underlying5 Tryd.underlying61) ?_
    refine hs_val rfl rfl (ex_shl32 (q := 16) rfl rfl (by omega)) ?_
    refine hs_val rfl rfl (ex_or32 rfl rfl) ?_
    refine hs_val rfl rfl (ex_move rfl) ?_
    refine hs_val rfl rfl (ex_move rfl) ?_
    refine hs_val rfl rfl (ex_mulN (p := 4) rfl rfl (by omega)) ?_
    refine hs_val rfl rfl (ex_addN (q := 2) rfl rfl (by omega)) ?_
    refine hs_val rfl rfl (ex_addr_sl1 rfl rfl Tryd.underlying22 size5 (by omega) hpn) ?_
    refine hs_val rfl rfl (ex_load_sl rfl (fun w' hw' => hP.keep h0 hw' 1 rfl) (map_vb_get _ _ (by omega)) Tryd.underlying5 rfl) ?_
    refine hs_val rfl rfl (ex_conv32 rfl Tryd.underlying5 Tryd.underlying61) ?_
    refine hs_val rfl rfl (ex_shl32 (q := 8) rfl rfl (by omega)) ?_
    refine hs_val rfl rfl (ex_or32 rfl rfl) ?_
    refine hs_val rfl rfl (ex_move rfl) ?_
    refine hs_val rfl rfl (ex_move rfl) ?_
    refine hs_val rfl rfl (ex_mulN (p := 4) rfl rfl (by omega)) ?_
    refine hs_val rfl rfl (ex_addN (q := 3) rfl rfl (by omega)) ?_
    refine hs_val rfl rfl (ex_addr_sl1 rfl rfl Tryd.underlying22 size5 (by omega) hpn) ?_
    refine hs_val rfl rfl (ex_load_sl rfl (fun w' hw' => hP.keep h0 hw' 1 rfl) (map_vb_get _ _ (by omega)) Tryd.underlying5 rfl) ?_
    refine hs_val rfl rfl (ex_conv32 rfl Tryd.underlying5 Tryd.underlying61) ?_
    refine hs_val rfl rfl (ex_or32 rfl rfl) ?_
    refine hs_val rfl rfl (ex_addr_arr0 rfl rfl Tryd.underlying64 size61 (by omega)) ?_
    refine hs_nil ?_
    refine ho_do rfl rfl (exw_store0 rfl rfl (vws_get _ _ (by rw [w0To_length]; omega)) rfl size61 (vws_put _ _ _)) (fun _ _ => ?_)
    refine ho_nil ?_
    refine hk_block_normal ?_
    refine hk_then_code ?_
    refine hl_region ?_
    refine ho_val rfl rfl (ex_addN (q := 1) rfl rfl (by omega)) ?_
    refine ho_val rfl rfl (ex_move rfl) ?_
    refine ho_nil ?_
    refine hk_then_normal ?_
    exact hk_round (t + 1) (by omega) (by omega) ⟨rfl, rfl, rfl, rfl, trivial⟩ _ (by decide) (.cons 0 rfl (.cons 1 rfl .nil))
  · try simp only [decide_eq_true_eq, decide_eq_false_iff_not, beq_iff_eq, beq_eq_false_iff_ne, bne_iff_ne, bne_eq_false_iff_eq, ne_eq, Int.not_lt, Int.not_le, gt_iff_lt, ge_iff_le] at hc0
    obtain rfl : t = 16 := by omega
    refine hl_exit ?_
    refine hk_then_exit ?_
    refine hk_then_exit ?_
    refine hk_block_hit ?_
    refine hk_then_code ?_
    refine hl_seq ?_
    refine hl_seq ?_
    refine hl_region ?_
    refine ho_val rfl rfl (ex_assign rfl) ?_
    refine ho_nil ?_
    refine hk_then_code ?_
    refine hl_block ?_
    refine hl_loop (G := Nat) (fun k => 48 - k) (fun k => k ≤ 48) (fun k => [(0, .pointer (some ⟨g, 0, none⟩)), (4, .pointer (some ⟨b4, 0, none⟩)), (6, .int .i64 (16 + k : Nat))]) (fun k => [⟨some b4, vws (wTo b k), 64, (0, 0)⟩, ⟨some g, wrow S tail, et, (0, 0)⟩]) 0 (by omega) ⟨rfl, rfl, rfl, trivial⟩ _ (by decide) (.cons 0 rfl (.cons 1 rfl .nil)) (fun k hk => ?_)
    refine hl_seq ?_
    refine hl_seq ?_
    refine hl_region ?_
    refine ho_val rfl rfl (ex_move rfl) ?_
    refine ho_val rfl rfl (ex_lss rfl rfl rfl) ?_
    refine ho_nil ?_
    refine hk_then_code ?_
    refine hl_if rfl (fun hc1 => ?_) (fun hc1 => ?_)
    · try simp only [decide_eq_true_eq, decide_eq_false_iff_not, beq_iff_eq, beq_eq_false_iff_ne, bne_iff_ne, bne_eq_false_iff_eq, ne_eq, Int.not_lt, Int.not_le, gt_iff_lt, ge_iff_le] at hc1
      have hk5 : k < 48 := by omega
      refine hl_skip ?_
      refine hk_then_code ?_
      refine hl_seq ?_
      refine hl_block ?_
      refine hl_seq ?_
      refine hl_still 9 (by kernel_rfl) (by kernel_rfl) ?_
      refine hs_val rfl rfl (ex_move rfl) ?_
      refine hs_val rfl rfl (ex_subN (q := 15) rfl rfl (by omega) (by omega)) ?_
      refine hs_val rfl rfl (ex_addr_arr0 rfl rfl Tryd.underlying64 size61 (by omega)) ?_
      refine hs_val rfl rfl (ex_load rfl 0 rfl rfl (vws_get _ _ (by rw [wTo_length]; omega)) Tryd.underlying61 rfl) ?_
      refine hs_val rfl rfl (ex_move rfl) ?_
      refine hs_val rfl rfl (ex_subN (q := 2) rfl rfl (by omega) (by omega)) ?_
      refine hs_val rfl rfl (ex_addr_arr0 rfl rfl Tryd.underlying64 size61 (by omega)) ?_
      refine hs_val rfl rfl (ex_load rfl 0 rfl rfl (vws_get _ _ (by rw [wTo_length]; omega)) Tryd.underlying61 rfl) ?_
      refine hs_val rfl rfl (ex_assign rfl) ?_
      refine hs_nil ?_
      refine ho_val rfl rfl (ex_assign rfl) ?_
      refine ho_nil ?_
      refine hk_then_code ?_
      refine hl_heldz (fun z : UInt32 => [⟨some b4, vws ((wTo b k).set (16 + k) z), 64, (0, 0)⟩, ⟨some g, wrow S tail, et, (0, 0)⟩]) (by kernel_rfl) ((wTo b k).getD (16 + k) 0) (by decide) (.cons 0 (by rw [set_self]; rfl) (.cons 1 rfl .nil)) ?_
      refine hz_take 0 rfl (by kernel_rfl) (by kernel_rfl) (by kernel_rfl) (fun _ _ _ h => h) rfl rfl (fun z => (ex_move rfl)) ?_
      refine hz_take 1 rfl (by kernel_rfl) (by kernel_rfl) (by kernel_rfl) (fun _ _ _ h => h) rfl rfl (fun z => (ex_move rfl)) ?_
      refine hz_take 2 rfl (by kernel_rfl) (by kernel_rfl) (by kernel_rfl) (fun _ _ _ h => h) rfl rfl (fun z => (ex_subN (q := 16) rfl rfl (by omega) (by omega))) ?_
      refine hz_take 3 rfl (by kernel_rfl) (by kernel_rfl) (by kernel_rfl) (fun _ _ _ h => h) rfl rfl (fun z => (ex_addr_arr0 rfl rfl Tryd.underlying64 size61 (by omega))) ?_
      refine hz_take 4 rfl (by kernel_rfl) (by kernel_rfl) (by kernel_rfl) (fun _ _ _ h => h) rfl rfl (fun z => (ex_load rfl 0 rfl rfl (vws_get_set _ _ _ _ (by rw [wTo_length]; omega) (by omega)) Tryd.underlying61 rfl)) ?_
      refine hz_take 5 rfl (by kernel_rfl) (by kernel_rfl) (by kernel_rfl) (fun _ _ _ h => h) rfl rfl (fun z => (ex_move rfl)) ?_
      refine hz_take 7 rfl (by kernel_rfl) (by kernel_rfl) (by kernel_rfl) (fun _ _ _ h => h) rfl rfl (fun z => (ex_move rfl)) ?_
      refine hz_take 10 rfl (by kernel_rfl) (by kernel_rfl) (by kernel_rfl) (fun _ _ _ h => h) rfl rfl (fun z => (ex_move rfl)) ?_
      refine hz_take 11 rfl (by kernel_rfl) (by kernel_rfl) (by kernel_rfl) (fun _ _ _ h => h) rfl rfl (fun z => (ex_shr32 (q := 3) rfl rfl (by omega))) ?_
      refine hz_take 14 rfl (by kernel_rfl) (by kernel_rfl) (by kernel_rfl) (fun _ _ _ h => h) rfl rfl (fun z => (ex_move rfl)) ?_
      refine hz_take 15 rfl (by kernel_rfl) (by kernel_rfl) (by kernel_rfl) (fun _ _ _ h => h) rfl rfl (fun z => (ex_subN (q := 7) rfl rfl (by omega) (by omega))) ?_
      refine hz_take 16 rfl (by kernel_rfl) (by kernel_rfl) (by kernel_rfl) (fun _ _ _ h => h) rfl rfl (fun z => (ex_addr_arr0 rfl rfl Tryd.underlying64 size61 (by omega))) ?_
      refine hz_take 17 rfl (by kernel_rfl) (by kernel_rfl) (by kernel_rfl) (fun _ _ _ h => h) rfl rfl (fun z => (ex_load rfl 0 rfl rfl (vws_get_set _ _ _ _ (by rw [wTo_length]; omega) (by omega)) Tryd.underlying61 rfl)) ?_
      refine hz_take 19 rfl (by kernel_rfl) (by kernel_rfl) (by kernel_rfl) (fun _ _ _ h => h) rfl rfl (fun z => (ex_move rfl)) ?_
      refine hz_take 21 rfl (by kernel_rfl) (by kernel_rfl) (by kernel_rfl) (fun _ _ _ h => h) rfl rfl (fun z => (ex_move rfl)) ?_
      refine hz_take 24 rfl (by kernel_rfl) (by kernel_rfl) (by kernel_rfl) (fun _ _ _ h => h) rfl rfl (fun z => (ex_move rfl)) ?_
      refine hz_take 25 rfl (by kernel_rfl) (by kernel_rfl) (by kernel_rfl) (fun _ _ _ h => h) rfl rfl (fun z => (ex_shr32 (q := 10) rfl rfl (by omega))) ?_
      refine hz_do 6 rfl (by kernel_rfl) (fun a _ => wanted_none rfl a) rfl (exw_call_pure Tryd.func51 rfl (by kernel_rfl) rfl (fun w' hw' => right_any _ 7 (by decide) (by decide) w')) (fun _ => (wTo b k).getD (16 + k) 0) (by decide) (fun _ _ => (.cons 0 (by rw [set_self]; rfl) (.cons 1 rfl .nil))) (fun _ _ => ?_)
      refine hz_do 8 rfl (by kernel_rfl) (fun a _ => wanted_none rfl a) rfl (exw_call_pure Tryd.func51 rfl (by kernel_rfl) rfl (fun w' hw' => right_any _ 18 (by decide) (by decide) w')) (fun _ => (wTo b k).getD (16 + k) 0) (by decide) (fun _ _ => (.cons 0 (by rw [set_self]; rfl) (.cons 1 rfl .nil))) (fun _ _ => ?_)
      refine hz_take 9 rfl (by kernel_rfl) (by kernel_rfl) (by kernel_rfl) (fun _ _ _ h => h) rfl rfl (fun z => (ex_xor32 rfl rfl)) ?_
      refine hz_take 12 rfl (by kernel_rfl) (by kernel_rfl) (by kernel_rfl) (fun _ _ _ h => h) rfl rfl (fun z => (ex_xor32 rfl rfl)) ?_
      refine hz_take 13 rfl (by kernel_rfl) (by kernel_rfl) (by kernel_rfl) (fun _ _ _ h => h) rfl rfl (fun z => (ex_add32 rfl rfl)) ?_
      refine hz_take 18 rfl (by kernel_rfl) (by kernel_rfl) (by kernel_rfl) (fun _ _ _ h => h) rfl rfl (fun z => (ex_add32 rfl rfl)) ?_
      refine hz_do 20 rfl (by kernel_rfl) (fun a _ => wanted_none rfl a) rfl (exw_call_pure Tryd.func51 rfl (by kernel_rfl) rfl (fun w' hw' => right_any _ 17 (by decide) (by decide) w')) (fun _ => (wTo b k).getD (16 + k) 0) (by decide) (fun _ _ => (.cons 0 (by rw [set_self]; rfl) (.cons 1 rfl .nil))) (fun _ _ => ?_)
      refine hz_do 22 rfl (by kernel_rfl) (fun a _ => wanted_none rfl a) rfl (exw_call_pure Tryd.func51 rfl (by kernel_rfl) rfl (fun w' hw' => right_any _ 19 (by decide) (by decide) w')) (fun _ => (wTo b k).getD (16 + k) 0) (by decide) (fun _ _ => (.cons 0 (by rw [set_self]; rfl) (.cons 1 rfl .nil))) (fun _ _ => ?_)
      refine hz_take 23 rfl (by kernel_rfl) (by kernel_rfl) (by kernel_rfl) (fun _ _ _ h => h) rfl rfl (fun z => (ex_xor32 rfl rfl)) ?_
      refine hz_take 26 rfl (by kernel_rfl) (by kernel_rfl) (by kernel_rfl) (fun _ _ _ h => h) rfl rfl (fun z => (ex_xor32 rfl rfl)) ?_
      refine hz_take 27 rfl (by kernel_rfl) (by kernel_rfl) (by kernel_rfl) (fun _ _ _ h => h) rfl rfl (fun z => (ex_add32 rfl rfl)) ?_
      refine hz_take 28 rfl (by kernel_rfl) (by kernel_rfl) (by kernel_rfl) (fun _ _ _ h => h) rfl rfl (fun z => (ex_addr_arr0 rfl rfl Tryd.underlying64 size61 (by omega))) ?_
      refine hz_do 29 rfl (by kernel_rfl) (fun a _ => wanted_none rfl a) rfl (exw_store0 rfl rfl (vws_get _ _ (by rw [wTo_length]; omega)) rfl size61 (vws_put _ _ _)) (fun _ => _) (by decide) (fun _ _ => (.cons 0 rfl (.cons 1 rfl .nil))) (fun _ _ => ?_)
      refine hz_done (by kernel_rfl) ?_
      refine hk_block_normal ?_
      refine hk_then_code ?_
      refine hl_region ?_
      refine ho_val rfl rfl (ex_move rfl) ?_
      refine ho_val rfl rfl (ex_addN (q := 1) rfl rfl (by omega)) ?_
      refine ho_val rfl rfl (ex_assign rfl) ?_
      refine ho_nil ?_
      refine hk_then_normal ?_
      exact hk_round (k + 1) (by omega) (by omega) ⟨rfl, rfl, rfl, trivial⟩ _ (by decide) (.cons 0 rfl (.cons 1 rfl .nil))
    · try simp only [decide_eq_true_eq, decide_eq_false_iff_not, beq_iff_eq, beq_eq_false_iff_ne, bne_iff_ne, bne_eq_false_iff_eq, ne_eq, Int.not_lt, Int.not_le, gt_iff_lt, ge_iff_le] at hc1
      obtain rfl : k = 48 := by omega
      refine hl_exit ?_
      refine hk_then_exit ?_
      refine hk_then_exit ?_
      refine hk_block_hit ?_
      refine hk_then_code ?_
      refine hl_seq ?_
      refine hl_region ?_
      refine ho_val rfl rfl (ex_move rfl) ?_
      refine ho_val rfl rfl (ex_nilCheck rfl) ?_
      refine ho_val rfl rfl (ex_load_agg (xs := S.map vw) rfl (fun w' hw' => Sl.own hw' 1 rfl rfl (wrow_all _ _)) Tryd.underlying62 rfl (by rw [size62, List.length_map, hS])) ?_
      refine ho_do rfl rfl (exw_alloc_cs (z := .agg (vws (List.replicate 8 0))) (vws (List.replicate 8 0)) (by kernel_rfl) rfl) (fun b9 hb9 => ?_)
      refine ho_do rfl rfl (exw_store_row0 rfl rfl (by rw [size62]; simp [hS]) (by simp [vws_size, hS]) (vws_one _)) (fun _ _ => ?_)
      refine ho_nil ?_
      refine hk_then_code ?_
      refine hl_seq ?_
      refine hl_seq ?_
      refine hl_region ?_
      refine ho_val rfl rfl (ex_move rfl) ?_
      refine ho_nil ?_
      refine hk_then_code ?_
      refine hl_block ?_
      refine hl_loop (G := Nat) (fun k => 64 - k) (fun k => k ≤ 64) (fun k => [(0, .pointer (some ⟨g, 0, none⟩)), (4, .pointer (some ⟨b4, 0, none⟩)), (9, .pointer (some ⟨b9, 0, none⟩)), (101, .int .i64 (k : Nat))]) (fun k => [⟨some b9, vws (sTo tK (wTo b 48) S k), 62, (0, 0)⟩, ⟨some b4, vws (wTo b 48), 64, (0, 0)⟩, ⟨some g, wrow S tail, et, (0, 0)⟩]) 0 (by omega) ⟨rfl, rfl, rfl, rfl, trivial⟩ _ (by decide) (.cons 0 rfl (.cons 1 rfl (.cons 2 rfl .nil))) (fun k hk => ?_)
      refine hl_seq ?_
      refine hl_region ?_
      refine ho_val rfl rfl (ex_lss rfl rfl rfl) ?_
      refine ho_nil ?_
      refine hk_then_code ?_
      refine hl_seq ?_
      refine hl_if rfl (fun hc2 => ?_) (fun hc2 => ?_)
      · try simp only [decide_eq_true_eq, decide_eq_false_iff_not, beq_iff_eq, beq_eq_false_iff_ne, bne_iff_ne, bne_eq_false_iff_eq, ne_eq, Int.not_lt, Int.not_le, gt_iff_lt, ge_iff_le] at hc2
        have hk5 : k < 64 := by omega
        refine hl_skip ?_
        refine hk_then_code ?_
        refine hl_seq ?_
        refine hl_block ?_
        refine hl_seq ?_
        refine hl_region ?_
        refine ho_val rfl rfl (ex_move rfl) ?_
        refine ho_val rfl rfl (ex_assign rfl) ?_
        refine ho_nil ?_
        refine hk_then_code ?_
        refine hl_seq ?_
        refine hl_still 11 (by kernel_rfl) (by kernel_rfl) ?_
        refine hs_val rfl rfl (ex_addr_arr0 (k := 0) rfl rfl Tryd.underlying62 size61 (by decide)) ?_
        refine hs_val rfl rfl (ex_load rfl 0 rfl rfl (vws_get _ _ (by rw [sTo_length _ _ _ hS]; decide)) Tryd.underlying61 rfl) ?_
        refine hs_val rfl rfl (ex_addr_arr0 (k := 1) rfl rfl Tryd.underlying62 size61 (by decide)) ?_
        refine hs_val rfl rfl (ex_load rfl 0 rfl rfl (vws_get _ _ (by rw [sTo_length _ _ _ hS]; decide)) Tryd.underlying61 rfl) ?_
        refine hs_val rfl rfl (ex_addr_arr0 (k := 2) rfl rfl Tryd.underlying62 size61 (by decide)) ?_
        refine hs_val rfl rfl (ex_load rfl 0 rfl rfl (vws_get _ _ (by rw [sTo_length _ _ _ hS]; decide)) Tryd.underlying61 rfl) ?_
        refine hs_val rfl rfl (ex_addr_arr0 (k := 4) rfl rfl Tryd.underlying62 size61 (by decide)) ?_
        refine hs_val rfl rfl (ex_load rfl 0 rfl rfl (vws_get _ _ (by rw [sTo_length _ _ _ hS]; decide)) Tryd.underlying61 rfl) ?_
        refine hs_val rfl rfl (ex_assign rfl) ?_
        refine hs_val rfl rfl (ex_assign rfl) ?_
        refine hs_val rfl rfl (ex_assign rfl) ?_
        refine hs_nil ?_
        refine ho_val rfl rfl (ex_assign rfl) ?_
        refine ho_nil ?_
        refine hk_then_code ?_
        refine hl_seq ?_
        refine hl_held _ (by kernel_rfl) (by decide) (.cons 0 rfl (.cons 1 rfl (.cons 2 rfl .nil))) ?_
        refine ha_take 0 rfl (by kernel_rfl) (by kernel_rfl) (by kernel_rfl) (fun _ _ _ h => h) rfl rfl (ex_addr_arr0 (k := 7) rfl rfl Tryd.underlying62 size61 (by decide)) ?_
        refine ha_take 1 rfl (by kernel_rfl) (by kernel_rfl) (by kernel_rfl) (fun _ _ _ h => h) rfl rfl (ex_load rfl 0 rfl rfl (vws_get _ _ (by rw [sTo_length _ _ _ hS]; decide)) Tryd.underlying61 rfl) ?_
        refine ha_take 2 rfl (by kernel_rfl) (by kernel_rfl) (by kernel_rfl) (fun _ _ _ h => h) rfl rfl (ex_move rfl) ?_
        refine ha_take 4 rfl (by kernel_rfl) (by kernel_rfl) (by kernel_rfl) (fun _ _ _ h => h) rfl rfl (ex_move rfl) ?_
        refine ha_take 7 rfl (by kernel_rfl) (by kernel_rfl) (by kernel_rfl) (fun _ _ _ h => h) rfl rfl (ex_move rfl) ?_
        refine ha_take 11 rfl (by kernel_rfl) (by kernel_rfl) (by kernel_rfl) (fun _ _ _ h => h) rfl rfl (ex_move rfl) ?_
        refine ha_take 12 rfl (by kernel_rfl) (by kernel_rfl) (by kernel_rfl) (fun _ _ _ h => h) rfl rfl (ex_addr_arr0 (k := 5) rfl rfl Tryd.underlying62 size61 (by decide)) ?_
        refine ha_take 13 rfl (by kernel_rfl) (by kernel_rfl) (by kernel_rfl) (fun _ _ _ h => h) rfl rfl (ex_load rfl 0 rfl rfl (vws_get _ _ (by rw [sTo_length _ _ _ hS]; decide)) Tryd.underlying61 rfl) ?_
        refine ha_take 14 rfl (by kernel_rfl) (by kernel_rfl) (by kernel_rfl) (fun _ _ _ h => h) rfl rfl (ex_and32 rfl rfl) ?_
        refine ha_take 15 rfl (by kernel_rfl) (by kernel_rfl) (by kernel_rfl) (fun _ _ _ h => h) rfl rfl (ex_move rfl) ?_
        refine ha_take 16 rfl (by kernel_rfl) (by kernel_rfl) (by kernel_rfl) (fun _ _ _ h => h) rfl rfl (ex_not32 rfl) ?_
        refine ha_take 17 rfl (by kernel_rfl) (by kernel_rfl) (by kernel_rfl) (fun _ _ _ h => h) rfl rfl (ex_addr_arr0 (k := 6) rfl rfl Tryd.underlying62 size61 (by decide)) ?_
        refine ha_take 18 rfl (by kernel_rfl) (by kernel_rfl) (by kernel_rfl) (fun _ _ _ h => h) rfl rfl (ex_load rfl 0 rfl rfl (vws_get _ _ (by rw [sTo_length _ _ _ hS]; decide)) Tryd.underlying61 rfl) ?_
        refine ha_take 19 rfl (by kernel_rfl) (by kernel_rfl) (by kernel_rfl) (fun _ _ _ h => h) rfl rfl (ex_and32 rfl rfl) ?_
        refine ha_take 20 rfl (by kernel_rfl) (by kernel_rfl) (by kernel_rfl) (fun _ _ _ h => h) rfl rfl (ex_xor32 rfl rfl) ?_
        refine ha_take 22 rfl (by kernel_rfl) (by kernel_rfl) (by kernel_rfl) (fun _ _ _ h => h) rfl rfl (ex_move rfl) ?_
        refine ha_take 23 rfl (by kernel_rfl) (by kernel_rfl) (by kernel_rfl) (fun _ _ _ h => h) rfl rfl (ex_addr_arr0 rfl rfl Tryd.underlying64 size61 (by omega)) ?_
        refine ha_take 24 rfl (by kernel_rfl) (by kernel_rfl) (by kernel_rfl) (fun _ _ _ h => h) rfl rfl (ex_load_old (p := ⟨3, k, none⟩) rfl (fun w' hw' => (hK.old hw' (fun q hq => by obtain rfl := Option.some.inj hq; simpa using hg3)).cell0 (tK_get k (by omega))) Tryd.underlying61 rfl) ?_
        refine ha_take 26 rfl (by kernel_rfl) (by kernel_rfl) (by kernel_rfl) (fun _ _ _ h => h) rfl rfl (ex_move rfl) ?_
        refine ha_take 27 rfl (by kernel_rfl) (by kernel_rfl) (by kernel_rfl) (fun _ _ _ h => h) rfl rfl (ex_addr_arr0 rfl rfl Tryd.underlying64 size61 (by omega)) ?_
        refine ha_take 28 rfl (by kernel_rfl) (by kernel_rfl) (by kernel_rfl) (fun _ _ _ h => h) rfl rfl (ex_load rfl 1 rfl rfl (vws_get _ _ (by rw [wTo_length]; omega)) Tryd.underlying61 rfl) ?_
        refine ha_do 3 rfl (by kernel_rfl) (fun a _ => wanted_none rfl a) rfl (exw_call_pure Tryd.func51 rfl (by kernel_rfl) rfl (fun w' hw' => right_any _ 6 (by decide) (by decide) w')) (by decide) (fun _ _ => (.cons 0 rfl (.cons 1 rfl (.cons 2 rfl .nil)))) (fun _ _ => ?_)
        refine ha_do 5 rfl (by kernel_rfl) (fun a _ => wanted_none rfl a) rfl (exw_call_pure Tryd.func51 rfl (by kernel_rfl) rfl (fun w' hw' => right_any _ 11 (by decide) (by decide) w')) (by decide) (fun _ _ => (.cons 0 rfl (.cons 1 rfl (.cons 2 rfl .nil)))) (fun _ _ => ?_)
        refine ha_take 6 rfl (by kernel_rfl) (by kernel_rfl) (by kernel_rfl) (fun _ _ _ h => h) rfl rfl (ex_xor32 rfl rfl) ?_
        refine ha_do 8 rfl (by kernel_rfl) (fun a _ => wanted_none rfl a) rfl (exw_call_pure Tryd.func51 rfl (by kernel_rfl) rfl (fun w' hw' => right_any _ 25 (by decide) (by decide) w')) (by decide) (fun _ _ => (.cons 0 rfl (.cons 1 rfl (.cons 2 rfl .nil)))) (fun _ _ => ?_)
        refine ha_take 9 rfl (by kernel_rfl) (by kernel_rfl) (by kernel_rfl) (fun _ _ _ h => h) rfl rfl (ex_xor32 rfl rfl) ?_
        refine ha_take 10 rfl (by kernel_rfl) (by kernel_rfl) (by kernel_rfl) (fun _ _ _ h => h) rfl rfl (ex_add32 rfl rfl) ?_
        refine ha_take 21 rfl (by kernel_rfl) (by kernel_rfl) (by kernel_rfl) (fun _ _ _ h => h) rfl rfl (ex_add32 rfl rfl) ?_
        refine ha_take 25 rfl (by kernel_rfl) (by kernel_rfl) (by kernel_rfl) (fun _ _ _ h => h) rfl rfl (ex_add32 rfl rfl) ?_
        refine ha_take 29 rfl (by kernel_rfl) (by kernel_rfl) (by kernel_rfl) (fun _ _ _ h => h) rfl rfl (ex_add32 rfl rfl) ?_
        refine ha_take 30 rfl (by kernel_rfl) (by kernel_rfl) (by kernel_rfl) (fun _ _ _ h => h) rfl rfl (ex_assign rfl) ?_
        refine ha_done (by kernel_rfl) ?_
        refine hk_then_code ?_
        refine hl_seq ?_
        refine hl_region ?_
        refine ho_val rfl rfl (ex_move rfl) ?_
        refine ho_do rfl rfl (exw_call_pure Tryd.func51 rfl (by kernel_rfl) rfl (fun w' hw' => right_any _ 2 (by decide) (by decide) w')) (fun _ _ => ?_)
        refine ho_val rfl rfl (ex_move rfl) ?_
        refine ho_do rfl rfl (exw_call_pure Tryd.func51 rfl (by kernel_rfl) rfl (fun w' hw' => right_any _ 13 (by decide) (by decide) w')) (fun _ _ => ?_)
        refine ho_val rfl rfl (ex_xor32 rfl rfl) ?_
        refine ho_val rfl rfl (ex_move rfl) ?_
        refine ho_do rfl rfl (exw_call_pure Tryd.func51 rfl (by kernel_rfl) rfl (fun w' hw' => right_any _ 22 (by decide) (by decide) w')) (fun _ _ => ?_)
        refine ho_val rfl rfl (ex_xor32 rfl rfl) ?_
        refine ho_val rfl rfl (ex_move rfl) ?_
        refine ho_val rfl rfl (ex_move rfl) ?_
        refine ho_val rfl rfl (ex_and32 rfl rfl) ?_
        refine ho_val rfl rfl (ex_move rfl) ?_
        refine ho_val rfl rfl (ex_move rfl) ?_
        refine ho_val rfl rfl (ex_and32 rfl rfl) ?_
        refine ho_val rfl rfl (ex_xor32 rfl rfl) ?_
        refine ho_val rfl rfl (ex_move rfl) ?_
        refine ho_val rfl rfl (ex_move rfl) ?_
        refine ho_val rfl rfl (ex_and32 rfl rfl) ?_
        refine ho_val rfl rfl (ex_xor32 rfl rfl) ?_
        refine ho_val rfl rfl (ex_add32 rfl rfl) ?_
        refine ho_val rfl rfl (ex_assign rfl) ?_
        refine ho_nil ?_
        refine hk_then_code ?_
        refine hl_seq ?_
        refine hl_held _ (by kernel_rfl) (by decide) (.cons 1 rfl (.cons 2 rfl .nil)) ?_
        refine ha_take 0 rfl (by kernel_rfl) (by kernel_rfl) (by kernel_rfl) (fun _ _ _ h => h) rfl rfl (ex_slice_arr_lo (i := 1) rfl rfl Tryd.underlying62 _ size61 (by omega)) ?_
        refine ha_take 1 rfl (by kernel_rfl) (by kernel_rfl) (by kernel_rfl) (fun _ _ _ h => h) rfl rfl (ex_slice_arr_hi (j := 7) rfl rfl Tryd.underlying62 _ size61 (by omega)) ?_
        refine ha_do 2 rfl (by kernel_rfl) (fun a _ => wanted_none rfl a) rfl (exw_copy0 (g := b9) (o := 1) (m := 7) (c := 7) rfl rfl (fun w' hw' => (Sl.own hw' 0 rfl rfl (vws_all _)).take 7) (by simp [sTo_length _ _ _ hS]) (fun u hu => map_vw_one _ u (List.mem_of_mem_take hu)) Tryd.underlying79 size61 (by simp [vws_size, sTo_length _ _ _ hS]) (fun h => nomatch h) rfl (copy7 _ (sTo_length _ _ _ hS k))) (by decide) (fun _ _ => (.cons 1 rfl (.cons 2 rfl .nil))) (fun _ _ => ?_)
        refine ha_done (by kernel_rfl) ?_
        refine hk_then_code ?_
        refine hl_seq ?_
        refine hl_region ?_
        refine ho_val rfl rfl (ex_addr_arr0 (k := 4) rfl rfl Tryd.underlying62 size61 (by decide)) ?_
        refine ho_val rfl rfl (ex_load rfl 0 rfl rfl (vws_get _ _ (by simp [shift])) Tryd.underlying61 rfl) ?_
        refine ho_val rfl rfl (ex_move rfl) ?_
        refine ho_val rfl rfl (ex_add32 rfl rfl) ?_
        refine ho_val rfl rfl (ex_addr_arr0 (k := 4) rfl rfl Tryd.underlying62 size61 (by decide)) ?_
        refine ho_do rfl rfl (exw_store0 rfl rfl (vws_get _ _ (by simp [shift])) rfl size61 (vws_put _ _ _)) (fun _ _ => ?_)
        refine ho_nil ?_
        refine hk_then_code ?_
        refine hl_region ?_
        refine ho_val rfl rfl (ex_move rfl) ?_
        refine ho_val rfl rfl (ex_move rfl) ?_
        refine ho_val rfl rfl (ex_add32 rfl rfl) ?_
        refine ho_val rfl rfl (ex_addr_arr0 (k := 0) rfl rfl Tryd.underlying62 size61 (by decide)) ?_
        refine ho_do rfl rfl (exw_store0 rfl rfl (vws_get _ _ (by simp [shift])) rfl size61 (vws_put _ _ _)) (fun _ _ => ?_)
        refine ho_nil ?_
        refine hk_block_normal ?_
        refine hk_then_code ?_
        refine hl_region ?_
        refine ho_val rfl rfl (ex_addN (q := 1) rfl rfl (by omega)) ?_
        refine ho_val rfl rfl (ex_move rfl) ?_
        refine ho_nil ?_
        refine hk_then_normal ?_
        exact hk_round (k + 1) (by omega) (by omega) ⟨rfl, rfl, rfl, rfl, trivial⟩ _ (by decide) (.cons 0 rfl (.cons 1 rfl (.cons 2 rfl .nil)))
      · try simp only [decide_eq_true_eq, decide_eq_false_iff_not, beq_iff_eq, beq_eq_false_iff_ne, bne_iff_ne, bne_eq_false_iff_eq, ne_eq, Int.not_lt, Int.not_le, gt_iff_lt, ge_iff_le] at hc2
        obtain rfl : k = 64 := by omega
        refine hl_exit ?_
        refine hk_then_exit ?_
        refine hk_then_exit ?_
        refine hk_block_hit ?_
        refine hk_then_code ?_
        refine hl_seq ?_
        refine hl_region ?_
        refine ho_val rfl rfl (ex_move rfl) ?_
        refine ho_nil ?_
        refine hk_then_code ?_
        refine hl_block ?_
        refine hl_loop (G := Nat) (fun k => 8 - k) (fun k => k ≤ 8) (fun k => [(0, .pointer (some ⟨g, 0, none⟩)), (9, .pointer (some ⟨b9, 0, none⟩)), (175, .int .i64 (k : Nat))]) (fun k => [⟨some b9, vws (sTo tK (wTo b 48) S 64), 62, (0, 0)⟩, ⟨some g, wrow (addTo S (sTo tK (wTo b 48) S 64) k) tail, et, (0, 0)⟩]) 0 (by omega) ⟨rfl, rfl, rfl, trivial⟩ _ (by decide) (.cons 0 rfl (.cons 2 rfl .nil)) (fun k hk => ?_)
        refine hl_seq ?_
        refine hl_region ?_
        refine ho_val rfl rfl (ex_lss rfl rfl rfl) ?_
        refine ho_nil ?_
        refine hk_then_code ?_
        refine hl_seq ?_
        refine hl_if rfl (fun hc3 => ?_) (fun hc3 => ?_)
        · try simp only [decide_eq_true_eq, decide_eq_false_iff_not, beq_iff_eq, beq_eq_false_iff_ne, bne_iff_ne, bne_eq_false_iff_eq, ne_eq, Int.not_lt, Int.not_le, gt_iff_lt, ge_iff_le] at hc3
          have hk5 : k < 8 := by omega
          refine hl_skip ?_
          refine hk_then_code ?_
          refine hl_seq ?_
          refine hl_block ?_
          refine hl_seq ?_
          refine hl_region ?_
          refine ho_val rfl rfl (ex_move rfl) ?_
          refine ho_val rfl rfl (ex_assign rfl) ?_
          refine ho_nil ?_
          refine hk_then_code ?_
          refine hl_still 11 (by kernel_rfl) (by kernel_rfl) ?_
          refine hs_val rfl rfl (ex_move rfl) ?_
          refine hs_val rfl rfl (ex_move rfl) ?_
          refine hs_val rfl rfl (ex_nilCheck rfl) ?_
          refine hs_val rfl rfl (ex_addr_arr0 rfl rfl Tryd.underlying62 size61 (by omega)) ?_
          refine hs_val rfl rfl (ex_load rfl 1 rfl rfl (wrow_get _ _ _ (by rw [addTo_length, hS]; omega)) Tryd.underlying61 rfl) ?_
          refine hs_val rfl rfl (ex_move rfl) ?_
          refine hs_val rfl rfl (ex_addr_arr0 rfl rfl Tryd.underlying62 size61 (by omega)) ?_
          refine hs_val rfl rfl (ex_load rfl 0 rfl rfl (vws_get _ _ (by rw [sTo_length _ _ _ hS]; omega)) Tryd.underlying61 rfl) ?_
          refine hs_val rfl rfl (ex_add32 rfl rfl) ?_
          refine hs_val rfl rfl (ex_nilCheck rfl) ?_
          refine hs_val rfl rfl (ex_addr_arr0 rfl rfl Tryd.underlying62 size61 (by omega)) ?_
          refine hs_nil ?_
          refine ho_do rfl rfl (exw_store1 rfl rfl (wrow_get _ _ _ (by rw [addTo_length, hS]; omega)) rfl size61 (wrow_set _ _ _ _ (by rw [addTo_length, hS]; omega))) (fun _ _ => ?_)
          refine ho_nil ?_
          refine hk_block_normal ?_
          refine hk_then_code ?_
          refine hl_region ?_
          refine ho_val rfl rfl (ex_addN (q := 1) rfl rfl (by omega)) ?_
          refine ho_val rfl rfl (ex_move rfl) ?_
          refine ho_nil ?_
          refine hk_then_normal ?_
          exact hk_round (k + 1) (by omega) (by omega) ⟨rfl, rfl, rfl, trivial⟩ _ (by decide) (.cons 0 rfl (.cons 1 rfl .nil))
        · try simp only [decide_eq_true_eq, decide_eq_false_iff_not, beq_iff_eq, beq_eq_false_iff_ne, bne_iff_ne, bne_eq_false_iff_eq, ne_eq, Int.not_lt, Int.not_le, gt_iff_lt, ge_iff_le] at hc3
          obtain rfl : k = 8 := by omega
          refine hl_exit ?_
          refine hk_then_exit ?_
          refine hk_then_exit ?_
          refine hk_block_hit ?_
          exact hk_end0 rfl (fun w' hw' => ⟨rfl, hw'.pick (is := [1]) (by decide) (.cons 1 rfl .nil)⟩)

end Go.Proofs.YtdmagjelmhcemaaDoor
