/- The digest's methods on a hasher that there isn't; the laws' hex. -/
import Derived.Test.YtdmagjelmhcemaaDoorRows
import Derived.Test.YtdmagjelmhcemaaDoorFacts
import Derived.Test.YtdmagjelmhcemaaDoorBytes
import Derived.Test.YtdmagjelmhcemaaDoorSha
import Derived.Test.YtdmagjelmhcemaaDoorTextLaw2
import Derived.Test.YtdmagjelmhcemaaDoorNil
import Derived.Test.YtdmagjelmhcemaaDoorG
import Derived.Test.YtdmagjelmhcemaaDoorD
import Derived.Test.YtdmagjelmhcemaaDoorC
import Derived.Test.YtdmagjelmhcemaaDoorMacWalk
import Derived.KernelRfl
namespace Go.Proofs.YtdmagjelmhcemaaDoor
open Go.RowKit
set_option linter.unusedVariables false
set_option linter.unusedSimpArgs false

set_option maxHeartbeats 400000 in
theorem reset_nil (w : World) :
    Calls Tryd.prog 29 #[Value.pointer none] w fun e w' => e = .returned (.tuple #[]) ∧ Below w.heap.size w w' := by
  refine calls_enter (n := 9) (hs := []) (M := []) (vs := [Value.pointer none]) Tryd.func29 rfl rfl rfl (Hp.start w) ?_
  refine hl_seq ?_
  refine hl_region ?_
  refine ho_val rfl rfl (ex_move rfl) ?_
  refine ho_val rfl rfl (ex_neq_ptr rfl rfl Tryd.underlying34 rfl) ?_
  refine ho_nil ?_
  refine hk_then_code ?_
  refine hl_false rfl ?_
  refine hl_skip ?_
  exact hk_end0 rfl (fun w' hw' => ⟨rfl, hw'.below⟩)

set_option maxHeartbeats 400000 in
theorem write_nil (q : Option Addr) (n c : Nat) (w : World) :
    Calls Tryd.prog 21 #[Value.pointer none, slv q n c] w fun e w' => e = .returned (.int .i64 0) ∧ Below w.heap.size w w' := by
  refine calls_enter (n := 72) (hs := []) (M := []) (vs := [Value.pointer none, slv q n c]) Tryd.func21 rfl rfl rfl (Hp.start w) ?_
  refine hl_seq ?_
  refine hl_region ?_
  refine ho_val rfl rfl (ex_assign rfl) ?_
  refine ho_nil ?_
  refine hk_then_code ?_
  refine hl_seq ?_
  refine hl_seq ?_
  refine hl_region ?_
  refine ho_val rfl rfl (ex_move rfl) ?_
  refine ho_val rfl rfl (ex_eql_ptr rfl rfl Tryd.underlying34 rfl) ?_
  refine ho_nil ?_
  refine hk_then_code ?_
  refine hl_true rfl ?_
  refine hl_seq ?_
  refine hl_region ?_
  refine ho_val rfl rfl (ex_assign rfl) ?_
  refine ho_nil ?_
  refine hk_then_code ?_
  refine hl_ret ?_
  refine hk_then_ret ?_
  exact hk_ret rfl rfl (fun w' hw' => ⟨rfl, hw'.below⟩)

set_option maxHeartbeats 400000 in
theorem sum_nil (w : World) :
    Calls Tryd.prog 23 #[Value.pointer none] w fun e w' => e = .returned (.agg (vbs (List.replicate 32 0))) ∧ Below w.heap.size w w' := by
  refine calls_enter (n := 81) (hs := []) (M := []) (vs := [Value.pointer none]) Tryd.func23 rfl rfl rfl (Hp.start w) ?_
  refine hl_seq ?_
  refine hl_region ?_
  refine ho_do rfl rfl (exw_alloc_cs (z := .agg (vbs (List.replicate 32 0))) (vbs (List.replicate 32 0)) (by kernel_rfl) rfl) (fun b2 hb2 => ?_)
  refine ho_nil ?_
  refine hk_then_code ?_
  refine hl_seq ?_
  refine hl_region ?_
  refine ho_do rfl rfl (exw_alloc_cs (z := .agg (vbs (List.replicate 32 0))) (vbs (List.replicate 32 0)) (by kernel_rfl) rfl) (fun b3 hb3 => ?_)
  refine ho_nil ?_
  refine hk_then_code ?_
  refine hl_seq ?_
  refine hl_seq ?_
  refine hl_region ?_
  refine ho_val rfl rfl (ex_move rfl) ?_
  refine ho_val rfl rfl (ex_eql_ptr rfl rfl Tryd.underlying34 rfl) ?_
  refine ho_nil ?_
  refine hk_then_code ?_
  refine hl_true rfl ?_
  refine hl_seq ?_
  refine hl_region ?_
  refine ho_val rfl rfl (ex_load_row rfl 0 rfl rfl Tryd.underlying25 rfl (by rw [size25, vbs_size, List.length_replicate])) ?_
  refine ho_do rfl rfl (exw_store_row1 rfl rfl (by rw [size25, vbs_size, List.length_replicate]) rfl (vbs_one _)) (fun _ _ => ?_)
  refine ho_nil ?_
  refine hk_then_code ?_
  refine hl_ret ?_
  refine hk_then_ret ?_
  exact hk_ret_row rfl rfl 1 rfl rfl Tryd.underlying25 rfl (by rw [size25, vbs_size, List.length_replicate]) (fun w' hw' => ⟨rfl, hw'.below⟩)

set_option maxHeartbeats 400000 in
theorem len_nil (w : World) :
    Calls Tryd.prog 25 #[Value.pointer none] w fun e w' => e = .returned (.int .i64 0) ∧ Below w.heap.size w w' := by
  refine calls_enter (n := 9) (hs := []) (M := []) (vs := [Value.pointer none]) Tryd.func25 rfl rfl rfl (Hp.start w) ?_
  refine hl_seq ?_
  refine hl_region ?_
  refine ho_val rfl rfl (ex_assign rfl) ?_
  refine ho_nil ?_
  refine hk_then_code ?_
  refine hl_seq ?_
  refine hl_seq ?_
  refine hl_region ?_
  refine ho_val rfl rfl (ex_move rfl) ?_
  refine ho_val rfl rfl (ex_eql_ptr rfl rfl Tryd.underlying34 rfl) ?_
  refine ho_nil ?_
  refine hk_then_code ?_
  refine hl_true rfl ?_
  refine hl_seq ?_
  refine hl_region ?_
  refine ho_val rfl rfl (ex_assign rfl) ?_
  refine ho_nil ?_
  refine hk_then_code ?_
  refine hl_ret ?_
  refine hk_then_ret ?_
  exact hk_ret rfl rfl (fun w' hw' => ⟨rfl, hw'.below⟩)

set_option maxHeartbeats 400000 in
theorem clone_nil (w : World) :
    Calls Tryd.prog 27 #[Value.pointer none] w fun e w' => e = .returned (.pointer none) ∧ Below w.heap.size w w' := by
  refine calls_enter (n := 9) (hs := []) (M := []) (vs := [Value.pointer none]) Tryd.func27 rfl rfl rfl (Hp.start w) ?_
  refine hl_seq ?_
  refine hl_region ?_
  refine ho_val rfl rfl (ex_assign rfl) ?_
  refine ho_nil ?_
  refine hk_then_code ?_
  refine hl_seq ?_
  refine hl_seq ?_
  refine hl_region ?_
  refine ho_val rfl rfl (ex_move rfl) ?_
  refine ho_val rfl rfl (ex_eql_ptr rfl rfl Tryd.underlying34 rfl) ?_
  refine ho_nil ?_
  refine hk_then_code ?_
  refine hl_true rfl ?_
  refine hl_seq ?_
  refine hl_region ?_
  refine ho_val rfl rfl (ex_assign rfl) ?_
  refine ho_nil ?_
  refine hk_then_code ?_
  refine hl_ret ?_
  refine hk_then_ret ?_
  exact hk_ret rfl rfl (fun w' hw' => ⟨rfl, hw'.below⟩)

set_option maxHeartbeats 400000 in
theorem hex32_any (l : List UInt8) (hl : l.length = 32) (w : World) :
    Calls Tryd.prog 31 #[Value.agg (vbs l)] w fun e w' => e = .returned (.string (bs (hexOf l))) ∧ Below w.heap.size w w' := by
  refine calls_enter (n := 24) (hs := []) (M := []) (vs := [Value.agg (vbs l)]) Tryd.func31 rfl rfl rfl (Hp.start w) ?_
  refine hl_seq ?_
  refine hl_region ?_
  refine ho_do rfl rfl (exw_box_agg rfl) (fun b1 hb1 => ?_)
  refine ho_val rfl rfl (ex_assign rfl) ?_
  refine ho_nil ?_
  refine hk_then_code ?_
  refine hl_seq ?_
  refine hl_region ?_
  refine ho_val rfl rfl (ex_assign rfl) ?_
  refine ho_nil ?_
  refine hk_then_code ?_
  refine hl_seq ?_
  refine hl_seq ?_
  refine hl_region ?_
  refine ho_val rfl rfl (ex_assign rfl) ?_
  refine ho_nil ?_
  refine hk_then_code ?_
  refine hl_block ?_
  refine hl_nil_block 5 ?_
  refine hl_loop (G := Nat × Option Nat × Nat × List Value) (fun g => 32 - g.1) (fun g => g.1 ≤ 32 ∧ RowOk 1 g.2.1 (2 * g.1) g.2.2.1 ((hexOf (l.take g.1)).map vb) g.2.2.2) (fun g => [(1, .pointer (some ⟨b1, 0, none⟩)), (3, rowv g.2.1 (2 * g.1) g.2.2.1), (4, .int .i64 (g.1 : Nat))]) (fun g => [⟨g.2.1, ((hexOf (l.take g.1)).map vb ++ g.2.2.2).toArray, 5, (0, 0)⟩, ⟨some b1, vbs l, 25, (0, 0)⟩]) (0, none, 0, []) ⟨Nat.zero_le _, RowOk.start _⟩ ⟨rfl, rfl, rfl, trivial⟩ _ (by decide) (.cons 0 rfl (.cons 1 rfl .nil)) (fun g ⟨hg, hok⟩ => ?_)
  refine hl_seq ?_
  refine hl_seq ?_
  refine hl_region ?_
  refine ho_val rfl rfl (ex_move rfl) ?_
  refine ho_val rfl rfl (ex_lss rfl rfl rfl) ?_
  refine ho_nil ?_
  refine hk_then_code ?_
  refine hl_if rfl (fun hc0 => ?_) (fun hc0 => ?_)
  · try simp only [decide_eq_true_eq, decide_eq_false_iff_not, beq_iff_eq, beq_eq_false_iff_ne, bne_iff_ne, bne_eq_false_iff_eq, ne_eq, Int.not_lt, Int.not_le, gt_iff_lt, ge_iff_le] at hc0
    have hk : g.1 < 32 := by omega
    refine hl_skip ?_
    refine hk_then_code ?_
    refine hl_seq ?_
    refine hl_block ?_
    refine hl_held _ (by kernel_rfl) (by decide) (.cons 1 rfl .nil) ?_
    refine ha_take 0 rfl (by kernel_rfl) (by kernel_rfl) (by kernel_rfl) (fun _ _ _ h => h) rfl rfl (ex_move rfl) ?_
    refine ha_take 1 rfl (by kernel_rfl) (by kernel_rfl) (by kernel_rfl) (fun _ _ _ h => h) rfl rfl (ex_move rfl) ?_
    refine ha_take 2 rfl (by kernel_rfl) (by kernel_rfl) (by kernel_rfl) (fun _ _ _ h => h) rfl rfl (ex_addr_arr0 rfl rfl Tryd.underlying25 size5 (by omega)) ?_
    refine ha_take 3 rfl (by kernel_rfl) (by kernel_rfl) (by kernel_rfl) (fun _ _ _ h => h) rfl rfl (ex_load rfl 0 rfl rfl (vbs_getD _ _ (by omega)) Tryd.underlying5 rfl) ?_
    refine ha_take 4 rfl (by kernel_rfl) (by kernel_rfl) (by kernel_rfl) (fun _ _ _ h => h) rfl rfl (ex_shrN (q := 4) rfl rfl (by have := (l.getD g.1 0).toNat_lt; simp only [cap]; omega)) ?_
    refine ha_take 5 rfl (by kernel_rfl) (by kernel_rfl) (by kernel_rfl) (fun _ _ _ h => h) rfl rfl (ex_index_str rfl rfl Tryd.underlying9 (by have := (l.getD g.1 0).toNat_lt; simp only [List.length_cons, List.length_nil]; omega)) ?_
    refine ha_take 6 rfl (by kernel_rfl) (by kernel_rfl) (by kernel_rfl) (fun _ _ _ h => h) rfl rfl (ex_move rfl) ?_
    refine ha_take 7 rfl (by kernel_rfl) (by kernel_rfl) (by kernel_rfl) (fun _ _ _ h => h) rfl rfl (ex_addr_arr0 rfl rfl Tryd.underlying25 size5 (by omega)) ?_
    refine ha_take 8 rfl (by kernel_rfl) (by kernel_rfl) (by kernel_rfl) (fun _ _ _ h => h) rfl rfl (ex_load rfl 0 rfl rfl (vbs_getD _ _ (by omega)) Tryd.underlying5 rfl) ?_
    refine ha_take 9 rfl (by kernel_rfl) (by kernel_rfl) (by kernel_rfl) (fun _ _ _ h => h) rfl rfl (ex_andN (q := 15) rfl rfl (by have := (l.getD g.1 0).toNat_lt; simp only [cap]; omega) (by decide)) ?_
    refine ha_take 10 rfl (by kernel_rfl) (by kernel_rfl) (by kernel_rfl) (fun _ _ _ h => h) rfl rfl (ex_index_str rfl rfl Tryd.underlying9 (by rw [and15]; have := (l.getD g.1 0).toNat_lt; simp only [List.length_cons, List.length_nil]; omega)) ?_
    refine ha_do 11 rfl (by kernel_rfl) (fun a _ => wanted_none rfl a) rfl (exw_list (xs := [.tmp 14, .tmp 19]) rfl rfl rfl Tryd.underlying22 info5 rfl rfl (by decide)) (by decide) (fun b20 hb20 => (.cons 2 rfl .nil)) (fun b20 hb20 => ?_)
    refine ha_pick _ (by decide) (.cons 1 rfl (.cons 0 rfl (.cons 2 rfl .nil))) ?_
    refine ha_do 12 rfl (by kernel_rfl) (fun a _ => wanted_none rfl a) rfl (exw_append0 (xs := (hexOf (l.take g.1)).map vb) (rest := g.2.2.2) rfl rfl rfl hok (fun w hw => Sl.ownAll hw 1 rfl) rfl (by simp only [List.mem_cons, List.not_mem_nil, or_false, forall_eq_or_imp, forall_eq]; exact ⟨rfl, rfl⟩) Tryd.underlying22 info5 rfl (by decide) (by omega) (by simp only [maxLen]; omega) (fun h => nomatch h)) (by decide) (fun y21 hk21 => (.cons 2 rfl .nil)) (fun y21 hk21 => ?_)
    refine ha_take 13 rfl (by kernel_rfl) (by kernel_rfl) (by kernel_rfl) (fun _ _ _ h => h) rfl rfl (ex_assign rfl) ?_
    refine ha_done (by kernel_rfl) ?_
    refine hk_block_normal ?_
    refine hk_then_code ?_
    refine hl_region ?_
    refine ho_val rfl rfl (ex_move rfl) ?_
    refine ho_val rfl rfl (ex_addN (q := 1) rfl rfl (by omega)) ?_
    refine ho_val rfl rfl (ex_assign rfl) ?_
    refine ho_nil ?_
    refine hk_then_normal ?_
    exact hk_round (g.1 + 1, y21) ⟨by dsimp only; omega, by rw [← hex_step l g.1 (by omega)]; exact hk21⟩ (by dsimp only; omega) ⟨rfl, rfl, rfl, trivial⟩ _ (by decide) (.cons 0 (by rw [← hex_step l g.1 (by omega)]; rfl) (.cons 2 rfl .nil))
  · try simp only [decide_eq_true_eq, decide_eq_false_iff_not, beq_iff_eq, beq_eq_false_iff_ne, bne_iff_ne, bne_eq_false_iff_eq, ne_eq, Int.not_lt, Int.not_le, gt_iff_lt, ge_iff_le] at hc0
    have hk : g.1 = 32 := by omega
    refine hl_exit ?_
    refine hk_then_exit ?_
    refine hk_then_exit ?_
    refine hk_block_hit ?_
    refine hk_then_code ?_
    refine hl_seq ?_
    refine hl_region ?_
    refine ho_val rfl rfl (ex_move rfl) ?_
    refine ho_val rfl rfl (ex_conv_bytes rfl (fun w hw => Sl.ownRow hw 0 rfl (fun h => RowOk.empty hok h)) (by rw [hexOf_length, List.length_take]; omega) Tryd.underlying22 Tryd.underlying5 Tryd.underlying9) ?_
    refine ho_val rfl rfl (ex_assign rfl) ?_
    refine ho_nil ?_
    refine hk_then_code ?_
    refine hl_ret ?_
    exact hk_ret rfl rfl (fun w' hw' => ⟨by rw [List.take_of_length_le (by omega)], hw'.below⟩)

end Go.Proofs.YtdmagjelmhcemaaDoor
