/- What the document's Mac answers. -/
import Derived.Test.YtdmagjelmhcemaaDoorRows
import Derived.Test.YtdmagjelmhcemaaDoorFacts
import Derived.Test.YtdmagjelmhcemaaDoorSha
import Derived.Test.YtdmagjelmhcemaaDoorTextLaw2
import Derived.Test.YtdmagjelmhcemaaDoorSha2
import Derived.Test.YtdmagjelmhcemaaDoorMac
import Derived.Test.YtdmagjelmhcemaaDoorG
import Derived.Test.YtdmagjelmhcemaaDoorHashRest
import Derived.Test.YtdmagjelmhcemaaDoorHashSum
import Derived.KernelRfl
import Derived.Test.YtdmagjelmhcemaaDoorRefOf
namespace Go.Proofs.YtdmagjelmhcemaaDoor
open Go.RowKit
set_option linter.unusedVariables false
set_option linter.unusedSimpArgs false

set_option maxHeartbeats 1600000 in
theorem refmac_any (k d : List UInt8) (n n2 : Nat) (hn : k.length = n) (hm : d.length = n2) (p : Option (Nat × Nat)) (c : Nat) (hp : p = none → k.length = 0) (hc : p = none → c = 0) (hcap : k.length ≤ c) (q : Option (Nat × Nat)) (c2 : Nat) (hq : q = none → d.length = 0) (hqc : q = none → c2 = 0) (hqcap : d.length ≤ c2) (hk : k.length ≤ 4194304) (hd : d.length ≤ 2097152) (w : World) (hS : Sl w p (k.map vb)) (hS2 : Sl w q (d.map vb)) (hTK : Sl w (some (1, 0)) (tK.map vw)) (hTH : Sl w (some (0, 0)) (tH.map vw)) :
    Calls Tryd.prog 33 #[slv p n c, slv q n2 c2] w fun e w' => e = .returned (.agg (vbs (hmac k d))) ∧ Below w.heap.size w w' := by
  subst hn
  subst hm
  refine calls_enter (n := 74) (hs := []) (M := []) (vs := [slv p k.length c, slv q d.length c2]) Tryd.func33 rfl rfl rfl (Hp.start w) ?_
  refine hl_seq ?_
  refine hl_region ?_
  refine ho_do rfl rfl (exw_alloc_cs (z := .agg (vbs (List.replicate 32 0))) (vbs (List.replicate 32 0)) (by kernel_rfl) rfl) (fun b4 hb4 => ?_)
  refine ho_nil ?_
  refine hk_then_code ?_
  refine hl_seq ?_
  refine hl_region ?_
  refine ho_do rfl rfl (exw_alloc_cs (z := .agg (vbs (List.replicate 64 0))) (vbs (List.replicate 64 0)) (by kernel_rfl) rfl) (fun b5 hb5 => ?_)
  refine ho_nil ?_
  refine hk_then_code ?_
  refine hl_seq ?_
  refine hl_seq ?_
  refine hl_region ?_
  refine ho_val rfl rfl (ex_move rfl) ?_
  refine ho_val rfl rfl (ex_len_slice rfl Tryd.underlying22) ?_
  refine ho_val rfl rfl (ex_gtr rfl rfl rfl) ?_
  refine ho_nil ?_
  refine hk_then_code ?_
  refine hl_if rfl (fun hc0 => ?_) (fun hc0 => ?_)
  · try simp only [decide_eq_true_eq, decide_eq_false_iff_not, beq_iff_eq, beq_eq_false_iff_ne, bne_iff_ne, bne_eq_false_iff_eq, ne_eq, Int.not_lt, Int.not_le, gt_iff_lt, ge_iff_le] at hc0
    refine hl_seq ?_
    refine hl_region ?_
    refine ho_val rfl rfl (ex_move rfl) ?_
    refine ho_do rfl rfl (exw_call_pure Tryd.func14 rfl (by kernel_rfl) rfl (fun w' hw' => refof_any k _ rfl p c hp hc hk w' (hS.old0 hw') (hTK.old0 hw') (hTH.old0 hw'))) (fun _ _ => ?_)
    refine ho_do rfl rfl (exw_alloc_cs (z := .agg (vbs (List.replicate 32 0))) (vbs (List.replicate 32 0)) (by kernel_rfl) rfl) (fun b6 hb6 => ?_)
    refine ho_do rfl rfl (exw_store_row0 rfl rfl (by rw [size25, vbs_size, sha_length]) (by rw [vbs_size, vbs_size, sha_length]; rfl) (vbs_one _)) (fun _ _ => ?_)
    refine ho_nil ?_
    refine hk_then_code ?_
    refine hl_seq ?_
    refine hl_region ?_
    refine ho_val rfl rfl (ex_assign rfl) ?_
    refine ho_nil ?_
    refine hk_then_code ?_
    refine hl_block ?_
    refine hl_loop (G := Nat) (fun i => 32 - i) (fun i => i ≤ 32) (fun i => [(1, slv q d.length c2), (4, .pointer (some ⟨b4, 0, none⟩)), (5, .pointer (some ⟨b5, 0, none⟩)), (6, .pointer (some ⟨b6, 0, none⟩)), (7, .int .i64 (i : Nat))]) (fun i => [⟨some b5, vbs (cpTo (sha tK tH k) i), 53, (0, 0)⟩, ⟨some b6, vbs (sha tK tH k), 25, (0, 0)⟩, ⟨some b4, vbs (List.replicate 32 0), 25, (0, 0)⟩]) 0 (by omega) ⟨rfl, rfl, rfl, rfl, rfl, trivial⟩ _ (by decide) (.cons 1 rfl (.cons 0 rfl (.cons 2 rfl .nil))) (fun i hi => ?_)
    refine hl_seq ?_
    refine hl_seq ?_
    refine hl_region ?_
    refine ho_val rfl rfl (ex_move rfl) ?_
    refine ho_val rfl rfl (ex_lss rfl rfl rfl) ?_
    refine ho_nil ?_
    refine hk_then_code ?_
    refine hl_if rfl (fun hc1 => ?_) (fun hc1 => ?_)
    · try simp only [decide_eq_true_eq, decide_eq_false_iff_not, beq_iff_eq, beq_eq_false_iff_ne, bne_iff_ne, bne_eq_false_iff_eq, ne_eq, Int.not_lt, Int.not_le, gt_iff_lt, ge_iff_le] at hc1
      have hi5 : i < 32 := by omega
      refine hl_skip ?_
      refine hk_then_code ?_
      refine hl_seq ?_
      refine hl_block ?_
      refine hl_region ?_
      refine ho_val rfl rfl (ex_move rfl) ?_
      refine ho_val rfl rfl (ex_move rfl) ?_
      refine ho_val rfl rfl (ex_addr_arr0 rfl rfl Tryd.underlying25 size5 (by omega)) ?_
      refine ho_val rfl rfl (ex_load rfl 1 rfl rfl (vbs_getD _ _ (by rw [sha_length]; omega)) Tryd.underlying5 rfl) ?_
      refine ho_val rfl rfl (ex_addr_arr0 rfl rfl Tryd.underlying53 size5 (by omega)) ?_
      refine ho_do rfl rfl (exw_store0 rfl rfl (vbs_getD _ _ (by rw [cpTo_length _ _ (by rw [sha_length]; omega) (by omega)]; omega)) rfl size5 (vbs_set _ _ _)) (fun _ _ => ?_)
      refine ho_nil ?_
      refine hk_block_normal ?_
      refine hk_then_code ?_
      refine hl_region ?_
      refine ho_val rfl rfl (ex_move rfl) ?_
      refine ho_val rfl rfl (ex_addN (q := 1) rfl rfl (by omega)) ?_
      refine ho_val rfl rfl (ex_assign rfl) ?_
      refine ho_nil ?_
      refine hk_then_normal ?_
      exact hk_round (i + 1) (by omega) (by omega) ⟨rfl, rfl, rfl, rfl, rfl, trivial⟩ _ (by decide) (.cons 0 (by rw [← cpTo_step _ _ (by rw [sha_length]; omega) (by omega)]; rfl) (.cons 1 rfl (.cons 2 rfl .nil)))
    · try simp only [decide_eq_true_eq, decide_eq_false_iff_not, beq_iff_eq, beq_eq_false_iff_ne, bne_iff_ne, bne_eq_false_iff_eq, ne_eq, Int.not_lt, Int.not_le, gt_iff_lt, ge_iff_le] at hc1
      obtain rfl : i = 32 := by omega
      refine hl_exit ?_
      refine hk_then_exit ?_
      refine hk_then_exit ?_
      refine hk_block_hit ?_
      refine hk_then_code ?_
      refine hl_seq ?_
      refine hl_region ?_
      refine ho_val rfl rfl (ex_assign rfl) ?_
      refine ho_nil ?_
      refine hk_then_code ?_
      refine hl_seq ?_
      refine hl_region ?_
      refine ho_val rfl rfl (ex_assign rfl) ?_
      refine ho_nil ?_
      refine hk_then_code ?_
      refine hl_seq ?_
      refine hl_seq ?_
      refine hl_region ?_
      refine ho_val rfl rfl (ex_assign rfl) ?_
      refine ho_nil ?_
      refine hk_then_code ?_
      refine hl_block ?_
      refine hl_nil_block 5 ?_
      refine hl_nil_block 5 ?_
      refine hl_loop (G := Nat × (Option Nat × Nat × List Value) × (Option Nat × Nat × List Value)) (fun g => 64 - g.1) (fun g => g.1 ≤ 64 ∧ RowOk 1 g.2.1.1 g.1 g.2.1.2.1 (((keyed k 54).take g.1).map vb) g.2.1.2.2 ∧ RowOk 1 g.2.2.1 g.1 g.2.2.2.1 (((keyed k 92).take g.1).map vb) g.2.2.2.2) (fun g => [(1, slv q d.length c2), (4, .pointer (some ⟨b4, 0, none⟩)), (5, .pointer (some ⟨b5, 0, none⟩)), (9, rowv g.2.1.1 g.1 g.2.1.2.1), (10, rowv g.2.2.1 g.1 g.2.2.2.1), (11, .int .i64 (g.1 : Nat))]) (fun g => [⟨g.2.2.1, (((keyed k 92).take g.1).map vb ++ g.2.2.2.2).toArray, 5, (0, 0)⟩, ⟨g.2.1.1, (((keyed k 54).take g.1).map vb ++ g.2.1.2.2).toArray, 5, (0, 0)⟩, ⟨some b5, vbs (kpad k), 53, (0, 0)⟩, ⟨some b4, vbs (List.replicate 32 0), 25, (0, 0)⟩]) (0, (none, 0, []), (none, 0, [])) ⟨Nat.zero_le _, RowOk.start _, RowOk.start _⟩ ⟨rfl, rfl, rfl, rfl, rfl, rfl, trivial⟩ _ (by decide) (.cons 0 rfl (.cons 1 rfl (.cons 2 (by rw [← cpTo_long (k := k) (by omega)]; rfl) (.cons 4 rfl .nil)))) (fun g ⟨hg, hok1, hok2⟩ => ?_)
      refine hl_seq ?_
      refine hl_seq ?_
      refine hl_region ?_
      refine ho_val rfl rfl (ex_move rfl) ?_
      refine ho_val rfl rfl (ex_lss rfl rfl rfl) ?_
      refine ho_nil ?_
      refine hk_then_code ?_
      refine hl_if rfl (fun hc2 => ?_) (fun hc2 => ?_)
      · try simp only [decide_eq_true_eq, decide_eq_false_iff_not, beq_iff_eq, beq_eq_false_iff_ne, bne_iff_ne, bne_eq_false_iff_eq, ne_eq, Int.not_lt, Int.not_le, gt_iff_lt, ge_iff_le] at hc2
        have hk5 : g.1 < 64 := by omega
        refine hl_skip ?_
        refine hk_then_code ?_
        refine hl_seq ?_
        refine hl_block ?_
        refine hl_seq ?_
        refine hl_region ?_
        refine ho_val rfl rfl (ex_move rfl) ?_
        refine ho_val rfl rfl (ex_move rfl) ?_
        refine ho_val rfl rfl (ex_addr_arr0 rfl rfl Tryd.underlying53 size5 (by omega)) ?_
        refine ho_val rfl rfl (ex_load rfl 2 rfl rfl (vbs_getD _ _ (by rw [kpad_length]; omega)) Tryd.underlying5 rfl) ?_
        refine ho_val rfl rfl (ex_xor8 (q := 54) rfl rfl) ?_
        refine ho_do rfl rfl (exw_list (xs := [.tmp 48]) rfl rfl rfl Tryd.underlying22 info5 rfl rfl (by decide)) (fun b49 hb49 => ?_)
        refine ho_pick _ (by decide) (.cons 2 rfl (.cons 0 rfl (.cons 1 rfl (.cons 3 rfl (.cons 4 rfl .nil))))) ?_
        refine ho_do rfl rfl (exw_append0 (xs := ((keyed k 54).take g.1).map vb) (rest := g.2.1.2.2) rfl rfl rfl hok1 (fun w hw => Sl.ownAll hw 1 rfl) rfl (by simp only [List.mem_cons, List.not_mem_nil, or_false, forall_eq]; rfl) Tryd.underlying22 info5 rfl (by decide) (by omega) (by simp only [maxLen]; omega) (fun h => nomatch h)) (fun y50 hk50 => ?_)
        refine ho_val rfl rfl (ex_assign rfl) ?_
        refine ho_nil ?_
        refine hk_then_code ?_
        refine hl_region ?_
        refine ho_val rfl rfl (ex_move rfl) ?_
        refine ho_val rfl rfl (ex_move rfl) ?_
        refine ho_val rfl rfl (ex_addr_arr0 rfl rfl Tryd.underlying53 size5 (by omega)) ?_
        refine ho_val rfl rfl (ex_load rfl 3 rfl rfl (vbs_getD _ _ (by rw [kpad_length]; omega)) Tryd.underlying5 rfl) ?_
        refine ho_val rfl rfl (ex_xor8 (q := 92) rfl rfl) ?_
        refine ho_do rfl rfl (exw_list (xs := [.tmp 55]) rfl rfl rfl Tryd.underlying22 info5 rfl rfl (by decide)) (fun b56 hb56 => ?_)
        refine ho_pick _ (by decide) (.cons 3 rfl (.cons 0 rfl (.cons 1 rfl (.cons 2 rfl (.cons 4 rfl (.cons 5 rfl .nil)))))) ?_
        refine ho_do rfl rfl (exw_append0 (xs := ((keyed k 92).take g.1).map vb) (rest := g.2.2.2.2) rfl rfl rfl hok2 (fun w hw => Sl.ownAll hw 1 rfl) rfl (by simp only [List.mem_cons, List.not_mem_nil, or_false, forall_eq]; rfl) Tryd.underlying22 info5 rfl (by decide) (by omega) (by simp only [maxLen]; omega) (fun h => nomatch h)) (fun y57 hk57 => ?_)
        refine ho_val rfl rfl (ex_assign rfl) ?_
        refine ho_nil ?_
        refine hk_block_normal ?_
        refine hk_then_code ?_
        refine hl_region ?_
        refine ho_val rfl rfl (ex_move rfl) ?_
        refine ho_val rfl rfl (ex_addN (q := 1) rfl rfl (by omega)) ?_
        refine ho_val rfl rfl (ex_assign rfl) ?_
        refine ho_nil ?_
        refine hk_then_normal ?_
        exact hk_round (g.1 + 1, y50, y57) ⟨by dsimp only; omega, by rw [← keyed_app k 54 g.1 hk5]; exact hk50, by rw [← keyed_app k 92 g.1 hk5]; exact hk57⟩ (by dsimp only; omega) ⟨rfl, rfl, rfl, rfl, rfl, rfl, trivial⟩ _ (by decide) (.cons 0 (by rw [← keyed_app k 92 g.1 hk5]; rfl) (.cons 2 (by rw [← keyed_app k 54 g.1 hk5]; rfl) (.cons 4 rfl (.cons 5 rfl .nil))))
      · try simp only [decide_eq_true_eq, decide_eq_false_iff_not, beq_iff_eq, beq_eq_false_iff_ne, bne_iff_ne, bne_eq_false_iff_eq, ne_eq, Int.not_lt, Int.not_le, gt_iff_lt, ge_iff_le] at hc2
        have hk6 : g.1 = 64 := by omega
        refine hl_exit ?_
        refine hk_then_exit ?_
        refine hk_then_exit ?_
        refine hk_block_hit ?_
        refine hk_then_code ?_
        refine hl_seq ?_
        refine hl_region ?_
        refine ho_val rfl rfl (ex_move rfl) ?_
        refine ho_val rfl rfl (ex_move rfl) ?_
        refine ho_pick _ (by decide) (.cons 1 rfl (.cons 0 rfl (.cons 2 rfl (.cons 3 rfl .nil)))) ?_
        refine ho_do rfl rfl (exw_append0 (xs := ((keyed k 54).take g.1).map vb) (rest := g.2.1.2.2) rfl rfl rfl hok1 (fun w' hw' => hS2.old0 hw') (by simp) (map_vb_one _) Tryd.underlying22 info5 rfl (by decide) (by omega) (by simp only [maxLen]; omega) (fun h => ⟨hq h, hqc h⟩)) (fun y60 hk60 => ?_)
        refine ho_do rfl rfl (exw_call_pure Tryd.func14 rfl (by kernel_rfl) rfl (fun w' hw' => refof_any (keyed k 54 ++ d) _ (by rw [List.length_append, keyed_length]; omega) (rowp y60.1) y60.2.1 (fun h => by have := hk60.empty' h; rw [List.length_append, keyed_length]; omega) (fun h => (hk60.empty' h).2) (by rw [List.length_append, keyed_length]; omega) w' ((show ((keyed k 54).take g.1).map vb ++ d.map vb = (keyed k 54 ++ d).map vb by rw [hk6, List.take_of_length_le (by rw [keyed_length]; decide), List.map_append]) ▸ Sl.ownRow hw' 0 rfl (fun h => RowOk.empty hk60 h)) (hTK.old0 hw') (hTH.old0 hw'))) (fun _ _ => ?_)
        refine ho_do rfl rfl (exw_alloc_cs (z := .agg (vbs (List.replicate 32 0))) (vbs (List.replicate 32 0)) (by kernel_rfl) rfl) (fun b12 hb12 => ?_)
        refine ho_do rfl rfl (exw_store_row0 rfl rfl (by rw [size25, vbs_size, sha_length]) (by rw [vbs_size, vbs_size, sha_length]; rfl) (vbs_one _)) (fun _ _ => ?_)
        refine ho_nil ?_
        refine hk_then_code ?_
        refine hl_seq ?_
        refine hl_seq ?_
        refine hl_region ?_
        refine ho_val rfl rfl (ex_assign rfl) ?_
        refine ho_nil ?_
        refine hk_then_code ?_
        refine hl_block ?_
        refine hl_loop (G := Nat × Option Nat × Nat × List Value) (fun z => 32 - z.1) (fun z => z.1 ≤ 32 ∧ RowOk 1 z.2.1 (64 + z.1) z.2.2.1 ((keyed k 92 ++ (sha tK tH (keyed k 54 ++ d)).take z.1).map vb) z.2.2.2) (fun z => [(4, .pointer (some ⟨b4, 0, none⟩)), (10, rowv z.2.1 (64 + z.1) z.2.2.1), (12, .pointer (some ⟨b12, 0, none⟩)), (13, .int .i64 (z.1 : Nat))]) (fun z => [⟨z.2.1, ((keyed k 92 ++ (sha tK tH (keyed k 54 ++ d)).take z.1).map vb ++ z.2.2.2).toArray, 5, (0, 0)⟩, ⟨some b12, vbs (sha tK tH (keyed k 54 ++ d)), 25, (0, 0)⟩, ⟨some b4, vbs (List.replicate 32 0), 25, (0, 0)⟩]) (0, g.2.2) ⟨Nat.zero_le _, by have h := hok2; rw [hk6, List.take_of_length_le (by rw [keyed_length]; decide)] at h; simpa using h⟩ ⟨rfl, (by rw [show 64 + (0, g.2.2).1 = g.1 from by dsimp only; omega]; rfl), rfl, rfl, trivial⟩ _ (by decide) (.cons 2 (by rw [hk6, List.take_of_length_le (l := keyed k 92) (by rw [keyed_length]; decide), List.take_zero, List.append_nil]; rfl) (.cons 0 rfl (.cons 4 rfl .nil))) (fun z ⟨hz, hokz⟩ => ?_)
        refine hl_seq ?_
        refine hl_seq ?_
        refine hl_region ?_
        refine ho_val rfl rfl (ex_move rfl) ?_
        refine ho_val rfl rfl (ex_lss rfl rfl rfl) ?_
        refine ho_nil ?_
        refine hk_then_code ?_
        refine hl_if rfl (fun hc3 => ?_) (fun hc3 => ?_)
        · try simp only [decide_eq_true_eq, decide_eq_false_iff_not, beq_iff_eq, beq_eq_false_iff_ne, bne_iff_ne, bne_eq_false_iff_eq, ne_eq, Int.not_lt, Int.not_le, gt_iff_lt, ge_iff_le] at hc3
          have hz5 : z.1 < 32 := by omega
          refine hl_skip ?_
          refine hk_then_code ?_
          refine hl_seq ?_
          refine hl_block ?_
          refine hl_region ?_
          refine ho_val rfl rfl (ex_move rfl) ?_
          refine ho_val rfl rfl (ex_move rfl) ?_
          refine ho_val rfl rfl (ex_addr_arr0 rfl rfl Tryd.underlying25 size5 (by omega)) ?_
          refine ho_val rfl rfl (ex_load rfl 1 rfl rfl (vbs_getD _ _ (by rw [sha_length]; omega)) Tryd.underlying5 rfl) ?_
          refine ho_do rfl rfl (exw_list (xs := [.tmp 69]) rfl rfl rfl Tryd.underlying22 info5 rfl rfl (by decide)) (fun b70 hb70 => ?_)
          refine ho_pick _ (by decide) (.cons 1 rfl (.cons 0 rfl (.cons 2 rfl (.cons 3 rfl .nil)))) ?_
          refine ho_do rfl rfl (exw_append0 (xs := (keyed k 92 ++ (sha tK tH (keyed k 54 ++ d)).take z.1).map vb) (rest := z.2.2.2) rfl rfl rfl hokz (fun w hw => Sl.ownAll hw 1 rfl) rfl (by simp only [List.mem_cons, List.not_mem_nil, or_false, forall_eq]; rfl) Tryd.underlying22 info5 rfl (by decide) (by omega) (by simp only [maxLen]; omega) (fun h => nomatch h)) (fun y71 hk71 => ?_)
          refine ho_val rfl rfl (ex_assign rfl) ?_
          refine ho_nil ?_
          refine hk_block_normal ?_
          refine hk_then_code ?_
          refine hl_region ?_
          refine ho_val rfl rfl (ex_move rfl) ?_
          refine ho_val rfl rfl (ex_addN (q := 1) rfl rfl (by omega)) ?_
          refine ho_val rfl rfl (ex_assign rfl) ?_
          refine ho_nil ?_
          refine hk_then_normal ?_
          exact hk_round (z.1 + 1, y71) ⟨by dsimp only; omega, by rw [← mac_step _ _ z.1 (by rw [sha_length]; exact hz5)]; exact hk71⟩ (by dsimp only; omega) ⟨rfl, rfl, rfl, rfl, trivial⟩ _ (by decide) (.cons 0 (by rw [← mac_step _ _ z.1 (by rw [sha_length]; exact hz5)]; rfl) (.cons 2 rfl (.cons 3 rfl .nil)))
        · try simp only [decide_eq_true_eq, decide_eq_false_iff_not, beq_iff_eq, beq_eq_false_iff_ne, bne_iff_ne, bne_eq_false_iff_eq, ne_eq, Int.not_lt, Int.not_le, gt_iff_lt, ge_iff_le] at hc3
          have hz6 : z.1 = 32 := by omega
          refine hl_exit ?_
          refine hk_then_exit ?_
          refine hk_then_exit ?_
          refine hk_block_hit ?_
          refine hk_then_code ?_
          refine hl_seq ?_
          refine hl_region ?_
          refine ho_val rfl rfl (ex_move rfl) ?_
          refine ho_do rfl rfl (exw_call_pure Tryd.func14 rfl (by kernel_rfl) rfl (fun w' hw' => refof_any (keyed k 92 ++ (sha tK tH (keyed k 54 ++ d))) _ (by rw [List.length_append, keyed_length, sha_length]; omega) (rowp z.2.1) z.2.2.1 (fun h => by have := hokz.empty' h; omega) (fun h => (hokz.empty' h).2) (by rw [List.length_append, keyed_length, sha_length]; decide) w' (by have h := Sl.ownRow hw' 0 rfl (fun h => RowOk.empty hokz h); rw [hz6, List.take_of_length_le (by rw [sha_length]; decide)] at h; exact h) (hTK.old0 hw') (hTH.old0 hw'))) (fun _ _ => ?_)
          refine ho_do rfl rfl (exw_store_row2 rfl rfl (by rw [size25, vbs_size, sha_length]) (by rw [vbs_size, vbs_size, sha_length]; rfl) (vbs_one _)) (fun _ _ => ?_)
          refine ho_nil ?_
          refine hk_then_code ?_
          refine hl_ret ?_
          exact hk_ret_row rfl rfl 2 rfl rfl Tryd.underlying25 rfl (by rw [size25, vbs_size, sha_length]) (fun w' hw' => ⟨rfl, hw'.below⟩)
  · try simp only [decide_eq_true_eq, decide_eq_false_iff_not, beq_iff_eq, beq_eq_false_iff_ne, bne_iff_ne, bne_eq_false_iff_eq, ne_eq, Int.not_lt, Int.not_le, gt_iff_lt, ge_iff_le] at hc0
    refine hl_seq ?_
    refine hl_region ?_
    refine ho_val rfl rfl (ex_assign rfl) ?_
    refine ho_nil ?_
    refine hk_then_code ?_
    refine hl_block ?_
    refine hl_loop (G := Nat) (fun i => k.length - i) (fun i => i ≤ k.length) (fun i => [(0, slv p k.length c), (1, slv q d.length c2), (4, .pointer (some ⟨b4, 0, none⟩)), (5, .pointer (some ⟨b5, 0, none⟩)), (8, .int .i64 (i : Nat))]) (fun i => [⟨some b5, vbs (cpTo k i), 53, (0, 0)⟩, ⟨some b4, vbs (List.replicate 32 0), 25, (0, 0)⟩]) 0 (by omega) ⟨rfl, rfl, rfl, rfl, rfl, trivial⟩ _ (by decide) (.cons 0 rfl (.cons 1 rfl .nil)) (fun i hi => ?_)
    refine hl_seq ?_
    refine hl_seq ?_
    refine hl_region ?_
    refine ho_val rfl rfl (ex_move rfl) ?_
    refine ho_val rfl rfl (ex_move rfl) ?_
    refine ho_val rfl rfl (ex_len_slice rfl Tryd.underlying22) ?_
    refine ho_val rfl rfl (ex_lss rfl rfl rfl) ?_
    refine ho_nil ?_
    refine hk_then_code ?_
    refine hl_if rfl (fun hc4 => ?_) (fun hc4 => ?_)
    · try simp only [decide_eq_true_eq, decide_eq_false_iff_not, beq_iff_eq, beq_eq_false_iff_ne, bne_iff_ne, bne_eq_false_iff_eq, ne_eq, Int.not_lt, Int.not_le, gt_iff_lt, ge_iff_le] at hc4
      have hi5 : i < k.length := by omega
      refine hl_skip ?_
      refine hk_then_code ?_
      refine hl_seq ?_
      refine hl_block ?_
      refine hl_region ?_
      refine ho_val rfl rfl (ex_move rfl) ?_
      refine ho_val rfl rfl (ex_move rfl) ?_
      refine ho_val rfl rfl (ex_move rfl) ?_
      refine ho_val rfl rfl (ex_addr_sl1 rfl rfl Tryd.underlying22 size5 (by omega) hp) ?_
      refine ho_val rfl rfl (ex_load_sl rfl (fun w' hw' => hS.old0 hw') (map_vb_get _ _ (by omega)) Tryd.underlying5 rfl) ?_
      refine ho_val rfl rfl (ex_addr_arr0 rfl rfl Tryd.underlying53 size5 (by omega)) ?_
      refine ho_do rfl rfl (exw_store0 rfl rfl (vbs_getD _ _ (by rw [cpTo_length _ _ (by omega) (by omega)]; omega)) rfl size5 (vbs_set _ _ _)) (fun _ _ => ?_)
      refine ho_nil ?_
      refine hk_block_normal ?_
      refine hk_then_code ?_
      refine hl_region ?_
      refine ho_val rfl rfl (ex_move rfl) ?_
      refine ho_val rfl rfl (ex_addN (q := 1) rfl rfl (by omega)) ?_
      refine ho_val rfl rfl (ex_assign rfl) ?_
      refine ho_nil ?_
      refine hk_then_normal ?_
      exact hk_round (i + 1) (by omega) (by omega) ⟨rfl, rfl, rfl, rfl, rfl, trivial⟩ _ (by decide) (.cons 0 (by rw [← cpTo_step _ _ hi5 (by omega)]; rfl) (.cons 1 rfl .nil))
    · try simp only [decide_eq_true_eq, decide_eq_false_iff_not, beq_iff_eq, beq_eq_false_iff_ne, bne_iff_ne, bne_eq_false_iff_eq, ne_eq, Int.not_lt, Int.not_le, gt_iff_lt, ge_iff_le] at hc4
      have hi6 : i = k.length := by omega
      subst hi6
      refine hl_exit ?_
      refine hk_then_exit ?_
      refine hk_then_exit ?_
      refine hk_block_hit ?_
      refine hk_then_code ?_
      refine hl_seq ?_
      refine hl_region ?_
      refine ho_val rfl rfl (ex_assign rfl) ?_
      refine ho_nil ?_
      refine hk_then_code ?_
      refine hl_seq ?_
      refine hl_region ?_
      refine ho_val rfl rfl (ex_assign rfl) ?_
      refine ho_nil ?_
      refine hk_then_code ?_
      refine hl_seq ?_
      refine hl_seq ?_
      refine hl_region ?_
      refine ho_val rfl rfl (ex_assign rfl) ?_
      refine ho_nil ?_
      refine hk_then_code ?_
      refine hl_block ?_
      refine hl_nil_block 5 ?_
      refine hl_nil_block 5 ?_
      refine hl_loop (G := Nat × (Option Nat × Nat × List Value) × (Option Nat × Nat × List Value)) (fun g => 64 - g.1) (fun g => g.1 ≤ 64 ∧ RowOk 1 g.2.1.1 g.1 g.2.1.2.1 (((keyed k 54).take g.1).map vb) g.2.1.2.2 ∧ RowOk 1 g.2.2.1 g.1 g.2.2.2.1 (((keyed k 92).take g.1).map vb) g.2.2.2.2) (fun g => [(1, slv q d.length c2), (4, .pointer (some ⟨b4, 0, none⟩)), (5, .pointer (some ⟨b5, 0, none⟩)), (9, rowv g.2.1.1 g.1 g.2.1.2.1), (10, rowv g.2.2.1 g.1 g.2.2.2.1), (11, .int .i64 (g.1 : Nat))]) (fun g => [⟨g.2.2.1, (((keyed k 92).take g.1).map vb ++ g.2.2.2.2).toArray, 5, (0, 0)⟩, ⟨g.2.1.1, (((keyed k 54).take g.1).map vb ++ g.2.1.2.2).toArray, 5, (0, 0)⟩, ⟨some b5, vbs (kpad k), 53, (0, 0)⟩, ⟨some b4, vbs (List.replicate 32 0), 25, (0, 0)⟩]) (0, (none, 0, []), (none, 0, [])) ⟨Nat.zero_le _, RowOk.start _, RowOk.start _⟩ ⟨rfl, rfl, rfl, rfl, rfl, rfl, trivial⟩ _ (by decide) (.cons 0 rfl (.cons 1 rfl (.cons 2 (by rw [← cpTo_short (k := k) (by omega)]; rfl) (.cons 3 rfl .nil)))) (fun g ⟨hg, hok1, hok2⟩ => ?_)
      refine hl_seq ?_
      refine hl_seq ?_
      refine hl_region ?_
      refine ho_val rfl rfl (ex_move rfl) ?_
      refine ho_val rfl rfl (ex_lss rfl rfl rfl) ?_
      refine ho_nil ?_
      refine hk_then_code ?_
      refine hl_if rfl (fun hc5 => ?_) (fun hc5 => ?_)
      · try simp only [decide_eq_true_eq, decide_eq_false_iff_not, beq_iff_eq, beq_eq_false_iff_ne, bne_iff_ne, bne_eq_false_iff_eq, ne_eq, Int.not_lt, Int.not_le, gt_iff_lt, ge_iff_le] at hc5
        have hk5 : g.1 < 64 := by omega
        refine hl_skip ?_
        refine hk_then_code ?_
        refine hl_seq ?_
        refine hl_block ?_
        refine hl_seq ?_
        refine hl_region ?_
        refine ho_val rfl rfl (ex_move rfl) ?_
        refine ho_val rfl rfl (ex_move rfl) ?_
        refine ho_val rfl rfl (ex_addr_arr0 rfl rfl Tryd.underlying53 size5 (by omega)) ?_
        refine ho_val rfl rfl (ex_load rfl 2 rfl rfl (vbs_getD _ _ (by rw [kpad_length]; omega)) Tryd.underlying5 rfl) ?_
        refine ho_val rfl rfl (ex_xor8 (q := 54) rfl rfl) ?_
        refine ho_do rfl rfl (exw_list (xs := [.tmp 48]) rfl rfl rfl Tryd.underlying22 info5 rfl rfl (by decide)) (fun b49 hb49 => ?_)
        refine ho_pick _ (by decide) (.cons 2 rfl (.cons 0 rfl (.cons 1 rfl (.cons 3 rfl (.cons 4 rfl .nil))))) ?_
        refine ho_do rfl rfl (exw_append0 (xs := ((keyed k 54).take g.1).map vb) (rest := g.2.1.2.2) rfl rfl rfl hok1 (fun w hw => Sl.ownAll hw 1 rfl) rfl (by simp only [List.mem_cons, List.not_mem_nil, or_false, forall_eq]; rfl) Tryd.underlying22 info5 rfl (by decide) (by omega) (by simp only [maxLen]; omega) (fun h => nomatch h)) (fun y50 hk50 => ?_)
        refine ho_val rfl rfl (ex_assign rfl) ?_
        refine ho_nil ?_
        refine hk_then_code ?_
        refine hl_region ?_
        refine ho_val rfl rfl (ex_move rfl) ?_
        refine ho_val rfl rfl (ex_move rfl) ?_
        refine ho_val rfl rfl (ex_addr_arr0 rfl rfl Tryd.underlying53 size5 (by omega)) ?_
        refine ho_val rfl rfl (ex_load rfl 3 rfl rfl (vbs_getD _ _ (by rw [kpad_length]; omega)) Tryd.underlying5 rfl) ?_
        refine ho_val rfl rfl (ex_xor8 (q := 92) rfl rfl) ?_
        refine ho_do rfl rfl (exw_list (xs := [.tmp 55]) rfl rfl rfl Tryd.underlying22 info5 rfl rfl (by decide)) (fun b56 hb56 => ?_)
        refine ho_pick _ (by decide) (.cons 3 rfl (.cons 0 rfl (.cons 1 rfl (.cons 2 rfl (.cons 4 rfl (.cons 5 rfl .nil)))))) ?_
        refine ho_do rfl rfl (exw_append0 (xs := ((keyed k 92).take g.1).map vb) (rest := g.2.2.2.2) rfl rfl rfl hok2 (fun w hw => Sl.ownAll hw 1 rfl) rfl (by simp only [List.mem_cons, List.not_mem_nil, or_false, forall_eq]; rfl) Tryd.underlying22 info5 rfl (by decide) (by omega) (by simp only [maxLen]; omega) (fun h => nomatch h)) (fun y57 hk57 => ?_)
        refine ho_val rfl rfl (ex_assign rfl) ?_
        refine ho_nil ?_
        refine hk_block_normal ?_
        refine hk_then_code ?_
        refine hl_region ?_
        refine ho_val rfl rfl (ex_move rfl) ?_
        refine ho_val rfl rfl (ex_addN (q := 1) rfl rfl (by omega)) ?_
        refine ho_val rfl rfl (ex_assign rfl) ?_
        refine ho_nil ?_
        refine hk_then_normal ?_
        exact hk_round (g.1 + 1, y50, y57) ⟨by dsimp only; omega, by rw [← keyed_app k 54 g.1 hk5]; exact hk50, by rw [← keyed_app k 92 g.1 hk5]; exact hk57⟩ (by dsimp only; omega) ⟨rfl, rfl, rfl, rfl, rfl, rfl, trivial⟩ _ (by decide) (.cons 0 (by rw [← keyed_app k 92 g.1 hk5]; rfl) (.cons 2 (by rw [← keyed_app k 54 g.1 hk5]; rfl) (.cons 4 rfl (.cons 5 rfl .nil))))
      · try simp only [decide_eq_true_eq, decide_eq_false_iff_not, beq_iff_eq, beq_eq_false_iff_ne, bne_iff_ne, bne_eq_false_iff_eq, ne_eq, Int.not_lt, Int.not_le, gt_iff_lt, ge_iff_le] at hc5
        have hk6 : g.1 = 64 := by omega
        refine hl_exit ?_
        refine hk_then_exit ?_
        refine hk_then_exit ?_
        refine hk_block_hit ?_
        refine hk_then_code ?_
        refine hl_seq ?_
        refine hl_region ?_
        refine ho_val rfl rfl (ex_move rfl) ?_
        refine ho_val rfl rfl (ex_move rfl) ?_
        refine ho_pick _ (by decide) (.cons 1 rfl (.cons 0 rfl (.cons 2 rfl (.cons 3 rfl .nil)))) ?_
        refine ho_do rfl rfl (exw_append0 (xs := ((keyed k 54).take g.1).map vb) (rest := g.2.1.2.2) rfl rfl rfl hok1 (fun w' hw' => hS2.old0 hw') (by simp) (map_vb_one _) Tryd.underlying22 info5 rfl (by decide) (by omega) (by simp only [maxLen]; omega) (fun h => ⟨hq h, hqc h⟩)) (fun y60 hk60 => ?_)
        refine ho_do rfl rfl (exw_call_pure Tryd.func14 rfl (by kernel_rfl) rfl (fun w' hw' => refof_any (keyed k 54 ++ d) _ (by rw [List.length_append, keyed_length]; omega) (rowp y60.1) y60.2.1 (fun h => by have := hk60.empty' h; rw [List.length_append, keyed_length]; omega) (fun h => (hk60.empty' h).2) (by rw [List.length_append, keyed_length]; omega) w' ((show ((keyed k 54).take g.1).map vb ++ d.map vb = (keyed k 54 ++ d).map vb by rw [hk6, List.take_of_length_le (by rw [keyed_length]; decide), List.map_append]) ▸ Sl.ownRow hw' 0 rfl (fun h => RowOk.empty hk60 h)) (hTK.old0 hw') (hTH.old0 hw'))) (fun _ _ => ?_)
        refine ho_do rfl rfl (exw_alloc_cs (z := .agg (vbs (List.replicate 32 0))) (vbs (List.replicate 32 0)) (by kernel_rfl) rfl) (fun b12 hb12 => ?_)
        refine ho_do rfl rfl (exw_store_row0 rfl rfl (by rw [size25, vbs_size, sha_length]) (by rw [vbs_size, vbs_size, sha_length]; rfl) (vbs_one _)) (fun _ _ => ?_)
        refine ho_nil ?_
        refine hk_then_code ?_
        refine hl_seq ?_
        refine hl_seq ?_
        refine hl_region ?_
        refine ho_val rfl rfl (ex_assign rfl) ?_
        refine ho_nil ?_
        refine hk_then_code ?_
        refine hl_block ?_
        refine hl_loop (G := Nat × Option Nat × Nat × List Value) (fun z => 32 - z.1) (fun z => z.1 ≤ 32 ∧ RowOk 1 z.2.1 (64 + z.1) z.2.2.1 ((keyed k 92 ++ (sha tK tH (keyed k 54 ++ d)).take z.1).map vb) z.2.2.2) (fun z => [(4, .pointer (some ⟨b4, 0, none⟩)), (10, rowv z.2.1 (64 + z.1) z.2.2.1), (12, .pointer (some ⟨b12, 0, none⟩)), (13, .int .i64 (z.1 : Nat))]) (fun z => [⟨z.2.1, ((keyed k 92 ++ (sha tK tH (keyed k 54 ++ d)).take z.1).map vb ++ z.2.2.2).toArray, 5, (0, 0)⟩, ⟨some b12, vbs (sha tK tH (keyed k 54 ++ d)), 25, (0, 0)⟩, ⟨some b4, vbs (List.replicate 32 0), 25, (0, 0)⟩]) (0, g.2.2) ⟨Nat.zero_le _, by have h := hok2; rw [hk6, List.take_of_length_le (by rw [keyed_length]; decide)] at h; simpa using h⟩ ⟨rfl, (by rw [show 64 + (0, g.2.2).1 = g.1 from by dsimp only; omega]; rfl), rfl, rfl, trivial⟩ _ (by decide) (.cons 2 (by rw [hk6, List.take_of_length_le (l := keyed k 92) (by rw [keyed_length]; decide), List.take_zero, List.append_nil]; rfl) (.cons 0 rfl (.cons 4 rfl .nil))) (fun z ⟨hz, hokz⟩ => ?_)
        refine hl_seq ?_
        refine hl_seq ?_
        refine hl_region ?_
        refine ho_val rfl rfl (ex_move rfl) ?_
        refine ho_val rfl rfl (ex_lss rfl rfl rfl) ?_
        refine ho_nil ?_
        refine hk_then_code ?_
        refine hl_if rfl (fun hc6 => ?_) (fun hc6 => ?_)
        · try simp only [decide_eq_true_eq, decide_eq_false_iff_not, beq_iff_eq, beq_eq_false_iff_ne, bne_iff_ne, bne_eq_false_iff_eq, ne_eq, Int.not_lt, Int.not_le, gt_iff_lt, ge_iff_le] at hc6
          have hz5 : z.1 < 32 := by omega
          refine hl_skip ?_
          refine hk_then_code ?_
          refine hl_seq ?_
          refine hl_block ?_
          refine hl_region ?_
          refine ho_val rfl rfl (ex_move rfl) ?_
          refine ho_val rfl rfl (ex_move rfl) ?_
          refine ho_val rfl rfl (ex_addr_arr0 rfl rfl Tryd.underlying25 size5 (by omega)) ?_
          refine ho_val rfl rfl (ex_load rfl 1 rfl rfl (vbs_getD _ _ (by rw [sha_length]; omega)) Tryd.underlying5 rfl) ?_
          refine ho_do rfl rfl (exw_list (xs := [.tmp 69]) rfl rfl rfl Tryd.underlying22 info5 rfl rfl (by decide)) (fun b70 hb70 => ?_)
          refine ho_pick _ (by decide) (.cons 1 rfl (.cons 0 rfl (.cons 2 rfl (.cons 3 rfl .nil)))) ?_
          refine ho_do rfl rfl (exw_append0 (xs := (keyed k 92 ++ (sha tK tH (keyed k 54 ++ d)).take z.1).map vb) (rest := z.2.2.2) rfl rfl rfl hokz (fun w hw => Sl.ownAll hw 1 rfl) rfl (by simp only [List.mem_cons, List.not_mem_nil, or_false, forall_eq]; rfl) Tryd.underlying22 info5 rfl (by decide) (by omega) (by simp only [maxLen]; omega) (fun h => nomatch h)) (fun y71 hk71 => ?_)
          refine ho_val rfl rfl (ex_assign rfl) ?_
          refine ho_nil ?_
          refine hk_block_normal ?_
          refine hk_then_code ?_
          refine hl_region ?_
          refine ho_val rfl rfl (ex_move rfl) ?_
          refine ho_val rfl rfl (ex_addN (q := 1) rfl rfl (by omega)) ?_
          refine ho_val rfl rfl (ex_assign rfl) ?_
          refine ho_nil ?_
          refine hk_then_normal ?_
          exact hk_round (z.1 + 1, y71) ⟨by dsimp only; omega, by rw [← mac_step _ _ z.1 (by rw [sha_length]; exact hz5)]; exact hk71⟩ (by dsimp only; omega) ⟨rfl, rfl, rfl, rfl, trivial⟩ _ (by decide) (.cons 0 (by rw [← mac_step _ _ z.1 (by rw [sha_length]; exact hz5)]; rfl) (.cons 2 rfl (.cons 3 rfl .nil)))
        · try simp only [decide_eq_true_eq, decide_eq_false_iff_not, beq_iff_eq, beq_eq_false_iff_ne, bne_iff_ne, bne_eq_false_iff_eq, ne_eq, Int.not_lt, Int.not_le, gt_iff_lt, ge_iff_le] at hc6
          have hz6 : z.1 = 32 := by omega
          refine hl_exit ?_
          refine hk_then_exit ?_
          refine hk_then_exit ?_
          refine hk_block_hit ?_
          refine hk_then_code ?_
          refine hl_seq ?_
          refine hl_region ?_
          refine ho_val rfl rfl (ex_move rfl) ?_
          refine ho_do rfl rfl (exw_call_pure Tryd.func14 rfl (by kernel_rfl) rfl (fun w' hw' => refof_any (keyed k 92 ++ (sha tK tH (keyed k 54 ++ d))) _ (by rw [List.length_append, keyed_length, sha_length]; omega) (rowp z.2.1) z.2.2.1 (fun h => by have := hokz.empty' h; omega) (fun h => (hokz.empty' h).2) (by rw [List.length_append, keyed_length, sha_length]; decide) w' (by have h := Sl.ownRow hw' 0 rfl (fun h => RowOk.empty hokz h); rw [hz6, List.take_of_length_le (by rw [sha_length]; decide)] at h; exact h) (hTK.old0 hw') (hTH.old0 hw'))) (fun _ _ => ?_)
          refine ho_do rfl rfl (exw_store_row2 rfl rfl (by rw [size25, vbs_size, sha_length]) (by rw [vbs_size, vbs_size, sha_length]; rfl) (vbs_one _)) (fun _ _ => ?_)
          refine ho_nil ?_
          refine hk_then_code ?_
          refine hl_ret ?_
          exact hk_ret_row rfl rfl 2 rfl rfl Tryd.underlying25 rfl (by rw [size25, vbs_size, sha_length]) (fun w' hw' => ⟨rfl, hw'.below⟩)

end Go.Proofs.YtdmagjelmhcemaaDoor
