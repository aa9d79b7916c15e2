/- Hex, and what the laws deal with lists of bytes by: what they answer. -/
import Derived.Test.YtdmagjelmhcemaaRows
import Derived.Test.YtdmagjelmhcemaaFacts
import Derived.Test.YtdmagjelmhcemaaB
import Derived.Test.YtdmagjelmhcemaaTextLaw
import Derived.Test.YtdmagjelmhcemaaTextLaw2
import Derived.KernelRfl
namespace Go.Proofs.Ytdmagjelmhcemaa
open Go.RowKit
set_option linter.unusedVariables false
set_option linter.unusedSimpArgs false

set_option maxHeartbeats 400000 in
theorem hex_any (l : List UInt8) (n : Nat) (hn : l.length = n) (p : Option Addr) (c : Nat) (hp : p = none → l.length = 0) (hl : l.length ≤ 1048576) (w : World) (hS : Sl w p (l.map vb)) :
    Calls Try.prog 10 #[slv p n c] w fun e w' => e = .returned (.string (bs (hexOf l))) ∧ Below w.heap.size w w' := by
  subst hn
  refine calls_enter (n := 28) (hs := []) (M := []) (vs := [slv p l.length c]) Try.func10 rfl rfl rfl (Hp.start w) ?_
  refine hl_seq ?_
  refine hl_region ?_
  refine ho_val rfl rfl (ex_assign rfl) ?_
  refine ho_nil ?_
  refine hk_then_code ?_
  refine hl_seq ?_
  refine hl_region ?_
  refine ho_val rfl rfl (ex_move rfl) ?_
  refine ho_val rfl rfl (ex_len_slice rfl Try.underlying28) ?_
  refine ho_val rfl rfl (ex_mulN (p := 2) rfl rfl (by omega)) ?_
  refine ho_do rfl rfl (exw_make (m := 0) rfl rfl Try.underlying28 info5 (by omega) (by omega) (by omega) (made_bytes _)) (fun b9 hb9 => ?_)
  refine ho_val rfl rfl (ex_assign rfl) ?_
  refine ho_nil ?_
  refine hk_then_code ?_
  refine hl_seq ?_
  refine hl_seq ?_
  refine hl_region ?_
  refine ho_val rfl rfl (ex_move rfl) ?_
  refine ho_val rfl rfl (ex_len_slice rfl Try.underlying28) ?_
  refine ho_val rfl rfl (ex_move rfl) ?_
  refine ho_nil ?_
  refine hk_then_code ?_
  refine hl_block ?_
  refine hl_loop (G := Nat × Option Nat × Nat × List Value) (fun g => l.length - g.1) (fun g => g.1 ≤ l.length ∧ RowOk 1 g.2.1 (2 * g.1) g.2.2.1 ((hexOf (l.take g.1)).map vb) g.2.2.2) (fun g => [(3, rowv g.2.1 (2 * g.1) g.2.2.1), (10, slv p l.length c), (11, .int .i64 (l.length : Int)), (12, .int .i64 (g.1 : Nat))]) (fun g => [⟨g.2.1, ((hexOf (l.take g.1)).map vb ++ g.2.2.2).toArray, 5, (0, 0)⟩]) (0, some b9, 2 * l.length, (List.replicate (2 * l.length) 0).map vb) ⟨Nat.zero_le _, RowOk.made (by simp only [maxLen]; omega)⟩ ⟨rfl, rfl, rfl, rfl, trivial⟩ _ (by decide) (.cons 0 rfl .nil) (fun g ⟨hg, hok⟩ => ?_)
  refine hl_seq ?_
  refine hl_region ?_
  refine ho_val rfl rfl (ex_lss rfl rfl rfl) ?_
  refine ho_nil ?_
  refine hk_then_code ?_
  refine hl_seq ?_
  refine hl_if rfl (fun hc0 => ?_) (fun hc0 => ?_)
  · try simp only [decide_eq_true_eq, decide_eq_false_iff_not, beq_iff_eq, beq_eq_false_iff_ne, bne_iff_ne, bne_eq_false_iff_eq, ne_eq, Int.not_lt, Int.not_le, gt_iff_lt, ge_iff_le] at hc0
    have hk : g.1 < l.length := by omega
    refine hl_skip ?_
    refine hk_then_code ?_
    refine hl_seq ?_
    refine hl_block ?_
    refine hl_seq ?_
    refine hl_region ?_
    refine ho_val rfl rfl (ex_addr_sl1 rfl rfl Try.underlying28 size5 (by omega) hp) ?_
    refine ho_val rfl rfl (ex_load_sl rfl (fun w' hw' => hS.old0 hw') (map_vb_get _ _ (by omega)) Try.underlying5 rfl) ?_
    refine ho_val rfl rfl (ex_assign rfl) ?_
    refine ho_nil ?_
    refine hk_then_code ?_
    refine hl_held _ (by kernel_rfl) (by decide) .nil ?_
    refine ha_take 0 rfl (by kernel_rfl) (by kernel_rfl) (by kernel_rfl) (fun _ _ _ h => h) rfl rfl (ex_move rfl) ?_
    refine ha_take 1 rfl (by kernel_rfl) (by kernel_rfl) (by kernel_rfl) (fun _ _ _ h => h) rfl rfl (ex_move rfl) ?_
    refine ha_take 2 rfl (by kernel_rfl) (by kernel_rfl) (by kernel_rfl) (fun _ _ _ h => h) rfl rfl (ex_shrN (q := 4) rfl rfl (by have := (l.getD g.1 0).toNat_lt; simp only [cap]; omega)) ?_
    refine ha_take 3 rfl (by kernel_rfl) (by kernel_rfl) (by kernel_rfl) (fun _ _ _ h => h) rfl rfl (ex_index_str rfl rfl Try.underlying9 (by have := (l.getD g.1 0).toNat_lt; simp only [List.length_cons, List.length_nil]; omega)) ?_
    refine ha_take 4 rfl (by kernel_rfl) (by kernel_rfl) (by kernel_rfl) (fun _ _ _ h => h) rfl rfl (ex_move rfl) ?_
    refine ha_take 5 rfl (by kernel_rfl) (by kernel_rfl) (by kernel_rfl) (fun _ _ _ h => h) rfl rfl (ex_andN (q := 15) rfl rfl (by have := (l.getD g.1 0).toNat_lt; simp only [cap]; omega) (by decide)) ?_
    refine ha_take 6 rfl (by kernel_rfl) (by kernel_rfl) (by kernel_rfl) (fun _ _ _ h => h) rfl rfl (ex_index_str rfl rfl Try.underlying9 (by rw [and15]; have := (l.getD g.1 0).toNat_lt; simp only [List.length_cons, List.length_nil]; omega)) ?_
    refine ha_do 7 rfl (by kernel_rfl) (fun a _ => wanted_none rfl a) rfl (exw_list (xs := [.tmp 19, .tmp 22]) rfl rfl rfl Try.underlying28 info5 rfl rfl (by decide)) (by decide) (fun b23 hb23 => .nil) (fun b23 hb23 => ?_)
    refine ha_pick _ (by decide) (.cons 1 rfl (.cons 0 rfl .nil)) ?_
    refine ha_do 8 rfl (by kernel_rfl) (fun a _ => wanted_none rfl a) rfl (exw_append0 (xs := (hexOf (l.take g.1)).map vb) (rest := g.2.2.2) rfl rfl rfl hok (fun w hw => Sl.ownAll hw 1 rfl) rfl (by simp only [List.mem_cons, List.not_mem_nil, or_false, forall_eq_or_imp, forall_eq]; exact ⟨rfl, rfl⟩) Try.underlying28 info5 rfl (by decide) (by omega) (by simp only [maxLen]; omega) (fun h => nomatch h)) (by decide) (fun y24 hk24 => .nil) (fun y24 hk24 => ?_)
    refine ha_take 9 rfl (by kernel_rfl) (by kernel_rfl) (by kernel_rfl) (fun _ _ _ h => h) rfl rfl (ex_assign rfl) ?_
    refine ha_done (by kernel_rfl) ?_
    refine hk_block_normal ?_
    refine hk_then_code ?_
    refine hl_region ?_
    refine ho_val rfl rfl (ex_addN (q := 1) rfl rfl (by omega)) ?_
    refine ho_val rfl rfl (ex_move rfl) ?_
    refine ho_nil ?_
    refine hk_then_normal ?_
    exact hk_round (g.1 + 1, y24.1, y24.2.1, y24.2.2) ⟨by dsimp only; omega, by rw [← hex_step l g.1 hk]; exact hk24⟩ (by dsimp only; omega) ⟨rfl, rfl, rfl, rfl, trivial⟩ _ (by decide) (.cons 0 (by rw [← hex_step l g.1 hk]; rfl) .nil)
  · try simp only [decide_eq_true_eq, decide_eq_false_iff_not, beq_iff_eq, beq_eq_false_iff_ne, bne_iff_ne, bne_eq_false_iff_eq, ne_eq, Int.not_lt, Int.not_le, gt_iff_lt, ge_iff_le] at hc0
    have hk : g.1 = l.length := by omega
    refine hl_exit ?_
    refine hk_then_exit ?_
    refine hk_then_exit ?_
    refine hk_block_hit ?_
    refine hk_then_code ?_
    refine hl_seq ?_
    refine hl_region ?_
    refine ho_val rfl rfl (ex_move rfl) ?_
    refine ho_val rfl rfl (ex_conv_bytes rfl (fun w hw => Sl.ownRow hw 0 rfl (fun h => RowOk.empty hok h)) (by rw [hexOf_length, List.length_take]; omega) Try.underlying28 Try.underlying5 Try.underlying9) ?_
    refine ho_val rfl rfl (ex_assign rfl) ?_
    refine ho_nil ?_
    refine hk_then_code ?_
    refine hl_ret ?_
    exact hk_ret rfl rfl (fun w' hw' => ⟨by rw [List.take_of_length_le (by omega)], hw'.below⟩)

set_option maxHeartbeats 400000 in
theorem refhex_any (l : List UInt8) (n : Nat) (hn : l.length = n) (p : Option Addr) (c : Nat) (hp : p = none → l.length = 0) (hl : l.length ≤ 1048576) (w : World) (hS : Sl w p (l.map vb)) :
    Calls Try.prog 11 #[slv p n c] w fun e w' => e = .returned (.string (bs (hexOf l))) ∧ Below w.heap.size w w' := by
  subst hn
  refine calls_enter (n := 28) (hs := []) (M := []) (vs := [slv p l.length c]) Try.func11 rfl rfl rfl (Hp.start w) ?_
  refine hl_seq ?_
  refine hl_region ?_
  refine ho_val rfl rfl (ex_assign rfl) ?_
  refine ho_nil ?_
  refine hk_then_code ?_
  refine hl_seq ?_
  refine hl_region ?_
  refine ho_val rfl rfl (ex_assign rfl) ?_
  refine ho_nil ?_
  refine hk_then_code ?_
  refine hl_seq ?_
  refine hl_seq ?_
  refine hl_region ?_
  refine ho_val rfl rfl (ex_assign rfl) ?_
  refine ho_nil ?_
  refine hk_then_code ?_
  refine hl_block ?_
  refine hl_nil_block 5 ?_
  refine hl_loop (G := Nat × Option Nat × Nat × List Value) (fun g => l.length - g.1) (fun g => g.1 ≤ l.length ∧ RowOk 1 g.2.1 (2 * g.1) g.2.2.1 ((hexOf (l.take g.1)).map vb) g.2.2.2) (fun g => [(0, slv p l.length c), (3, rowv g.2.1 (2 * g.1) g.2.2.1), (4, .int .i64 (g.1 : Nat))]) (fun g => [⟨g.2.1, ((hexOf (l.take g.1)).map vb ++ g.2.2.2).toArray, 5, (0, 0)⟩]) (0, none, 0, []) ⟨Nat.zero_le _, RowOk.start _⟩ ⟨rfl, rfl, rfl, trivial⟩ _ (by decide) (.cons 0 rfl .nil) (fun g ⟨hg, hok⟩ => ?_)
  refine hl_seq ?_
  refine hl_seq ?_
  refine hl_region ?_
  refine ho_val rfl rfl (ex_move rfl) ?_
  refine ho_val rfl rfl (ex_move rfl) ?_
  refine ho_val rfl rfl (ex_len_slice rfl Try.underlying28) ?_
  refine ho_val rfl rfl (ex_lss rfl rfl rfl) ?_
  refine ho_nil ?_
  refine hk_then_code ?_
  refine hl_if rfl (fun hc0 => ?_) (fun hc0 => ?_)
  · try simp only [decide_eq_true_eq, decide_eq_false_iff_not, beq_iff_eq, beq_eq_false_iff_ne, bne_iff_ne, bne_eq_false_iff_eq, ne_eq, Int.not_lt, Int.not_le, gt_iff_lt, ge_iff_le] at hc0
    have hk : g.1 < l.length := by omega
    refine hl_skip ?_
    refine hk_then_code ?_
    refine hl_seq ?_
    refine hl_block ?_
    refine hl_held _ (by kernel_rfl) (by decide) .nil ?_
    refine ha_take 0 rfl (by kernel_rfl) (by kernel_rfl) (by kernel_rfl) (fun _ _ _ h => h) rfl rfl (ex_move rfl) ?_
    refine ha_take 1 rfl (by kernel_rfl) (by kernel_rfl) (by kernel_rfl) (fun _ _ _ h => h) rfl rfl (ex_move rfl) ?_
    refine ha_take 2 rfl (by kernel_rfl) (by kernel_rfl) (by kernel_rfl) (fun _ _ _ h => h) rfl rfl (ex_move rfl) ?_
    refine ha_take 3 rfl (by kernel_rfl) (by kernel_rfl) (by kernel_rfl) (fun _ _ _ h => h) rfl rfl (ex_addr_sl1 rfl rfl Try.underlying28 size5 (by omega) hp) ?_
    refine ha_take 4 rfl (by kernel_rfl) (by kernel_rfl) (by kernel_rfl) (fun _ _ _ h => h) rfl rfl (ex_load_sl rfl (fun w' hw' => hS.old0 hw') (map_vb_get _ _ (by omega)) Try.underlying5 rfl) ?_
    refine ha_take 5 rfl (by kernel_rfl) (by kernel_rfl) (by kernel_rfl) (fun _ _ _ h => h) rfl rfl (ex_quoK (q := 16) rfl rfl (by decide) (by have := (l.getD g.1 0).toNat_lt; simp only [cap]; omega)) ?_
    refine ha_take 6 rfl (by kernel_rfl) (by kernel_rfl) (by kernel_rfl) (fun _ _ _ h => h) rfl rfl (ex_index_str rfl rfl Try.underlying9 (by have := (l.getD g.1 0).toNat_lt; simp only [List.length_cons, List.length_nil]; omega)) ?_
    refine ha_take 7 rfl (by kernel_rfl) (by kernel_rfl) (by kernel_rfl) (fun _ _ _ h => h) rfl rfl (ex_move rfl) ?_
    refine ha_take 8 rfl (by kernel_rfl) (by kernel_rfl) (by kernel_rfl) (fun _ _ _ h => h) rfl rfl (ex_move rfl) ?_
    refine ha_take 9 rfl (by kernel_rfl) (by kernel_rfl) (by kernel_rfl) (fun _ _ _ h => h) rfl rfl (ex_addr_sl1 rfl rfl Try.underlying28 size5 (by omega) hp) ?_
    refine ha_take 10 rfl (by kernel_rfl) (by kernel_rfl) (by kernel_rfl) (fun _ _ _ h => h) rfl rfl (ex_load_sl rfl (fun w' hw' => hS.old0 hw') (map_vb_get _ _ (by omega)) Try.underlying5 rfl) ?_
    refine ha_take 11 rfl (by kernel_rfl) (by kernel_rfl) (by kernel_rfl) (fun _ _ _ h => h) rfl rfl (ex_remK (q := 16) rfl rfl (by decide) (by have := (l.getD g.1 0).toNat_lt; simp only [cap]; omega)) ?_
    refine ha_take 12 rfl (by kernel_rfl) (by kernel_rfl) (by kernel_rfl) (fun _ _ _ h => h) rfl rfl (ex_index_str rfl rfl Try.underlying9 (by have := (l.getD g.1 0).toNat_lt; simp only [List.length_cons, List.length_nil]; omega)) ?_
    refine ha_do 13 rfl (by kernel_rfl) (fun a _ => wanted_none rfl a) rfl (exw_list (xs := [.tmp 17, .tmp 23]) rfl rfl rfl Try.underlying28 info5 rfl rfl (by decide)) (by decide) (fun b24 hb24 => .nil) (fun b24 hb24 => ?_)
    refine ha_pick _ (by decide) (.cons 1 rfl (.cons 0 rfl .nil)) ?_
    refine ha_do 14 rfl (by kernel_rfl) (fun a _ => wanted_none rfl a) rfl (exw_append0 (xs := (hexOf (l.take g.1)).map vb) (rest := g.2.2.2) rfl rfl rfl hok (fun w hw => Sl.ownAll hw 1 rfl) rfl (by simp only [List.mem_cons, List.not_mem_nil, or_false, forall_eq_or_imp, forall_eq]; exact ⟨rfl, rfl⟩) Try.underlying28 info5 rfl (by decide) (by omega) (by simp only [maxLen]; omega) (fun h => nomatch h)) (by decide) (fun y25 hk25 => .nil) (fun y25 hk25 => ?_)
    refine ha_take 15 rfl (by kernel_rfl) (by kernel_rfl) (by kernel_rfl) (fun _ _ _ h => h) rfl rfl (ex_assign rfl) ?_
    refine ha_done (by kernel_rfl) ?_
    refine hk_block_normal ?_
    refine hk_then_code ?_
    refine hl_region ?_
    refine ho_val rfl rfl (ex_move rfl) ?_
    refine ho_val rfl rfl (ex_addN (q := 1) rfl rfl (by omega)) ?_
    refine ho_val rfl rfl (ex_assign rfl) ?_
    refine ho_nil ?_
    refine hk_then_normal ?_
    exact hk_round (g.1 + 1, y25.1, y25.2.1, y25.2.2) ⟨by dsimp only; omega, by rw [← hex_step' l g.1 hk]; exact hk25⟩ (by dsimp only; omega) ⟨rfl, rfl, rfl, trivial⟩ _ (by decide) (.cons 0 (by rw [← hex_step' l g.1 hk]; rfl) .nil)
  · try simp only [decide_eq_true_eq, decide_eq_false_iff_not, beq_iff_eq, beq_eq_false_iff_ne, bne_iff_ne, bne_eq_false_iff_eq, ne_eq, Int.not_lt, Int.not_le, gt_iff_lt, ge_iff_le] at hc0
    have hk : g.1 = l.length := by omega
    refine hl_exit ?_
    refine hk_then_exit ?_
    refine hk_then_exit ?_
    refine hk_block_hit ?_
    refine hk_then_code ?_
    refine hl_seq ?_
    refine hl_region ?_
    refine ho_val rfl rfl (ex_move rfl) ?_
    refine ho_val rfl rfl (ex_conv_bytes rfl (fun w hw => Sl.ownRow hw 0 rfl (fun h => RowOk.empty hok h)) (by rw [hexOf_length, List.length_take]; omega) Try.underlying28 Try.underlying5 Try.underlying9) ?_
    refine ho_val rfl rfl (ex_assign rfl) ?_
    refine ho_nil ?_
    refine hk_then_code ?_
    refine hl_ret ?_
    exact hk_ret rfl rfl (fun w' hw' => ⟨by rw [List.take_of_length_le (by omega)], hw'.below⟩)

set_option maxHeartbeats 400000 in
theorem padded_any (l : List UInt8) (n : Nat) (hn : l.length = n) (p : Option Addr) (c : Nat) (hp : p = none → l.length = 0) (hc : p = none → c = 0) (hl : l.length ≤ 1048576) (w : World) (hS : Sl w p (l.map vb)) :
    Calls Try.prog 9 #[slv p n c] w fun e w' => ∃ g c' r, RowOk 1 (some g) (l.length + 8) c' ((l ++ marks).map vb) r ∧ e = .returned (rowv (some g) (l.length + 8) c') ∧ Hp w [] [⟨some g, vrow l (marks.map vb ++ r), 5, (0, 0)⟩] w' := by
  subst hn
  have hne : p = none → l.length = 0 ∧ c = 0 := fun h => ⟨hp h, hc h⟩
  refine calls_enter (n := 10) (hs := []) (M := []) (vs := [slv p l.length c]) Try.func9 rfl rfl rfl (Hp.start w) ?_
  refine hl_seq ?_
  refine hl_region ?_
  refine ho_val rfl rfl (ex_assign rfl) ?_
  refine ho_nil ?_
  refine hk_then_code ?_
  refine hl_seq ?_
  refine hl_region ?_
  refine ho_val rfl rfl (ex_assign rfl) ?_
  refine ho_nil ?_
  refine hk_then_code ?_
  refine hl_seq ?_
  refine hl_region ?_
  refine ho_val rfl rfl (ex_move rfl) ?_
  refine ho_val rfl rfl (ex_move rfl) ?_
  refine ho_nil_block 5 ?_
  refine ho_do rfl rfl (exw_append0 (o := none) (m := 0) (c := 0) (xs := []) (rest := []) rfl rfl rfl (RowOk.start _) (fun w' hw' => hS.old0 hw') (by simp) (map_vb_one _) Try.underlying28 info5 rfl (by decide) (by omega) (by simp only [maxLen]; omega) hne) (fun y6 hk6 => ?_)
  refine ho_val rfl rfl (ex_assign rfl) ?_
  refine ho_nil ?_
  refine hk_then_code ?_
  refine hl_seq ?_
  refine hl_region ?_
  refine ho_val rfl rfl (ex_move rfl) ?_
  refine ho_do rfl rfl (exw_list (xs := [.const (.int .u8 195), .const (.int .u8 60), .const (.int .u8 195), .const (.int .u8 60), .const (.int .u8 195), .const (.int .u8 60), .const (.int .u8 195), .const (.int .u8 60)]) rfl rfl rfl Try.underlying28 info5 rfl rfl (by decide)) (fun b8 hb8 => ?_)
  refine ho_pick _ (by decide) (.cons 1 rfl (.cons 0 rfl .nil)) ?_
  refine ho_do rfl rfl (exw_append0 (rest := y6.2.2) rfl rfl rfl hk6 (fun w hw => Sl.ownAll hw 1 rfl) rfl (by simp only [List.mem_cons, List.not_mem_nil, or_false, forall_eq_or_imp, forall_eq]; exact ⟨rfl, rfl, rfl, rfl, rfl, rfl, rfl, rfl⟩) Try.underlying28 info5 rfl (by decide) (by omega) (by simp only [maxLen]; omega) (fun h => nomatch h)) (fun y9 hk9 => ?_)
  refine ho_val rfl rfl (ex_assign rfl) ?_
  refine ho_nil ?_
  refine hk_then_code ?_
  refine hl_ret ?_
  exact hk_ret rfl rfl (fun w' hw' => padded_fin l y9 hk9 hw')

set_option maxHeartbeats 400000 in
theorem bytes_any (x y : List UInt8) (n m : Nat) (hn : x.length = n) (hm : y.length = m) (p q : Option Addr) (c c' : Nat) (hp : p = none → x.length = 0) (hq : q = none → y.length = 0) (hx : x.length ≤ 4194304) (hy : y.length ≤ 4194304) (w : World) (hS : Sl w p (x.map vb)) (hT : Sl w q (y.map vb)) :
    Calls Try.prog 18 #[slv p n c, slv q m c'] w fun e w' => e = .returned (.bool (x == y)) ∧ Below w.heap.size w w' := by
  subst hn
  subst hm
  refine calls_enter (n := 26) (hs := []) (M := []) (vs := [slv p x.length c, slv q y.length c']) Try.func18 rfl rfl rfl (Hp.start w) ?_
  refine hl_seq ?_
  refine hl_region ?_
  refine ho_val rfl rfl (ex_assign rfl) ?_
  refine ho_nil ?_
  refine hk_then_code ?_
  refine hl_seq ?_
  refine hl_seq ?_
  refine hl_region ?_
  refine ho_val rfl rfl (ex_move rfl) ?_
  refine ho_val rfl rfl (ex_len_slice rfl Try.underlying28) ?_
  refine ho_val rfl rfl (ex_move rfl) ?_
  refine ho_val rfl rfl (ex_len_slice rfl Try.underlying28) ?_
  refine ho_val rfl rfl (ex_neq rfl rfl rfl) ?_
  refine ho_nil ?_
  refine hk_then_code ?_
  refine hl_if rfl (fun hc0 => ?_) (fun hc0 => ?_)
  · try simp only [decide_eq_true_eq, decide_eq_false_iff_not, beq_iff_eq, beq_eq_false_iff_ne, bne_iff_ne, bne_eq_false_iff_eq, ne_eq, Int.not_lt, Int.not_le, gt_iff_lt, ge_iff_le] at hc0
    refine hl_seq ?_
    refine hl_region ?_
    refine ho_val rfl rfl (ex_assign rfl) ?_
    refine ho_nil ?_
    refine hk_then_code ?_
    refine hl_ret ?_
    refine hk_then_ret ?_
    exact hk_ret rfl rfl (fun w' hw' => ⟨by rw [bytes_short x y hc0], hw'.below⟩)
  · try simp only [decide_eq_true_eq, decide_eq_false_iff_not, beq_iff_eq, beq_eq_false_iff_ne, bne_iff_ne, bne_eq_false_iff_eq, ne_eq, Int.not_lt, Int.not_le, gt_iff_lt, ge_iff_le] at hc0
    have hxy : x.length = y.length := by omega
    refine hl_skip ?_
    refine hk_then_code ?_
    refine hl_seq ?_
    refine hl_seq ?_
    refine hl_region ?_
    refine ho_val rfl rfl (ex_assign rfl) ?_
    refine ho_nil ?_
    refine hk_then_code ?_
    refine hl_block ?_
    refine hl_loop (G := Nat) (fun g => x.length - g) (fun g => g ≤ x.length ∧ x.take g = y.take g) (fun g => [(0, slv p x.length c), (1, slv q y.length c'), (5, .int .i64 (g : Nat))]) (fun g => []) 0 ⟨Nat.zero_le _, rfl⟩ ⟨rfl, rfl, rfl, trivial⟩ _ (by decide) .nil (fun g hg => ?_)
    refine hl_seq ?_
    refine hl_seq ?_
    refine hl_region ?_
    refine ho_val rfl rfl (ex_move rfl) ?_
    refine ho_val rfl rfl (ex_move rfl) ?_
    refine ho_val rfl rfl (ex_len_slice rfl Try.underlying28) ?_
    refine ho_val rfl rfl (ex_lss rfl rfl rfl) ?_
    refine ho_nil ?_
    refine hk_then_code ?_
    refine hl_if rfl (fun hc1 => ?_) (fun hc1 => ?_)
    · try simp only [decide_eq_true_eq, decide_eq_false_iff_not, beq_iff_eq, beq_eq_false_iff_ne, bne_iff_ne, bne_eq_false_iff_eq, ne_eq, Int.not_lt, Int.not_le, gt_iff_lt, ge_iff_le] at hc1
      have hk : g < x.length := by have := hg.1; omega
      refine hl_skip ?_
      refine hk_then_code ?_
      refine hl_seq ?_
      refine hl_block ?_
      refine hl_seq ?_
      refine hl_still 8 (by kernel_rfl) (by kernel_rfl) ?_
      refine hs_val rfl rfl (ex_move rfl) ?_
      refine hs_val rfl rfl (ex_move rfl) ?_
      refine hs_val rfl rfl (ex_addr_sl1 rfl rfl Try.underlying28 size5 (by omega) hp) ?_
      refine hs_val rfl rfl (ex_load_sl rfl (fun w' hw' => hS.old0 hw') (map_vb_get _ _ (by omega)) Try.underlying5 rfl) ?_
      refine hs_val rfl rfl (ex_move rfl) ?_
      refine hs_val rfl rfl (ex_move rfl) ?_
      refine hs_val rfl rfl (ex_addr_sl1 rfl rfl Try.underlying28 size5 (by omega) hq) ?_
      refine hs_val rfl rfl (ex_load_sl rfl (fun w' hw' => hT.old0 hw') (map_vb_get _ _ (by omega)) Try.underlying5 rfl) ?_
      refine hs_nil ?_
      refine ho_val rfl rfl (ex_neq8 rfl rfl rfl) ?_
      refine ho_nil ?_
      refine hk_then_code ?_
      refine hl_if rfl (fun hc2 => ?_) (fun hc2 => ?_)
      · try simp only [decide_eq_true_eq, decide_eq_false_iff_not, beq_iff_eq, beq_eq_false_iff_ne, bne_iff_ne, bne_eq_false_iff_eq, ne_eq, Int.not_lt, Int.not_le, gt_iff_lt, ge_iff_le] at hc2
        refine hl_seq ?_
        refine hl_region ?_
        refine ho_val rfl rfl (ex_assign rfl) ?_
        refine ho_nil ?_
        refine hk_then_code ?_
        refine hl_ret ?_
        refine hk_block_ret ?_
        refine hk_then_ret ?_
        refine hk_then_ret ?_
        refine hk_block_ret ?_
        refine hk_then_ret ?_
        exact hk_ret rfl rfl (fun w' hw' => ⟨by rw [bytes_apart x y g hc2], hw'.below⟩)
      · try simp only [decide_eq_true_eq, decide_eq_false_iff_not, beq_iff_eq, beq_eq_false_iff_ne, bne_iff_ne, bne_eq_false_iff_eq, ne_eq, Int.not_lt, Int.not_le, gt_iff_lt, ge_iff_le] at hc2
        refine hl_skip ?_
        refine hk_block_normal ?_
        refine hk_then_code ?_
        refine hl_region ?_
        refine ho_val rfl rfl (ex_move rfl) ?_
        refine ho_val rfl rfl (ex_addN (q := 1) rfl rfl (by omega)) ?_
        refine ho_val rfl rfl (ex_assign rfl) ?_
        refine ho_nil ?_
        refine hk_then_normal ?_
        exact hk_round (g + 1) ⟨by omega, bytes_more x y g hk (by omega) hg.2 hc2⟩ (by omega) ⟨rfl, rfl, rfl, trivial⟩ _ (by decide) .nil
    · try simp only [decide_eq_true_eq, decide_eq_false_iff_not, beq_iff_eq, beq_eq_false_iff_ne, bne_iff_ne, bne_eq_false_iff_eq, ne_eq, Int.not_lt, Int.not_le, gt_iff_lt, ge_iff_le] at hc1
      have hk : g = x.length := by have := hg.1; omega
      refine hl_exit ?_
      refine hk_then_exit ?_
      refine hk_then_exit ?_
      refine hk_block_hit ?_
      refine hk_then_code ?_
      refine hl_seq ?_
      refine hl_region ?_
      refine ho_val rfl rfl (ex_assign rfl) ?_
      refine ho_nil ?_
      refine hk_then_code ?_
      refine hl_ret ?_
      exact hk_ret rfl rfl (fun w' hw' => ⟨by rw [bytes_same x y hxy (hk ▸ hg.2)], hw'.below⟩)

set_option maxHeartbeats 400000 in
theorem turned_any (x : List UInt8) (n : Nat) (hn : x.length = n) (r : List Value) (gx c : Nat) (hx : x.length ≤ 4194304) (w : World) (h0 : w.heap[gx]? = some (.cells (vrow x r) 5 (0, 0))) :
    Calls Try.prog 19 #[slv (some ⟨gx, 0, none⟩) n c] w fun e w' => e = .returned (.tuple #[]) ∧ Hp w [gx] [⟨some gx, vrow (turnTo1 x x.length) r, 5, (0, 0)⟩] w' := by
  subst hn
  have hT : ∀ k, (turnTo1 x k).length = x.length := turnTo1_length x
  refine calls_enter (n := 17) (hs := [⟨some gx, vrow x r, 5, (0, 0)⟩]) (M := [gx]) (vs := [slv (some ⟨gx, 0, none⟩) x.length c]) Try.func19 rfl rfl rfl (Hp.mine w gx _ _ h0) ?_
  refine hl_seq ?_
  refine hl_region ?_
  refine ho_val rfl rfl (ex_assign rfl) ?_
  refine ho_nil ?_
  refine hk_then_code ?_
  refine hl_block ?_
  refine hl_loop (G := Nat) (fun g => x.length - g) (fun g => g ≤ x.length) (fun g => [(0, slv (some ⟨gx, 0, none⟩) x.length c), (2, .int .i64 (g : Nat))]) (fun g => [⟨some gx, vrow (turnTo1 x g) r, 5, (0, 0)⟩]) 0 (by omega) ⟨rfl, rfl, trivial⟩ _ (by decide) (.cons 0 rfl .nil) (fun g hg => ?_)
  refine hl_seq ?_
  refine hl_seq ?_
  refine hl_region ?_
  refine ho_val rfl rfl (ex_move rfl) ?_
  refine ho_val rfl rfl (ex_move rfl) ?_
  refine ho_val rfl rfl (ex_len_slice rfl Try.underlying28) ?_
  refine ho_val rfl rfl (ex_lss rfl rfl rfl) ?_
  refine ho_nil ?_
  refine hk_then_code ?_
  refine hl_if rfl (fun hc0 => ?_) (fun hc0 => ?_)
  · try simp only [decide_eq_true_eq, decide_eq_false_iff_not, beq_iff_eq, beq_eq_false_iff_ne, bne_iff_ne, bne_eq_false_iff_eq, ne_eq, Int.not_lt, Int.not_le, gt_iff_lt, ge_iff_le] at hc0
    have hk : g < x.length := by omega
    refine hl_skip ?_
    refine hk_then_code ?_
    refine hl_seq ?_
    refine hl_block ?_
    refine hl_region ?_
    refine ho_val rfl rfl (ex_move rfl) ?_
    refine ho_val rfl rfl (ex_move rfl) ?_
    refine ho_val rfl rfl (ex_move rfl) ?_
    refine ho_val rfl rfl (ex_move rfl) ?_
    refine ho_val rfl rfl (ex_addr_own rfl rfl Try.underlying28 size5 (by omega)) ?_
    refine ho_val rfl rfl (ex_load rfl 0 rfl rfl (vrow_get _ _ _ (by rw [hT]; omega)) Try.underlying5 rfl) ?_
    refine ho_val rfl rfl (ex_notN8 rfl) ?_
    refine ho_val rfl rfl (ex_addr_own rfl rfl Try.underlying28 size5 (by omega)) ?_
    refine ho_do rfl rfl (exw_store0 rfl rfl (vrow_get _ _ _ (by rw [hT]; omega)) rfl size5 (vrow_set _ _ _ _ (by rw [hT]; omega))) (fun _ _ => ?_)
    refine ho_nil ?_
    refine hk_block_normal ?_
    refine hk_then_code ?_
    refine hl_region ?_
    refine ho_val rfl rfl (ex_move rfl) ?_
    refine ho_val rfl rfl (ex_addN (q := 1) rfl rfl (by omega)) ?_
    refine ho_val rfl rfl (ex_assign rfl) ?_
    refine ho_nil ?_
    refine hk_then_normal ?_
    exact hk_round (g + 1) (by omega) (by omega) ⟨rfl, rfl, trivial⟩ _ (by decide) (.cons 0 rfl .nil)
  · try simp only [decide_eq_true_eq, decide_eq_false_iff_not, beq_iff_eq, beq_eq_false_iff_ne, bne_iff_ne, bne_eq_false_iff_eq, ne_eq, Int.not_lt, Int.not_le, gt_iff_lt, ge_iff_le] at hc0
    have hk : g = x.length := by omega
    refine hl_exit ?_
    refine hk_then_exit ?_
    refine hk_then_exit ?_
    refine hk_block_hit ?_
    exact hk_end0 rfl (fun w' hw' => ⟨rfl, hk ▸ hw'⟩)

set_option maxHeartbeats 400000 in
theorem bit_any (l : List UInt8) (n : Nat) (hn : l.length = n) (p : Option Addr) (c : Nat) (hp : p = none → l.length = 0) (hl : l.length ≤ 1048576) (w : World) (hS : Sl w p (l.map vb)) (k : Nat) (hk : k ≤ 16777216) :
    Calls Try.prog 28 #[slv p n c, Value.int .i64 (k : Int)] w fun e w' => e = .returned (.int .i64 (bitOf l k : Int)) ∧ Below w.heap.size w w' := by
  subst hn
  refine calls_enter (n := 21) (hs := []) (M := []) (vs := [slv p l.length c, Value.int .i64 (k : Int)]) Try.func28 rfl rfl rfl (Hp.start w) ?_
  refine hl_seq ?_
  refine hl_region ?_
  refine ho_val rfl rfl (ex_assign rfl) ?_
  refine ho_nil ?_
  refine hk_then_code ?_
  refine hl_seq ?_
  refine hl_seq ?_
  refine hl_region ?_
  refine ho_val rfl rfl (ex_move rfl) ?_
  refine ho_val rfl rfl (ex_quoN (q := 8) rfl rfl (by omega) (by omega)) ?_
  refine ho_val rfl rfl (ex_move rfl) ?_
  refine ho_val rfl rfl (ex_len_slice rfl Try.underlying28) ?_
  refine ho_val rfl rfl (ex_geq rfl rfl rfl) ?_
  refine ho_nil ?_
  refine hk_then_code ?_
  refine hl_if rfl (fun hc0 => ?_) (fun hc0 => ?_)
  · try simp only [decide_eq_true_eq, decide_eq_false_iff_not, beq_iff_eq, beq_eq_false_iff_ne, bne_iff_ne, bne_eq_false_iff_eq, ne_eq, Int.not_lt, Int.not_le, gt_iff_lt, ge_iff_le] at hc0
    refine hl_seq ?_
    refine hl_region ?_
    refine ho_val rfl rfl (ex_assign rfl) ?_
    refine ho_nil ?_
    refine hk_then_code ?_
    refine hl_ret ?_
    refine hk_then_ret ?_
    exact hk_ret rfl rfl (fun w' hw' => ⟨by rw [bit_none l k hc0]; rfl, hw'.below⟩)
  · try simp only [decide_eq_true_eq, decide_eq_false_iff_not, beq_iff_eq, beq_eq_false_iff_ne, bne_iff_ne, bne_eq_false_iff_eq, ne_eq, Int.not_lt, Int.not_le, gt_iff_lt, ge_iff_le] at hc0
    have hlt : k / 8 < l.length := by omega
    refine hl_skip ?_
    refine hk_then_code ?_
    refine hl_seq ?_
    refine hl_region ?_
    refine ho_val rfl rfl (ex_move rfl) ?_
    refine ho_val rfl rfl (ex_move rfl) ?_
    refine ho_val rfl rfl (ex_quoN (q := 8) rfl rfl (by omega) (by omega)) ?_
    refine ho_val rfl rfl (ex_addr_sl1 rfl rfl Try.underlying28 size5 (by omega) hp) ?_
    refine ho_val rfl rfl (ex_load_sl rfl (fun w' hw' => hS.old0 hw') (map_vb_get _ _ (by omega)) Try.underlying5 rfl) ?_
    refine ho_val rfl rfl (ex_convN rfl Try.underlying5 Try.underlying3 (by have := (l.getD (k / 8) 0).toNat_lt; simp only [cap]; omega)) ?_
    refine ho_val rfl rfl (ex_move rfl) ?_
    refine ho_val rfl rfl (ex_remN (q := 8) rfl rfl (by omega) (by omega)) ?_
    refine ho_val rfl rfl (ex_convN rfl Try.underlying3 Try.underlying50 (by simp only [cap]; omega)) ?_
    refine ho_val rfl rfl (ex_shrN rfl rfl (by have := (l.getD (k / 8) 0).toNat_lt; simp only [cap]; omega)) ?_
    refine ho_val rfl rfl (ex_andN (q := 1) rfl rfl (Nat.lt_of_le_of_lt (Nat.div_le_self _ _) (by have := (l.getD (k / 8) 0).toNat_lt; simp only [cap]; omega)) (by decide)) ?_
    refine ho_val rfl rfl (ex_assign rfl) ?_
    refine ho_nil ?_
    refine hk_then_code ?_
    refine hl_ret ?_
    exact hk_ret rfl rfl (fun w' hw' => ⟨by rw [bit_some], hw'.below⟩)

end Go.Proofs.Ytdmagjelmhcemaa
