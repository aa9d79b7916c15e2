/- What the digest's Of, Len, Clone and Reset do. -/
import Derived.Test.YtdmagjelmhcemaaDoorRows
import Derived.Test.YtdmagjelmhcemaaDoorFacts
import Derived.Test.YtdmagjelmhcemaaDoorSha
import Derived.Test.YtdmagjelmhcemaaDoorTextLaw2
import Derived.Test.YtdmagjelmhcemaaDoorSha2
import Derived.Test.YtdmagjelmhcemaaDoorHash
import Derived.Test.YtdmagjelmhcemaaDoorG
import Derived.Test.YtdmagjelmhcemaaDoorMix
import Derived.KernelRfl
import Derived.Test.YtdmagjelmhcemaaDoorSum
import Derived.Test.YtdmagjelmhcemaaDoorHashers
import Derived.Test.YtdmagjelmhcemaaDoorHashSum
namespace Go.Proofs.YtdmagjelmhcemaaDoor
open Go.RowKit
set_option linter.unusedVariables false
set_option linter.unusedSimpArgs false

set_option maxHeartbeats 400000 in
theorem of_any (m : List UInt8) (n : Nat) (hn : m.length = n) (p : Option Addr) (c : Nat) (hp : p = none → m.length = 0) (hc : p = none → c = 0) (hcap : m.length ≤ c) (hl : m.length ≤ 1152921504606846976) (w : World) (hS : Sl w p (m.map vb)) (hH : Sl w (some ⟨2, 0, none⟩) (tH.map vw)) (hK : Sl w (some ⟨3, 0, none⟩) (tK.map vw)) :
    Calls Tryd.prog 13 #[slv p n c] w fun e w' => e = .returned (.agg (vbs (sha tK tH m))) ∧ Below w.heap.size w w' := by
  subst hn
  have h3 : 3 < w.heap.size := World.block_lt_of_cell? w _ (hK.cell0 (tK_get 0 (by decide)))
  refine calls_enter (n := 12) (hs := []) (M := []) (vs := [slv p m.length c]) Tryd.func13 rfl rfl rfl (Hp.start w) ?_
  refine hl_seq ?_
  refine hl_region ?_
  refine ho_do rfl rfl (exw_alloc_cs (z := .agg (vbs (List.replicate 32 0))) (vbs (List.replicate 32 0)) (by kernel_rfl) rfl) (fun b2 hb2 => ?_)
  refine ho_nil ?_
  refine hk_then_code ?_
  refine hl_seq ?_
  refine hl_region ?_
  refine ho_do rfl rfl (exw_call Tryd.func19 rfl (by kernel_rfl) rfl (val := fun st : Nat => .pointer (some ⟨st, 0, none⟩)) (hs' := fun st => ⟨some st, hblk tH (List.replicate 64 0) 0, 67, (0, 0)⟩ :: _) (pre := fun st => w.heap.size ≤ st) (fun w' hw' => (new_any w' (hH.old0 hw')).mono fun e w2 ⟨g, h1, h2⟩ => ⟨g, Nat.le_trans hw'.size h2.fresh, h1, hw'.comp (A := []) (by simp) h2⟩)) (fun h4 ge4 => ?_)
  refine ho_val rfl rfl (ex_assign rfl) ?_
  refine ho_nil ?_
  refine hk_then_code ?_
  refine hl_seq ?_
  refine hl_seq ?_
  have HL7 : ([] : List UInt8).length + m.length ≤ 1152921504606846976 := by rw [List.length_nil]; omega
  refine hl_region ?_
  refine ho_val rfl rfl (ex_move rfl) ?_
  refine ho_val rfl rfl (ex_move rfl) ?_
  refine ho_do rfl rfl (exw_call Tryd.func21 rfl (by kernel_rfl) rfl (val := fun _ : List UInt32 × List UInt8 => .int .i64 0) (hs' := fun st => ⟨some h4, hblk st.1 st.2 (([] : List UInt8) ++ m).length, 67, (0, 0)⟩ :: _) (pre := fun st => HSt (([] : List UInt8) ++ m) st.1 st.2) (fun w' hw' => (write_any ([] : List UInt8) m tH (List.replicate 64 0) _ rfl HSt.start h4 67 p c hp hc hcap HL7 w' (hw'.own _ List.mem_cons_self h4 rfl) (Sk.older hS hw' (by intro a ha; rw [List.mem_singleton.1 ha]; exact ge4)) (hK.old0 hw') (by omega)).mono fun e w2 ⟨S', R', h1, h2, h3⟩ => ⟨(S', R'), h1, h2, hw'.comp (A := [_]) (fun g hg => ⟨_, List.mem_cons_self, by rw [List.mem_singleton.1 hg]⟩) h3⟩)) (fun x7 hx7 => ?_)
  refine ho_val rfl rfl (ex_neq rfl rfl rfl) ?_
  refine ho_nil ?_
  refine hk_then_code ?_
  refine hl_false rfl ?_
  refine hl_skip ?_
  refine hk_then_code ?_
  refine hl_seq ?_
  refine hl_region ?_
  refine ho_val rfl rfl (ex_move rfl) ?_
  refine ho_do rfl rfl (exw_call_pure Tryd.func23 rfl (by kernel_rfl) rfl (fun w' hw' => sum_any ([] ++ m) x7.1 x7.2 hx7 h4 67 (by rw [List.length_append]; exact HL7) w' (hw'.own _ (List.mem_of_getElem? (i := 0) rfl) h4 rfl) (hK.old0 hw'))) (fun _ _ => ?_)
  refine ho_do rfl rfl (exw_store_row1 rfl rfl (by rw [size25, vbs_size, sha_length]) (by rw [vbs_size, vbs_size, sha_length]; rfl) (vbs_one _)) (fun _ _ => ?_)
  refine ho_nil ?_
  refine hk_then_code ?_
  refine hl_ret ?_
  exact hk_ret_row rfl rfl 1 rfl rfl Tryd.underlying25 rfl (by rw [size25, vbs_size, sha_length]) (fun w' hw' => ⟨rfl, hw'.below⟩)

set_option maxHeartbeats 400000 in
theorem len_any (m : List UInt8) (S : List UInt32) (R : List UInt8) (hst : HSt m S R) (g et : Nat) (w : World) (h0 : w.heap[g]? = some (.cells (hblk S R m.length) et (0, 0))) :
    Calls Tryd.prog 25 #[Value.pointer (some ⟨g, 0, none⟩)] w fun e w' => e = .returned (.int .i64 (m.length : Int)) ∧ Below w.heap.size w w' := by
  have hS8 := hst.len
  have hR8 := hst.r
  have hN : w.cell? ⟨g, 0 + 72, none⟩ = some (.int .i64 (m.length : Int)) := by rw [cell_of_row w g (0 + 72) _ et (0, 0) h0]; exact hblk_n _ hS8 hR8
  refine calls_enter (n := 9) (hs := []) (M := []) (vs := [Value.pointer (some ⟨g, 0, none⟩)]) Tryd.func25 rfl rfl rfl (Hp.start w) ?_
  refine hl_seq ?_
  refine hl_region ?_
  refine ho_val rfl rfl (ex_assign rfl) ?_
  refine ho_nil ?_
  refine hk_then_code ?_
  refine hl_seq ?_
  refine hl_seq ?_
  refine hl_region ?_
  refine ho_val rfl rfl (ex_move rfl) ?_
  refine ho_val rfl rfl (ex_eql_ptr rfl rfl Tryd.underlying34 rfl) ?_
  refine ho_nil ?_
  refine hk_then_code ?_
  refine hl_false rfl ?_
  refine hl_skip ?_
  refine hk_then_code ?_
  refine hl_seq ?_
  refine hl_region ?_
  refine ho_val rfl rfl (ex_move rfl) ?_
  refine ho_val rfl rfl (ex_nilCheck rfl) ?_
  refine ho_val rfl rfl (ex_field_addr rfl Tryd.underlying67 rfl size3 rfl) ?_
  refine ho_val rfl rfl (ex_load_old (p := ⟨g, 0 + 72, none⟩) rfl (fun w' hw' => hw'.old hN) Tryd.underlying3 rfl) ?_
  refine ho_val rfl rfl (ex_assign rfl) ?_
  refine ho_nil ?_
  refine hk_then_code ?_
  refine hl_ret ?_
  exact hk_ret rfl rfl (fun w' hw' => ⟨rfl, hw'.below⟩)

set_option maxHeartbeats 400000 in
theorem clone_any (m : List UInt8) (S : List UInt32) (R : List UInt8) (hst : HSt m S R) (g et : Nat) (w : World) (h0 : w.heap[g]? = some (.cells (hblk S R m.length) et (0, 0))) :
    Calls Tryd.prog 27 #[Value.pointer (some ⟨g, 0, none⟩)] w fun e w' => ∃ b, e = .returned (.pointer (some ⟨b, 0, none⟩)) ∧ Hp w [] [⟨some b, hblk S R m.length, 67, (0, 0)⟩] w' := by
  have hS8 := hst.len
  have hR8 := hst.r
  have hA : Sl w (some ⟨g, 0, none⟩) (S.map vw ++ (R.map vb ++ [Value.int .i64 (m.length : Int)])) := Sl.heap h0 (hblk_all _)
  refine calls_enter (n := 9) (hs := []) (M := []) (vs := [Value.pointer (some ⟨g, 0, none⟩)]) Tryd.func27 rfl rfl rfl (Hp.start w) ?_
  refine hl_seq ?_
  refine hl_region ?_
  refine ho_val rfl rfl (ex_assign rfl) ?_
  refine ho_nil ?_
  refine hk_then_code ?_
  refine hl_seq ?_
  refine hl_seq ?_
  refine hl_region ?_
  refine ho_val rfl rfl (ex_move rfl) ?_
  refine ho_val rfl rfl (ex_eql_ptr rfl rfl Tryd.underlying34 rfl) ?_
  refine ho_nil ?_
  refine hk_then_code ?_
  refine hl_false rfl ?_
  refine hl_skip ?_
  refine hk_then_code ?_
  refine hl_seq ?_
  refine hl_region ?_
  refine ho_val rfl rfl (ex_move rfl) ?_
  refine ho_val rfl rfl (ex_nilCheck rfl) ?_
  refine ho_val rfl rfl (ex_load_agg (xs := S.map vw ++ (R.map vb ++ [Value.int .i64 (m.length : Int)])) rfl (fun w' hw' => hA.old0 hw') Tryd.underlying67 rfl (by rw [size67]; simp [hS8, hR8])) ?_
  refine ho_do rfl rfl (exw_alloc_cs (z := .agg (hblk (List.replicate 8 0) (List.replicate 64 0) 0)) (hblk (List.replicate 8 0) (List.replicate 64 0) 0) (by kernel_rfl) rfl) (fun b3 hb3 => ?_)
  refine ho_do rfl rfl (exw_store_row0 rfl rfl (by rw [size67]; exact congrArg some (hblk_size _ hS8 hR8).symm) (by rw [hblk_size _ (by simp) (by simp)]; exact (hblk_size _ hS8 hR8).symm) (hblk_one _ _ _)) (fun _ _ => ?_)
  refine ho_nil ?_
  refine hk_then_code ?_
  refine hl_seq ?_
  refine hl_region ?_
  refine ho_val rfl rfl (ex_assign rfl) ?_
  refine ho_nil ?_
  refine hk_then_code ?_
  refine hl_ret ?_
  exact hk_ret rfl rfl (fun w' hw' => ⟨b3, rfl, hw'⟩)

set_option maxHeartbeats 400000 in
theorem reset_any (m : List UInt8) (S : List UInt32) (R : List UInt8) (hst : HSt m S R) (g : Nat) (w : World) (h0 : w.heap[g]? = some (.cells (hblk S R m.length) 67 (0, 0))) (hH : Sl w (some ⟨2, 0, none⟩) (tH.map vw)) (hg2 : 2 ≠ g) :
    Calls Tryd.prog 29 #[Value.pointer (some ⟨g, 0, none⟩)] w fun e w' => e = .returned (.tuple #[]) ∧ Hp w [g] [⟨some g, hblk tH (List.replicate 64 0) 0, 67, (0, 0)⟩] w' := by
  have hS8 := hst.len
  have hR8 := hst.r
  have hH' : Sk w [g] (some ⟨2, 0, none⟩) (tH.map vw) := Sk.of hH (fun a ha => by obtain rfl := Option.some.inj ha; simpa using hg2)
  refine calls_enter (n := 9) (hs := [⟨some g, hblk S R m.length, 67, (0, 0)⟩]) (M := [g]) (vs := [Value.pointer (some ⟨g, 0, none⟩)]) Tryd.func29 rfl rfl rfl (Hp.mine w g _ _ h0) ?_
  refine hl_seq ?_
  refine hl_region ?_
  refine ho_val rfl rfl (ex_move rfl) ?_
  refine ho_val rfl rfl (ex_neq_ptr rfl rfl Tryd.underlying34 rfl) ?_
  refine ho_nil ?_
  refine hk_then_code ?_
  refine hl_true rfl ?_
  refine hl_region ?_
  refine ho_val rfl rfl (ex_move rfl) ?_
  refine ho_do rfl rfl (exw_call Tryd.func19 rfl (by kernel_rfl) rfl (val := fun st : Nat => .pointer (some ⟨st, 0, none⟩)) (hs' := fun st => ⟨some st, hblk tH (List.replicate 64 0) 0, 67, (0, 0)⟩ :: _) (pre := fun st => w.heap.size ≤ st) (fun w' hw' => (new_any w' (hH' _ w' hw')).mono fun e w2 ⟨g, h1, h2⟩ => ⟨g, Nat.le_trans hw'.size h2.fresh, h1, hw'.comp (A := []) (by simp) h2⟩)) (fun h5 ge5 => ?_)
  refine ho_val rfl rfl (ex_nilCheck rfl) ?_
  refine ho_val rfl rfl (ex_load_row rfl 0 rfl rfl Tryd.underlying67 rfl (by rw [size67]; rfl)) ?_
  refine ho_val rfl rfl (ex_nilCheck rfl) ?_
  refine ho_do rfl rfl (exw_store_row1 rfl rfl (by rw [size67]; rfl) (by rw [hblk_size _ hS8 hR8]; rfl) (hblk_one _ _ _)) (fun _ _ => ?_)
  refine ho_nil ?_
  exact hk_end0 rfl (fun w' hw' => ⟨rfl, hw'.pick (is := [1]) (by decide) (.cons 1 rfl .nil)⟩)

set_option maxHeartbeats 400000 in
theorem dturned_any (m : List UInt8) (S : List UInt32) (R : List UInt8) (hst : HSt m S R) (g et : Nat) (k : List UInt8) (hk : k.length = 64) (y : UInt8) (hl : m.length ≤ 1152921504606000000) (w : World) (h0 : w.heap[g]? = some (.cells (hblk S R m.length) et (0, 0))) (hK : Sl w (some ⟨3, 0, none⟩) (tK.map vw)) (hg3 : 3 ≠ g) :
    Calls Tryd.prog 41 #[Value.pointer (some ⟨g, 0, none⟩), Value.agg (vbs k), vb y] w fun e w' => ∃ S' R', HSt (m ++ k.map (· ^^^ y)) S' R' ∧ e = .returned (.tuple #[]) ∧ Hp w [g] [⟨some g, hblk S' R' (m ++ k.map (· ^^^ y)).length, et, (0, 0)⟩] w' := by
  have hS8 := hst.len
  have hR8 := hst.r
  have hgw : g < w.heap.size := (Array.getElem?_eq_some_iff.1 h0).1
  have hT : ∀ i, ((k.take i).map (· ^^^ y) ++ k.drop i).length = 64 := fun i => by rw [turnedTo_length, hk]
  refine calls_enter (n := 20) (hs := [⟨some g, hblk S R m.length, et, (0, 0)⟩]) (M := [g]) (vs := [Value.pointer (some ⟨g, 0, none⟩), Value.agg (vbs k), vb y]) Tryd.func41 rfl rfl rfl (Hp.mine w g _ _ h0) ?_
  refine hl_seq ?_
  refine hl_region ?_
  refine ho_do rfl rfl (exw_box_agg rfl) (fun b4 hb4 => ?_)
  refine ho_nil ?_
  refine hk_then_code ?_
  refine hl_seq ?_
  refine hl_seq ?_
  refine hl_region ?_
  refine ho_val rfl rfl (ex_move rfl) ?_
  refine ho_nil ?_
  refine hk_then_code ?_
  refine hl_block ?_
  refine hl_loop (G := Nat) (fun i => 64 - i) (fun i => i ≤ 64) (fun i => [(0, .pointer (some ⟨g, 0, none⟩)), (2, vb y), (4, .pointer (some ⟨b4, 0, none⟩)), (7, .int .i64 (i : Nat))]) (fun i => [⟨some b4, vbs ((k.take i).map (· ^^^ y) ++ k.drop i), 53, (0, 0)⟩, ⟨some g, hblk S R m.length, et, (0, 0)⟩]) 0 (by omega) ⟨rfl, rfl, rfl, rfl, trivial⟩ _ (by decide) (.cons 0 rfl (.cons 1 rfl .nil)) (fun i hi => ?_)
  refine hl_seq ?_
  refine hl_region ?_
  refine ho_val rfl rfl (ex_lss rfl rfl rfl) ?_
  refine ho_nil ?_
  refine hk_then_code ?_
  refine hl_seq ?_
  refine hl_if rfl (fun hc0 => ?_) (fun hc0 => ?_)
  · try simp only [decide_eq_true_eq, decide_eq_false_iff_not, beq_iff_eq, beq_eq_false_iff_ne, bne_iff_ne, bne_eq_false_iff_eq, ne_eq, Int.not_lt, Int.not_le, gt_iff_lt, ge_iff_le] at hc0
    have hi5 : i < 64 := by omega
    refine hl_skip ?_
    refine hk_then_code ?_
    refine hl_seq ?_
    refine hl_block ?_
    refine hl_seq ?_
    refine hl_region ?_
    refine ho_val rfl rfl (ex_move rfl) ?_
    refine ho_val rfl rfl (ex_assign rfl) ?_
    refine ho_nil ?_
    refine hk_then_code ?_
    refine hl_region ?_
    refine ho_val rfl rfl (ex_move rfl) ?_
    refine ho_val rfl rfl (ex_addr_arr0 rfl rfl Tryd.underlying53 size5 (by omega)) ?_
    refine ho_val rfl rfl (ex_load rfl 0 rfl rfl (vbs_getD _ _ (by rw [hT]; omega)) Tryd.underlying5 rfl) ?_
    refine ho_val rfl rfl (ex_move rfl) ?_
    refine ho_val rfl rfl (ex_xor8 rfl rfl) ?_
    refine ho_val rfl rfl (ex_addr_arr0 rfl rfl Tryd.underlying53 size5 (by omega)) ?_
    refine ho_do rfl rfl (exw_store0 rfl rfl (vbs_getD _ _ (by rw [hT]; omega)) rfl size5 (vbs_set _ _ _)) (fun _ _ => ?_)
    refine ho_nil ?_
    refine hk_block_normal ?_
    refine hk_then_code ?_
    refine hl_region ?_
    refine ho_val rfl rfl (ex_addN (q := 1) rfl rfl (by omega)) ?_
    refine ho_val rfl rfl (ex_move rfl) ?_
    refine ho_nil ?_
    refine hk_then_normal ?_
    exact hk_round (i + 1) (by omega) (by omega) ⟨rfl, rfl, rfl, rfl, trivial⟩ _ (by decide) (.cons 0 (by rw [← turnedTo_step k y i (by omega)]; rfl) (.cons 1 rfl .nil))
  · try simp only [decide_eq_true_eq, decide_eq_false_iff_not, beq_iff_eq, beq_eq_false_iff_ne, bne_iff_ne, bne_eq_false_iff_eq, ne_eq, Int.not_lt, Int.not_le, gt_iff_lt, ge_iff_le] at hc0
    obtain rfl : i = 64 := by omega
    have HL19 : m.length + (k.map (· ^^^ y)).length ≤ 1152921504606846976 := by rw [List.length_map, hk]; omega
    refine hl_exit ?_
    refine hk_then_exit ?_
    refine hk_then_exit ?_
    refine hk_block_hit ?_
    refine hk_then_code ?_
    refine hl_region ?_
    refine ho_val rfl rfl (ex_move rfl) ?_
    refine ho_val rfl rfl (ex_slice_arr rfl Tryd.underlying53 _ size5) ?_
    refine ho_pick _ (by decide) (.cons 1 rfl (.cons 0 rfl .nil)) ?_
    refine ho_do rfl rfl (exw_call Tryd.func21 rfl (by kernel_rfl) rfl (val := fun _ : List UInt32 × List UInt8 => .int .i64 0) (hs' := fun st => ⟨some g, hblk st.1 st.2 (m ++ (k.map (· ^^^ y))).length, et, (0, 0)⟩ :: _) (pre := fun st => HSt (m ++ (k.map (· ^^^ y))) st.1 st.2) (fun w' hw' => (write_any m (k.map (· ^^^ y)) S R _ (by rw [List.length_map, hk]) hst g et (some ⟨b4, 0, none⟩) 64 (fun h => nomatch h) (fun h => nomatch h) (by rw [List.length_map, hk]; exact Nat.le_refl _) HL19 w' (hw'.own _ List.mem_cons_self g rfl) (Sk.of (turnedTo_done k y hk ▸ Sl.ownBs hw' 1 rfl) (fun a ha => by obtain rfl := Option.some.inj ha; intro hm; have := List.mem_singleton.1 hm; dsimp only at this; omega)) (hK.old hw' (fun q hq => by obtain rfl := Option.some.inj hq; simpa using hg3)) (by omega)).mono fun e w2 ⟨S', R', h1, h2, h3⟩ => ⟨(S', R'), h1, h2, hw'.comp (A := [_]) (fun g hg => ⟨_, List.mem_cons_self, by rw [List.mem_singleton.1 hg]⟩) h3⟩)) (fun x19 hx19 => ?_)
    refine ho_nil ?_
    exact hk_end0 rfl (fun w' hw' => ⟨_, _, hx19, rfl, hw'.pick (is := [0]) (by decide) (.cons 0 rfl .nil)⟩)

end Go.Proofs.YtdmagjelmhcemaaDoor
