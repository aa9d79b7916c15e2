/- The law DigestPieces, walked. -/
import Derived.Test.YtdmagjelmhcemaaDoorNils
import Derived.Test.YtdmagjelmhcemaaDoorPieces
namespace Go.Proofs.YtdmagjelmhcemaaDoor
open Go.RowKit
set_option linter.unusedVariables false
set_option linter.unusedSimpArgs false

set_option maxHeartbeats 1600000 in
theorem pieces_law (ps : List (Lst UInt8)) (p : Option Addr) (c : Nat) (hne : p = none → ps.length = 0 ∧ c = 0) (hlc : ps.length ≤ c) (hb : pieceBulk ps ≤ 1048576) (at' : Int) (w : World) (hsl : Sl w p (ps.map Lst.v)) (hps : ∀ x ∈ ps, x.Good w (fun b => [vb b])) (hH : Sl w (some ⟨2, 0, none⟩) (tH.map vw)) (hK : Sl w (some ⟨3, 0, none⟩) (tK.map vw)) :
    Calls Tryd.prog 6 #[slv p ps.length c, Value.int .i64 at'] w fun e w' => e = .returned (.bool true) ∧ Below w.heap.size w w' := by
  have h3 : 3 < w.heap.size := World.block_lt_of_cell? w _ (hK.cell0 (tK_get 0 (by decide)))
  have h2 : 2 < w.heap.size := World.block_lt_of_cell? w _ (hH.cell0 (map_vw_get tH 0 (by decide)))
  have hlp := pieces_le ps
  refine calls_enter (n := 119) (hs := []) (M := []) (vs := [slv p ps.length c, Value.int .i64 at']) Tryd.func6 rfl rfl rfl (Hp.start w) ?_
  refine hl_seq ?_
  refine hl_region ?_
  refine ho_val rfl rfl (ex_assign rfl) ?_
  refine ho_nil ?_
  refine hk_then_code ?_
  refine hl_seq ?_
  refine hl_region ?_
  refine ho_val rfl rfl (ex_assign rfl) ?_
  refine ho_nil ?_
  refine hk_then_code ?_
  refine hl_seq ?_
  refine hl_region ?_
  refine ho_do rfl rfl (exw_call Tryd.func19 rfl (by kernel_rfl) rfl (val := fun st : Nat => .pointer (some ⟨st, 0, none⟩)) (hs' := fun st => ⟨some st, hblk tH (List.replicate 64 0) 0, 67, (0, 0)⟩ :: _) (pre := fun st => w.heap.size ≤ st) (fun w' hw' => (new_any w' (hH.old0 hw')).mono fun e w2 ⟨g, h1, h2⟩ => ⟨g, Nat.le_trans hw'.size h2.fresh, h1, hw'.comp (A := []) (by simp) h2⟩)) (fun h10 ge10 => ?_)
  refine ho_val rfl rfl (ex_assign rfl) ?_
  refine ho_nil ?_
  refine hk_then_code ?_
  refine hl_seq ?_
  refine hl_region ?_
  refine ho_val rfl rfl (ex_assign rfl) ?_
  refine ho_nil ?_
  refine hk_then_code ?_
  refine hl_seq ?_
  refine hl_seq ?_
  refine hl_region ?_
  refine ho_val rfl rfl (ex_assign rfl) ?_
  refine ho_nil ?_
  refine hk_then_code ?_
  refine hl_block ?_
  refine hl_none_block (hblk tH (List.replicate 64 0) 0) 67 ?_
  refine hl_nil_block 5 ?_
  refine hl_loop (G := Nat × (Option Nat × Nat × List Value) × (List UInt32 × List UInt8) × Option Nat × (List UInt32 × List UInt8)) (fun z => ps.length - z.1) (fun z => z.1 ≤ ps.length ∧ RowOk 1 z.2.1.1 (allTo ps z.1).length z.2.1.2.1 ((allTo ps z.1).map vb) z.2.1.2.2 ∧ HSt (allTo ps z.1) z.2.2.1.1 z.2.2.1.2 ∧ HSt (allTo ps z.1) z.2.2.2.2.1 z.2.2.2.2.2 ∧ (∀ g, z.2.2.2.1 = some g → w.heap.size ≤ g)) (fun z => [(0, slv p ps.length c), (1, .int .i64 at'), (5, rowv z.2.1.1 (allTo ps z.1).length z.2.1.2.1), (6, .pointer (some ⟨h10, 0, none⟩)), (7, .pointer (z.2.2.2.1.map fun g => ⟨g, 0, none⟩)), (8, .int .i64 (z.1 : Nat))]) (fun z => [⟨z.2.1.1, ((allTo ps z.1).map vb ++ z.2.1.2.2).toArray, 5, (0, 0)⟩, ⟨some h10, hblk z.2.2.1.1 z.2.2.1.2 (allTo ps z.1).length, 67, (0, 0)⟩, ⟨z.2.2.2.1, hblk z.2.2.2.2.1 z.2.2.2.2.2 (allTo ps z.1).length, 67, (0, 0)⟩]) (0, (none, 0, []), (tH, (List.replicate 64 0)), none, (tH, (List.replicate 64 0))) ⟨Nat.zero_le _, RowOk.start _, HSt.start, HSt.start, fun g h => by cases h⟩ ⟨rfl, rfl, rfl, rfl, rfl, rfl, trivial⟩ _ (by decide) (.cons 0 rfl (.cons 2 rfl (.cons 1 rfl .nil))) (fun z ⟨hz, hok, hz1, hz2, hzc⟩ => ?_)
  refine hl_seq ?_
  refine hl_seq ?_
  refine hl_region ?_
  refine ho_val rfl rfl (ex_move rfl) ?_
  refine ho_val rfl rfl (ex_move rfl) ?_
  refine ho_val rfl rfl (ex_len_slice rfl Tryd.underlying48) ?_
  refine ho_val rfl rfl (ex_lss rfl rfl rfl) ?_
  refine ho_nil ?_
  refine hk_then_code ?_
  refine hl_if rfl (fun hc0 => ?_) (fun hc0 => ?_)
  · try simp only [decide_eq_true_eq, decide_eq_false_iff_not, beq_iff_eq, beq_eq_false_iff_ne, bne_iff_ne, bne_eq_false_iff_eq, ne_eq, Int.not_lt, Int.not_le, gt_iff_lt, ge_iff_le] at hc0
    have hk5 : z.1 < ps.length := by omega
    obtain ⟨pc, hpi⟩ : ∃ pc, ps[z.1]? = some pc := ⟨_, List.getElem?_eq_getElem hk5⟩
    have hpc := hps pc (List.mem_of_getElem? hpi)
    have hpS : Sl w pc.p (pc.xs.map vb) := by have h := hpc.sl; rw [flat1] at h; exact h
    have eM := allTo_step hpi
    have hlM := allTo_le ps z.1
    have hlM2 := allTo_le ps (z.1 + 1)
    rw [eM, List.length_append] at hlM2
    refine hl_skip ?_
    refine hk_then_code ?_
    refine hl_seq ?_
    refine hl_block ?_
    refine hl_seq ?_
    refine hl_seq ?_
    refine hl_region ?_
    refine ho_val rfl rfl (ex_move rfl) ?_
    refine ho_val rfl rfl (ex_move rfl) ?_
    refine ho_val rfl rfl (ex_eql rfl rfl (rfl)) ?_
    refine ho_nil ?_
    refine hk_then_code ?_
    refine hl_if rfl (fun hc1 => ?_) (fun hc1 => ?_)
    · try simp only [decide_eq_true_eq, decide_eq_false_iff_not, beq_iff_eq, beq_eq_false_iff_ne, bne_iff_ne, bne_eq_false_iff_eq, ne_eq, Int.not_lt, Int.not_le, gt_iff_lt, ge_iff_le] at hc1
      refine hl_seq ?_
      refine hl_region ?_
      refine ho_val rfl rfl (ex_move rfl) ?_
      refine ho_do rfl rfl (exw_call Tryd.func27 rfl (by kernel_rfl) rfl (val := fun st : Nat => .pointer (some ⟨st, 0, none⟩)) (hs' := fun st => ⟨some st, hblk z.2.2.1.1 z.2.2.1.2 (allTo ps z.1).length, 67, (0, 0)⟩ :: _) (pre := fun st => w.heap.size ≤ st) (fun w' hw' => (clone_any (allTo ps z.1) z.2.2.1.1 z.2.2.1.2 hz1 h10 67 w' (hw'.own _ (List.mem_of_getElem? (i := 1) rfl) h10 rfl)).mono fun e w2 ⟨b, h1, h2⟩ => ⟨b, Nat.le_trans hw'.size h2.fresh, h1, hw'.comp (A := []) (by simp) h2⟩)) (fun g21 ge21 => ?_)
      refine ho_val rfl rfl (ex_assign rfl) ?_
      refine ho_nil ?_
      refine hk_then_code ?_
      refine hl_seq ?_
      have geC : w.heap.size ≤ g21 := ge21
      refine hl_region ?_
      refine ho_val rfl rfl (ex_move rfl) ?_
      refine ho_val rfl rfl (ex_eql_ptr rfl rfl Tryd.underlying34 rfl) ?_
      refine ho_nil ?_
      refine hk_then_code ?_
      refine hl_false rfl ?_
      refine hl_skip ?_
      refine hk_then_code ?_
      refine hl_seq ?_
      refine hl_seq ?_
      refine hl_region ?_
      refine ho_val rfl rfl (ex_move rfl) ?_
      refine ho_val rfl rfl (ex_move rfl) ?_
      refine ho_val rfl rfl (ex_move rfl) ?_
      refine ho_val rfl rfl (ex_addr_sl1 rfl rfl Tryd.underlying48 size22 (by omega) (fun h => (hne h).1)) ?_
      refine ho_val rfl rfl (ex_load_sl rfl (fun w' hw' => hsl.old0 hw') (show (ps.map Lst.v)[z.1]? = some (slv pc.p pc.xs.length pc.c) from by rw [List.getElem?_map, hpi]; rfl) Tryd.underlying22 rfl) ?_
      refine ho_pick _ (by decide) (.cons 2 rfl (.cons 0 rfl (.cons 1 rfl (.cons 3 rfl .nil)))) ?_
      refine ho_do rfl rfl (exw_call Tryd.func21 rfl (by kernel_rfl) rfl (val := fun _ : List UInt32 × List UInt8 => .int .i64 0) (hs' := fun st => ⟨some h10, hblk st.1 st.2 ((allTo ps z.1) ++ pc.xs).length, 67, (0, 0)⟩ :: _) (pre := fun st => HSt ((allTo ps z.1) ++ pc.xs) st.1 st.2) (fun w' hw' => (write_any (allTo ps z.1) pc.xs z.2.2.1.1 z.2.2.1.2 _ rfl hz1 h10 67 pc.p pc.c (fun h => (hpc.nil h).1) (fun h => (hpc.nil h).2) hpc.le (by have h1 := allTo_le ps z.1; have h2 := allTo_le ps (z.1 + 1); rw [eM, List.length_append] at h2; omega) w' (hw'.own _ List.mem_cons_self h10 rfl) (Sk.older hpS hw' (by intro a ha; rw [List.mem_singleton.1 ha]; exact ge10)) (hK.old0 hw') (by omega)).mono fun e w2 ⟨S', R', h1, h2, h3⟩ => ⟨(S', R'), h1, h2, hw'.comp (A := [_]) (fun g hg => ⟨_, List.mem_cons_self, by rw [List.mem_singleton.1 hg]⟩) h3⟩)) (fun x29 hx29 => ?_)
      refine ho_val rfl rfl (ex_neq rfl rfl rfl) ?_
      refine ho_val rfl rfl (ex_move rfl) ?_
      refine ho_want rfl rfl rfl rfl rfl (ex_move rfl) ?_
      refine ho_want rfl rfl rfl rfl rfl (ex_neq_ptr rfl rfl Tryd.underlying34 rfl) ?_
      refine ho_want rfl rfl rfl rfl rfl (ex_move rfl) ?_
      refine ho_want rfl rfl rfl rfl rfl (ex_move rfl) ?_
      refine ho_want rfl rfl rfl rfl rfl (ex_move rfl) ?_
      refine ho_want rfl rfl rfl rfl rfl (ex_move rfl) ?_
      refine ho_want rfl rfl rfl rfl rfl (ex_addr_sl1 rfl rfl Tryd.underlying48 size22 (by omega) (fun h => (hne h).1)) ?_
      refine ho_want rfl rfl rfl rfl rfl (ex_load_sl rfl (fun w' hw' => hsl.old0 hw') (show (ps.map Lst.v)[z.1]? = some (slv pc.p pc.xs.length pc.c) from by rw [List.getElem?_map, hpi]; rfl) Tryd.underlying22 rfl) ?_
      refine ho_pick _ (by decide) (.cons 1 rfl (.cons 0 rfl (.cons 2 rfl (.cons 3 rfl .nil)))) ?_
      refine ho_do_want rfl rfl rfl rfl rfl (exw_call Tryd.func21 rfl (by kernel_rfl) rfl (val := fun _ : List UInt32 × List UInt8 => .int .i64 0) (hs' := fun st => ⟨some g21, hblk st.1 st.2 ((allTo ps z.1) ++ pc.xs).length, 67, (0, 0)⟩ :: _) (pre := fun st => HSt ((allTo ps z.1) ++ pc.xs) st.1 st.2) (fun w' hw' => (write_any (allTo ps z.1) pc.xs z.2.2.1.1 z.2.2.1.2 _ rfl hz1 g21 67 pc.p pc.c (fun h => (hpc.nil h).1) (fun h => (hpc.nil h).2) hpc.le (by have h1 := allTo_le ps z.1; have h2 := allTo_le ps (z.1 + 1); rw [eM, List.length_append] at h2; omega) w' (hw'.own _ List.mem_cons_self g21 rfl) (Sk.older hpS hw' (by intro a ha; rw [List.mem_singleton.1 ha]; exact geC)) (hK.old0 hw') (by omega)).mono fun e w2 ⟨S', R', h1, h2, h3⟩ => ⟨(S', R'), h1, h2, hw'.comp (A := [_]) (fun g hg => ⟨_, List.mem_cons_self, by rw [List.mem_singleton.1 hg]⟩) h3⟩)) (fun x40 hx40 => ?_)
      refine ho_want rfl rfl rfl rfl rfl (ex_neq rfl rfl rfl) ?_
      refine ho_want rfl rfl rfl rfl rfl (ex_pick_true rfl rfl) ?_
      refine ho_val rfl rfl (ex_pick_false rfl rfl) ?_
      refine ho_nil ?_
      refine hk_then_code ?_
      refine hl_false rfl ?_
      refine hl_skip ?_
      refine hk_then_code ?_
      refine hl_seq ?_
      skip
      refine hl_region ?_
      refine ho_val rfl rfl (ex_move rfl) ?_
      refine ho_val rfl rfl (ex_move rfl) ?_
      refine ho_val rfl rfl (ex_move rfl) ?_
      refine ho_val rfl rfl (ex_addr_sl1 rfl rfl Tryd.underlying48 size22 (by omega) (fun h => (hne h).1)) ?_
      refine ho_val rfl rfl (ex_load_sl rfl (fun w' hw' => hsl.old0 hw') (show (ps.map Lst.v)[z.1]? = some (slv pc.p pc.xs.length pc.c) from by rw [List.getElem?_map, hpi]; rfl) Tryd.underlying22 rfl) ?_
      refine ho_pick _ (by decide) (.cons 2 rfl (.cons 0 rfl (.cons 1 rfl (.cons 3 rfl .nil)))) ?_
      refine ho_do rfl rfl (exw_append0 (xs := (allTo ps z.1).map vb) (rest := z.2.1.2.2) rfl rfl rfl hok (fun w' hw' => hpS.old0 hw') (by simp) (map_vb_one _) Tryd.underlying22 info5 rfl (by decide) (by omega) (by simp only [maxLen]; omega) (fun h => hpc.nil h)) (fun y49 hk49 => ?_)
      refine ho_val rfl rfl (ex_assign rfl) ?_
      refine ho_nil ?_
      refine hk_then_code ?_
      refine hl_seq ?_
      rcases Decidable.em (z.1 % 3 = 0) with h3m | h3m
      · refine hl_region ?_
        refine ho_val rfl rfl (ex_move rfl) ?_
        refine ho_val rfl rfl (ex_remN (q := 3) rfl rfl (by omega) (by omega)) ?_
        refine ho_val rfl rfl (ex_eql rfl rfl (beq_iff_eq.2 (by omega))) ?_
        refine ho_val rfl rfl (ex_move rfl) ?_
        refine ho_want rfl rfl rfl rfl rfl (ex_move rfl) ?_
        refine ho_do_want rfl rfl rfl rfl rfl (exw_call_pure Tryd.func23 rfl (by kernel_rfl) rfl (fun w' hw' => sum_any ((allTo ps z.1) ++ pc.xs) x29.1 x29.2 hx29 h10 67 (by rw [List.length_append]; omega) w' (hw'.own _ (List.mem_of_getElem? (i := 2) rfl) h10 rfl) (hK.old0 hw'))) (fun _ _ => ?_)
        refine ho_want rfl rfl rfl rfl rfl (ex_move rfl) ?_
        refine ho_do_want rfl rfl rfl rfl rfl (exw_call_pure Tryd.func13 rfl (by kernel_rfl) rfl (fun w' hw' => of_any ((allTo ps z.1) ++ pc.xs) _ (by rw [List.length_append]) (rowp y49.1) y49.2.1 (fun h => by have := hk49.empty' h; rw [List.length_append]; omega) (fun h => (hk49.empty' h).2) (by have := hk49.le; rw [List.length_append]; omega) (by rw [List.length_append]; omega) w' (show Sl w' _ (((allTo ps z.1) ++ pc.xs).map vb) by have h := Sl.ownRow hw' 0 rfl (fun h => RowOk.empty hk49 h); rw [List.map_append]; exact h) (hH.old0 hw') (hK.old0 hw'))) (fun _ _ => ?_)
        refine ho_want rfl rfl rfl rfl rfl (ex_neq_arr (b := false) rfl rfl Tryd.underlying25 Tryd.underlying5 size5 (by kernel_rfl) (sha_length _ _ _) (sha_length _ _ _) (neq_false_of_eq rfl)) ?_
        refine ho_val rfl rfl (ex_pick_true rfl rfl) ?_
        refine ho_val rfl rfl (ex_move rfl) ?_
        refine ho_want rfl rfl rfl rfl rfl (ex_move rfl) ?_
        refine ho_do_want rfl rfl rfl rfl rfl (exw_call_pure Tryd.func25 rfl (by kernel_rfl) rfl (fun w' hw' => len_any ((allTo ps z.1) ++ pc.xs) x29.1 x29.2 hx29 h10 67 w' (hw'.own _ (List.mem_of_getElem? (i := 2) rfl) h10 rfl))) (fun _ _ => ?_)
        refine ho_want rfl rfl rfl rfl rfl (ex_move rfl) ?_
        refine ho_want rfl rfl rfl rfl rfl (ex_len_slice rfl Tryd.underlying22) ?_
        refine ho_want rfl rfl rfl rfl rfl (ex_neq rfl rfl (by rw [bne_eq_false_iff_eq, List.length_append])) ?_
        refine ho_val rfl rfl (ex_pick_false rfl rfl) ?_
        refine ho_nil ?_
        refine hk_then_code ?_
        refine hl_false rfl ?_
        refine hl_skip ?_
        refine hk_block_normal ?_
        refine hk_then_code ?_
        refine hl_region ?_
        refine ho_val rfl rfl (ex_move rfl) ?_
        refine ho_val rfl rfl (ex_addN (q := 1) rfl rfl (by omega)) ?_
        refine ho_val rfl rfl (ex_assign rfl) ?_
        refine ho_nil ?_
        refine hk_then_normal ?_
        exact hk_round (z.1 + 1, y49, x29, some g21, x40) ⟨by dsimp only; omega, by rw [eM, List.length_append, List.map_append]; exact hk49, by rw [eM]; exact hx29, by rw [eM]; exact hx40, fun g h => by obtain rfl := Option.some.inj h; exact geC⟩ (by dsimp only; omega) ⟨rfl, rfl, (by rw [eM, List.length_append]; rfl), rfl, rfl, rfl, trivial⟩ _ (by decide) (.cons 0 (by rw [eM, List.map_append]; rfl) (.cons 2 (by rw [eM]; rfl) (.cons 1 (by rw [eM]; rfl) .nil)))
      · refine hl_region ?_
        refine ho_val rfl rfl (ex_move rfl) ?_
        refine ho_val rfl rfl (ex_remN (q := 3) rfl rfl (by omega) (by omega)) ?_
        refine ho_val rfl rfl (ex_eql rfl rfl (beq_eq_false_iff_ne.2 (by omega))) ?_
        refine ho_val rfl rfl (ex_move rfl) ?_
        refine ho_skip rfl rfl rfl rfl rfl rfl ?_
        refine ho_skip rfl rfl rfl rfl rfl rfl ?_
        refine ho_skip rfl rfl rfl rfl rfl rfl ?_
        refine ho_skip rfl rfl rfl rfl rfl rfl ?_
        refine ho_skip rfl rfl rfl rfl rfl rfl ?_
        refine ho_val rfl rfl (ex_pick_false rfl rfl) ?_
        refine ho_val rfl rfl (ex_move rfl) ?_
        refine ho_want rfl rfl rfl rfl rfl (ex_move rfl) ?_
        refine ho_do_want rfl rfl rfl rfl rfl (exw_call_pure Tryd.func25 rfl (by kernel_rfl) rfl (fun w' hw' => len_any ((allTo ps z.1) ++ pc.xs) x29.1 x29.2 hx29 h10 67 w' (hw'.own _ (List.mem_of_getElem? (i := 2) rfl) h10 rfl))) (fun _ _ => ?_)
        refine ho_want rfl rfl rfl rfl rfl (ex_move rfl) ?_
        refine ho_want rfl rfl rfl rfl rfl (ex_len_slice rfl Tryd.underlying22) ?_
        refine ho_want rfl rfl rfl rfl rfl (ex_neq rfl rfl (by rw [bne_eq_false_iff_eq, List.length_append])) ?_
        refine ho_val rfl rfl (ex_pick_false rfl rfl) ?_
        refine ho_nil ?_
        refine hk_then_code ?_
        refine hl_false rfl ?_
        refine hl_skip ?_
        refine hk_block_normal ?_
        refine hk_then_code ?_
        refine hl_region ?_
        refine ho_val rfl rfl (ex_move rfl) ?_
        refine ho_val rfl rfl (ex_addN (q := 1) rfl rfl (by omega)) ?_
        refine ho_val rfl rfl (ex_assign rfl) ?_
        refine ho_nil ?_
        refine hk_then_normal ?_
        exact hk_round (z.1 + 1, y49, x29, some g21, x40) ⟨by dsimp only; omega, by rw [eM, List.length_append, List.map_append]; exact hk49, by rw [eM]; exact hx29, by rw [eM]; exact hx40, fun g h => by obtain rfl := Option.some.inj h; exact geC⟩ (by dsimp only; omega) ⟨rfl, rfl, (by rw [eM, List.length_append]; rfl), rfl, rfl, rfl, trivial⟩ _ (by decide) (.cons 0 (by rw [eM, List.map_append]; rfl) (.cons 2 (by rw [eM]; rfl) (.cons 1 (by rw [eM]; rfl) .nil)))
    · try simp only [decide_eq_true_eq, decide_eq_false_iff_not, beq_iff_eq, beq_eq_false_iff_ne, bne_iff_ne, bne_eq_false_iff_eq, ne_eq, Int.not_lt, Int.not_le, gt_iff_lt, ge_iff_le] at hc1
      refine hl_skip ?_
      refine hk_then_code ?_
      refine hl_seq ?_
      refine hl_seq ?_
      rcases hcg : z.2.2.2.1 with _ | cg
      · refine hl_region ?_
        refine ho_val rfl rfl (ex_move rfl) ?_
        refine ho_val rfl rfl (ex_move rfl) ?_
        refine ho_val rfl rfl (ex_move rfl) ?_
        refine ho_val rfl rfl (ex_addr_sl1 rfl rfl Tryd.underlying48 size22 (by omega) (fun h => (hne h).1)) ?_
        refine ho_val rfl rfl (ex_load_sl rfl (fun w' hw' => hsl.old0 hw') (show (ps.map Lst.v)[z.1]? = some (slv pc.p pc.xs.length pc.c) from by rw [List.getElem?_map, hpi]; rfl) Tryd.underlying22 rfl) ?_
        refine ho_pick _ (by decide) (.cons 1 rfl (.cons 0 rfl (.cons 2 rfl .nil))) ?_
        refine ho_do rfl rfl (exw_call Tryd.func21 rfl (by kernel_rfl) rfl (val := fun _ : List UInt32 × List UInt8 => .int .i64 0) (hs' := fun st => ⟨some h10, hblk st.1 st.2 ((allTo ps z.1) ++ pc.xs).length, 67, (0, 0)⟩ :: _) (pre := fun st => HSt ((allTo ps z.1) ++ pc.xs) st.1 st.2) (fun w' hw' => (write_any (allTo ps z.1) pc.xs z.2.2.1.1 z.2.2.1.2 _ rfl hz1 h10 67 pc.p pc.c (fun h => (hpc.nil h).1) (fun h => (hpc.nil h).2) hpc.le (by have h1 := allTo_le ps z.1; have h2 := allTo_le ps (z.1 + 1); rw [eM, List.length_append] at h2; omega) w' (hw'.own _ List.mem_cons_self h10 rfl) (Sk.older hpS hw' (by intro a ha; rw [List.mem_singleton.1 ha]; exact ge10)) (hK.old0 hw') (by omega)).mono fun e w2 ⟨S', R', h1, h2, h3⟩ => ⟨(S', R'), h1, h2, hw'.comp (A := [_]) (fun g hg => ⟨_, List.mem_cons_self, by rw [List.mem_singleton.1 hg]⟩) h3⟩)) (fun x29 hx29 => ?_)
        refine ho_val rfl rfl (ex_neq rfl rfl rfl) ?_
        refine ho_val rfl rfl (ex_move rfl) ?_
        refine ho_want rfl rfl rfl rfl rfl (ex_move rfl) ?_
        refine ho_want rfl rfl rfl rfl rfl (ex_neq_ptr rfl rfl Tryd.underlying34 rfl) ?_
        refine ho_want rfl rfl rfl rfl rfl (ex_move rfl) ?_
        refine ho_skip rfl rfl rfl rfl rfl rfl ?_
        refine ho_skip rfl rfl rfl rfl rfl rfl ?_
        refine ho_skip rfl rfl rfl rfl rfl rfl ?_
        refine ho_skip rfl rfl rfl rfl rfl rfl ?_
        refine ho_skip rfl rfl rfl rfl rfl rfl ?_
        refine ho_skip rfl rfl rfl rfl rfl rfl ?_
        refine ho_skip rfl rfl rfl rfl rfl rfl ?_
        refine ho_want rfl rfl rfl rfl rfl (ex_pick_false rfl rfl) ?_
        refine ho_val rfl rfl (ex_pick_false rfl rfl) ?_
        refine ho_nil ?_
        refine hk_then_code ?_
        refine hl_false rfl ?_
        refine hl_skip ?_
        refine hk_then_code ?_
        refine hl_seq ?_
        refine hl_none_block (hblk x29.1 x29.2 ((allTo ps z.1) ++ pc.xs).length) 67 ?_
        refine hl_region ?_
        refine ho_val rfl rfl (ex_move rfl) ?_
        refine ho_val rfl rfl (ex_move rfl) ?_
        refine ho_val rfl rfl (ex_move rfl) ?_
        refine ho_val rfl rfl (ex_addr_sl1 rfl rfl Tryd.underlying48 size22 (by omega) (fun h => (hne h).1)) ?_
        refine ho_val rfl rfl (ex_load_sl rfl (fun w' hw' => hsl.old0 hw') (show (ps.map Lst.v)[z.1]? = some (slv pc.p pc.xs.length pc.c) from by rw [List.getElem?_map, hpi]; rfl) Tryd.underlying22 rfl) ?_
        refine ho_pick _ (by decide) (.cons 2 rfl (.cons 0 rfl (.cons 1 rfl .nil))) ?_
        refine ho_do rfl rfl (exw_append0 (xs := (allTo ps z.1).map vb) (rest := z.2.1.2.2) rfl rfl rfl hok (fun w' hw' => hpS.old0 hw') (by simp) (map_vb_one _) Tryd.underlying22 info5 rfl (by decide) (by omega) (by simp only [maxLen]; omega) (fun h => hpc.nil h)) (fun y49 hk49 => ?_)
        refine ho_val rfl rfl (ex_assign rfl) ?_
        refine ho_nil ?_
        refine hk_then_code ?_
        refine hl_seq ?_
        rcases Decidable.em (z.1 % 3 = 0) with h3m | h3m
        · refine hl_region ?_
          refine ho_val rfl rfl (ex_move rfl) ?_
          refine ho_val rfl rfl (ex_remN (q := 3) rfl rfl (by omega) (by omega)) ?_
          refine ho_val rfl rfl (ex_eql rfl rfl (beq_iff_eq.2 (by omega))) ?_
          refine ho_val rfl rfl (ex_move rfl) ?_
          refine ho_want rfl rfl rfl rfl rfl (ex_move rfl) ?_
          refine ho_do_want rfl rfl rfl rfl rfl (exw_call_pure Tryd.func23 rfl (by kernel_rfl) rfl (fun w' hw' => sum_any ((allTo ps z.1) ++ pc.xs) x29.1 x29.2 hx29 h10 67 (by rw [List.length_append]; omega) w' (hw'.own _ (List.mem_of_getElem? (i := 2) rfl) h10 rfl) (hK.old0 hw'))) (fun _ _ => ?_)
          refine ho_want rfl rfl rfl rfl rfl (ex_move rfl) ?_
          refine ho_do_want rfl rfl rfl rfl rfl (exw_call_pure Tryd.func13 rfl (by kernel_rfl) rfl (fun w' hw' => of_any ((allTo ps z.1) ++ pc.xs) _ (by rw [List.length_append]) (rowp y49.1) y49.2.1 (fun h => by have := hk49.empty' h; rw [List.length_append]; omega) (fun h => (hk49.empty' h).2) (by have := hk49.le; rw [List.length_append]; omega) (by rw [List.length_append]; omega) w' (show Sl w' _ (((allTo ps z.1) ++ pc.xs).map vb) by have h := Sl.ownRow hw' 0 rfl (fun h => RowOk.empty hk49 h); rw [List.map_append]; exact h) (hH.old0 hw') (hK.old0 hw'))) (fun _ _ => ?_)
          refine ho_want rfl rfl rfl rfl rfl (ex_neq_arr (b := false) rfl rfl Tryd.underlying25 Tryd.underlying5 size5 (by kernel_rfl) (sha_length _ _ _) (sha_length _ _ _) (neq_false_of_eq rfl)) ?_
          refine ho_val rfl rfl (ex_pick_true rfl rfl) ?_
          refine ho_val rfl rfl (ex_move rfl) ?_
          refine ho_want rfl rfl rfl rfl rfl (ex_move rfl) ?_
          refine ho_do_want rfl rfl rfl rfl rfl (exw_call_pure Tryd.func25 rfl (by kernel_rfl) rfl (fun w' hw' => len_any ((allTo ps z.1) ++ pc.xs) x29.1 x29.2 hx29 h10 67 w' (hw'.own _ (List.mem_of_getElem? (i := 2) rfl) h10 rfl))) (fun _ _ => ?_)
          refine ho_want rfl rfl rfl rfl rfl (ex_move rfl) ?_
          refine ho_want rfl rfl rfl rfl rfl (ex_len_slice rfl Tryd.underlying22) ?_
          refine ho_want rfl rfl rfl rfl rfl (ex_neq rfl rfl (by rw [bne_eq_false_iff_eq, List.length_append])) ?_
          refine ho_val rfl rfl (ex_pick_false rfl rfl) ?_
          refine ho_nil ?_
          refine hk_then_code ?_
          refine hl_false rfl ?_
          refine hl_skip ?_
          refine hk_block_normal ?_
          refine hk_then_code ?_
          refine hl_region ?_
          refine ho_val rfl rfl (ex_move rfl) ?_
          refine ho_val rfl rfl (ex_addN (q := 1) rfl rfl (by omega)) ?_
          refine ho_val rfl rfl (ex_assign rfl) ?_
          refine ho_nil ?_
          refine hk_then_normal ?_
          exact hk_round (z.1 + 1, y49, x29, none, x29) ⟨by dsimp only; omega, by rw [eM, List.length_append, List.map_append]; exact hk49, by rw [eM]; exact hx29, by rw [eM]; exact hx29, fun g h => by cases h⟩ (by dsimp only; omega) ⟨rfl, rfl, (by rw [eM, List.length_append]; rfl), rfl, rfl, rfl, trivial⟩ _ (by decide) (.cons 0 (by rw [eM, List.map_append]; rfl) (.cons 2 (by rw [eM]; rfl) (.cons 1 (by rw [eM]; rfl) .nil)))
        · refine hl_region ?_
          refine ho_val rfl rfl (ex_move rfl) ?_
          refine ho_val rfl rfl (ex_remN (q := 3) rfl rfl (by omega) (by omega)) ?_
          refine ho_val rfl rfl (ex_eql rfl rfl (beq_eq_false_iff_ne.2 (by omega))) ?_
          refine ho_val rfl rfl (ex_move rfl) ?_
          refine ho_skip rfl rfl rfl rfl rfl rfl ?_
          refine ho_skip rfl rfl rfl rfl rfl rfl ?_
          refine ho_skip rfl rfl rfl rfl rfl rfl ?_
          refine ho_skip rfl rfl rfl rfl rfl rfl ?_
          refine ho_skip rfl rfl rfl rfl rfl rfl ?_
          refine ho_val rfl rfl (ex_pick_false rfl rfl) ?_
          refine ho_val rfl rfl (ex_move rfl) ?_
          refine ho_want rfl rfl rfl rfl rfl (ex_move rfl) ?_
          refine ho_do_want rfl rfl rfl rfl rfl (exw_call_pure Tryd.func25 rfl (by kernel_rfl) rfl (fun w' hw' => len_any ((allTo ps z.1) ++ pc.xs) x29.1 x29.2 hx29 h10 67 w' (hw'.own _ (List.mem_of_getElem? (i := 2) rfl) h10 rfl))) (fun _ _ => ?_)
          refine ho_want rfl rfl rfl rfl rfl (ex_move rfl) ?_
          refine ho_want rfl rfl rfl rfl rfl (ex_len_slice rfl Tryd.underlying22) ?_
          refine ho_want rfl rfl rfl rfl rfl (ex_neq rfl rfl (by rw [bne_eq_false_iff_eq, List.length_append])) ?_
          refine ho_val rfl rfl (ex_pick_false rfl rfl) ?_
          refine ho_nil ?_
          refine hk_then_code ?_
          refine hl_false rfl ?_
          refine hl_skip ?_
          refine hk_block_normal ?_
          refine hk_then_code ?_
          refine hl_region ?_
          refine ho_val rfl rfl (ex_move rfl) ?_
          refine ho_val rfl rfl (ex_addN (q := 1) rfl rfl (by omega)) ?_
          refine ho_val rfl rfl (ex_assign rfl) ?_
          refine ho_nil ?_
          refine hk_then_normal ?_
          exact hk_round (z.1 + 1, y49, x29, none, x29) ⟨by dsimp only; omega, by rw [eM, List.length_append, List.map_append]; exact hk49, by rw [eM]; exact hx29, by rw [eM]; exact hx29, fun g h => by cases h⟩ (by dsimp only; omega) ⟨rfl, rfl, (by rw [eM, List.length_append]; rfl), rfl, rfl, rfl, trivial⟩ _ (by decide) (.cons 0 (by rw [eM, List.map_append]; rfl) (.cons 2 (by rw [eM]; rfl) (.cons 1 (by rw [eM]; rfl) .nil)))
      · have geC : w.heap.size ≤ cg := hzc cg hcg
        refine hl_region ?_
        refine ho_val rfl rfl (ex_move rfl) ?_
        refine ho_val rfl rfl (ex_move rfl) ?_
        refine ho_val rfl rfl (ex_move rfl) ?_
        refine ho_val rfl rfl (ex_addr_sl1 rfl rfl Tryd.underlying48 size22 (by omega) (fun h => (hne h).1)) ?_
        refine ho_val rfl rfl (ex_load_sl rfl (fun w' hw' => hsl.old0 hw') (show (ps.map Lst.v)[z.1]? = some (slv pc.p pc.xs.length pc.c) from by rw [List.getElem?_map, hpi]; rfl) Tryd.underlying22 rfl) ?_
        refine ho_pick _ (by decide) (.cons 1 rfl (.cons 0 rfl (.cons 2 rfl .nil))) ?_
        refine ho_do rfl rfl (exw_call Tryd.func21 rfl (by kernel_rfl) rfl (val := fun _ : List UInt32 × List UInt8 => .int .i64 0) (hs' := fun st => ⟨some h10, hblk st.1 st.2 ((allTo ps z.1) ++ pc.xs).length, 67, (0, 0)⟩ :: _) (pre := fun st => HSt ((allTo ps z.1) ++ pc.xs) st.1 st.2) (fun w' hw' => (write_any (allTo ps z.1) pc.xs z.2.2.1.1 z.2.2.1.2 _ rfl hz1 h10 67 pc.p pc.c (fun h => (hpc.nil h).1) (fun h => (hpc.nil h).2) hpc.le (by have h1 := allTo_le ps z.1; have h2 := allTo_le ps (z.1 + 1); rw [eM, List.length_append] at h2; omega) w' (hw'.own _ List.mem_cons_self h10 rfl) (Sk.older hpS hw' (by intro a ha; rw [List.mem_singleton.1 ha]; exact ge10)) (hK.old0 hw') (by omega)).mono fun e w2 ⟨S', R', h1, h2, h3⟩ => ⟨(S', R'), h1, h2, hw'.comp (A := [_]) (fun g hg => ⟨_, List.mem_cons_self, by rw [List.mem_singleton.1 hg]⟩) h3⟩)) (fun x29 hx29 => ?_)
        refine ho_val rfl rfl (ex_neq rfl rfl rfl) ?_
        refine ho_val rfl rfl (ex_move rfl) ?_
        refine ho_want rfl rfl rfl rfl rfl (ex_move rfl) ?_
        refine ho_want rfl rfl rfl rfl rfl (ex_neq_ptr rfl rfl Tryd.underlying34 rfl) ?_
        refine ho_want rfl rfl rfl rfl rfl (ex_move rfl) ?_
        refine ho_want rfl rfl rfl rfl rfl (ex_move rfl) ?_
        refine ho_want rfl rfl rfl rfl rfl (ex_move rfl) ?_
        refine ho_want rfl rfl rfl rfl rfl (ex_move rfl) ?_
        refine ho_want rfl rfl rfl rfl rfl (ex_addr_sl1 rfl rfl Tryd.underlying48 size22 (by omega) (fun h => (hne h).1)) ?_
        refine ho_want rfl rfl rfl rfl rfl (ex_load_sl rfl (fun w' hw' => hsl.old0 hw') (show (ps.map Lst.v)[z.1]? = some (slv pc.p pc.xs.length pc.c) from by rw [List.getElem?_map, hpi]; rfl) Tryd.underlying22 rfl) ?_
        refine ho_pick _ (by decide) (.cons 2 rfl (.cons 0 rfl (.cons 1 rfl .nil))) ?_
        refine ho_do_want rfl rfl rfl rfl rfl (exw_call Tryd.func21 rfl (by kernel_rfl) rfl (val := fun _ : List UInt32 × List UInt8 => .int .i64 0) (hs' := fun st => ⟨some cg, hblk st.1 st.2 ((allTo ps z.1) ++ pc.xs).length, 67, (0, 0)⟩ :: _) (pre := fun st => HSt ((allTo ps z.1) ++ pc.xs) st.1 st.2) (fun w' hw' => (write_any (allTo ps z.1) pc.xs z.2.2.2.2.1 z.2.2.2.2.2 _ rfl hz2 cg 67 pc.p pc.c (fun h => (hpc.nil h).1) (fun h => (hpc.nil h).2) hpc.le (by have h1 := allTo_le ps z.1; have h2 := allTo_le ps (z.1 + 1); rw [eM, List.length_append] at h2; omega) w' (hw'.own _ List.mem_cons_self cg rfl) (Sk.older hpS hw' (by intro a ha; rw [List.mem_singleton.1 ha]; exact geC)) (hK.old0 hw') (by omega)).mono fun e w2 ⟨S', R', h1, h2, h3⟩ => ⟨(S', R'), h1, h2, hw'.comp (A := [_]) (fun g hg => ⟨_, List.mem_cons_self, by rw [List.mem_singleton.1 hg]⟩) h3⟩)) (fun x40 hx40 => ?_)
        refine ho_want rfl rfl rfl rfl rfl (ex_neq rfl rfl rfl) ?_
        refine ho_want rfl rfl rfl rfl rfl (ex_pick_true rfl rfl) ?_
        refine ho_val rfl rfl (ex_pick_false rfl rfl) ?_
        refine ho_nil ?_
        refine hk_then_code ?_
        refine hl_false rfl ?_
        refine hl_skip ?_
        refine hk_then_code ?_
        refine hl_seq ?_
        skip
        refine hl_region ?_
        refine ho_val rfl rfl (ex_move rfl) ?_
        refine ho_val rfl rfl (ex_move rfl) ?_
        refine ho_val rfl rfl (ex_move rfl) ?_
        refine ho_val rfl rfl (ex_addr_sl1 rfl rfl Tryd.underlying48 size22 (by omega) (fun h => (hne h).1)) ?_
        refine ho_val rfl rfl (ex_load_sl rfl (fun w' hw' => hsl.old0 hw') (show (ps.map Lst.v)[z.1]? = some (slv pc.p pc.xs.length pc.c) from by rw [List.getElem?_map, hpi]; rfl) Tryd.underlying22 rfl) ?_
        refine ho_pick _ (by decide) (.cons 2 rfl (.cons 0 rfl (.cons 1 rfl .nil))) ?_
        refine ho_do rfl rfl (exw_append0 (xs := (allTo ps z.1).map vb) (rest := z.2.1.2.2) rfl rfl rfl hok (fun w' hw' => hpS.old0 hw') (by simp) (map_vb_one _) Tryd.underlying22 info5 rfl (by decide) (by omega) (by simp only [maxLen]; omega) (fun h => hpc.nil h)) (fun y49 hk49 => ?_)
        refine ho_val rfl rfl (ex_assign rfl) ?_
        refine ho_nil ?_
        refine hk_then_code ?_
        refine hl_seq ?_
        rcases Decidable.em (z.1 % 3 = 0) with h3m | h3m
        · refine hl_region ?_
          refine ho_val rfl rfl (ex_move rfl) ?_
          refine ho_val rfl rfl (ex_remN (q := 3) rfl rfl (by omega) (by omega)) ?_
          refine ho_val rfl rfl (ex_eql rfl rfl (beq_iff_eq.2 (by omega))) ?_
          refine ho_val rfl rfl (ex_move rfl) ?_
          refine ho_want rfl rfl rfl rfl rfl (ex_move rfl) ?_
          refine ho_do_want rfl rfl rfl rfl rfl (exw_call_pure Tryd.func23 rfl (by kernel_rfl) rfl (fun w' hw' => sum_any ((allTo ps z.1) ++ pc.xs) x29.1 x29.2 hx29 h10 67 (by rw [List.length_append]; omega) w' (hw'.own _ (List.mem_of_getElem? (i := 2) rfl) h10 rfl) (hK.old0 hw'))) (fun _ _ => ?_)
          refine ho_want rfl rfl rfl rfl rfl (ex_move rfl) ?_
          refine ho_do_want rfl rfl rfl rfl rfl (exw_call_pure Tryd.func13 rfl (by kernel_rfl) rfl (fun w' hw' => of_any ((allTo ps z.1) ++ pc.xs) _ (by rw [List.length_append]) (rowp y49.1) y49.2.1 (fun h => by have := hk49.empty' h; rw [List.length_append]; omega) (fun h => (hk49.empty' h).2) (by have := hk49.le; rw [List.length_append]; omega) (by rw [List.length_append]; omega) w' (show Sl w' _ (((allTo ps z.1) ++ pc.xs).map vb) by have h := Sl.ownRow hw' 0 rfl (fun h => RowOk.empty hk49 h); rw [List.map_append]; exact h) (hH.old0 hw') (hK.old0 hw'))) (fun _ _ => ?_)
          refine ho_want rfl rfl rfl rfl rfl (ex_neq_arr (b := false) rfl rfl Tryd.underlying25 Tryd.underlying5 size5 (by kernel_rfl) (sha_length _ _ _) (sha_length _ _ _) (neq_false_of_eq rfl)) ?_
          refine ho_val rfl rfl (ex_pick_true rfl rfl) ?_
          refine ho_val rfl rfl (ex_move rfl) ?_
          refine ho_want rfl rfl rfl rfl rfl (ex_move rfl) ?_
          refine ho_do_want rfl rfl rfl rfl rfl (exw_call_pure Tryd.func25 rfl (by kernel_rfl) rfl (fun w' hw' => len_any ((allTo ps z.1) ++ pc.xs) x29.1 x29.2 hx29 h10 67 w' (hw'.own _ (List.mem_of_getElem? (i := 2) rfl) h10 rfl))) (fun _ _ => ?_)
          refine ho_want rfl rfl rfl rfl rfl (ex_move rfl) ?_
          refine ho_want rfl rfl rfl rfl rfl (ex_len_slice rfl Tryd.underlying22) ?_
          refine ho_want rfl rfl rfl rfl rfl (ex_neq rfl rfl (by rw [bne_eq_false_iff_eq, List.length_append])) ?_
          refine ho_val rfl rfl (ex_pick_false rfl rfl) ?_
          refine ho_nil ?_
          refine hk_then_code ?_
          refine hl_false rfl ?_
          refine hl_skip ?_
          refine hk_block_normal ?_
          refine hk_then_code ?_
          refine hl_region ?_
          refine ho_val rfl rfl (ex_move rfl) ?_
          refine ho_val rfl rfl (ex_addN (q := 1) rfl rfl (by omega)) ?_
          refine ho_val rfl rfl (ex_assign rfl) ?_
          refine ho_nil ?_
          refine hk_then_normal ?_
          exact hk_round (z.1 + 1, y49, x29, some cg, x40) ⟨by dsimp only; omega, by rw [eM, List.length_append, List.map_append]; exact hk49, by rw [eM]; exact hx29, by rw [eM]; exact hx40, fun g h => by obtain rfl := Option.some.inj h; exact geC⟩ (by dsimp only; omega) ⟨rfl, rfl, (by rw [eM, List.length_append]; rfl), rfl, rfl, rfl, trivial⟩ _ (by decide) (.cons 0 (by rw [eM, List.map_append]; rfl) (.cons 2 (by rw [eM]; rfl) (.cons 1 (by rw [eM]; rfl) .nil)))
        · refine hl_region ?_
          refine ho_val rfl rfl (ex_move rfl) ?_
          refine ho_val rfl rfl (ex_remN (q := 3) rfl rfl (by omega) (by omega)) ?_
          refine ho_val rfl rfl (ex_eql rfl rfl (beq_eq_false_iff_ne.2 (by omega))) ?_
          refine ho_val rfl rfl (ex_move rfl) ?_
          refine ho_skip rfl rfl rfl rfl rfl rfl ?_
          refine ho_skip rfl rfl rfl rfl rfl rfl ?_
          refine ho_skip rfl rfl rfl rfl rfl rfl ?_
          refine ho_skip rfl rfl rfl rfl rfl rfl ?_
          refine ho_skip rfl rfl rfl rfl rfl rfl ?_
          refine ho_val rfl rfl (ex_pick_false rfl rfl) ?_
          refine ho_val rfl rfl (ex_move rfl) ?_
          refine ho_want rfl rfl rfl rfl rfl (ex_move rfl) ?_
          refine ho_do_want rfl rfl rfl rfl rfl (exw_call_pure Tryd.func25 rfl (by kernel_rfl) rfl (fun w' hw' => len_any ((allTo ps z.1) ++ pc.xs) x29.1 x29.2 hx29 h10 67 w' (hw'.own _ (List.mem_of_getElem? (i := 2) rfl) h10 rfl))) (fun _ _ => ?_)
          refine ho_want rfl rfl rfl rfl rfl (ex_move rfl) ?_
          refine ho_want rfl rfl rfl rfl rfl (ex_len_slice rfl Tryd.underlying22) ?_
          refine ho_want rfl rfl rfl rfl rfl (ex_neq rfl rfl (by rw [bne_eq_false_iff_eq, List.length_append])) ?_
          refine ho_val rfl rfl (ex_pick_false rfl rfl) ?_
          refine ho_nil ?_
          refine hk_then_code ?_
          refine hl_false rfl ?_
          refine hl_skip ?_
          refine hk_block_normal ?_
          refine hk_then_code ?_
          refine hl_region ?_
          refine ho_val rfl rfl (ex_move rfl) ?_
          refine ho_val rfl rfl (ex_addN (q := 1) rfl rfl (by omega)) ?_
          refine ho_val rfl rfl (ex_assign rfl) ?_
          refine ho_nil ?_
          refine hk_then_normal ?_
          exact hk_round (z.1 + 1, y49, x29, some cg, x40) ⟨by dsimp only; omega, by rw [eM, List.length_append, List.map_append]; exact hk49, by rw [eM]; exact hx29, by rw [eM]; exact hx40, fun g h => by obtain rfl := Option.some.inj h; exact geC⟩ (by dsimp only; omega) ⟨rfl, rfl, (by rw [eM, List.length_append]; rfl), rfl, rfl, rfl, trivial⟩ _ (by decide) (.cons 0 (by rw [eM, List.map_append]; rfl) (.cons 2 (by rw [eM]; rfl) (.cons 1 (by rw [eM]; rfl) .nil)))
  · try simp only [decide_eq_true_eq, decide_eq_false_iff_not, beq_iff_eq, beq_eq_false_iff_ne, bne_iff_ne, bne_eq_false_iff_eq, ne_eq, Int.not_lt, Int.not_le, gt_iff_lt, ge_iff_le] at hc0
    have hk6 : z.1 = ps.length := by omega
    have hlM := allTo_le ps z.1
    refine hl_exit ?_
    refine hk_then_exit ?_
    refine hk_then_exit ?_
    refine hk_block_hit ?_
    refine hk_then_code ?_
    refine hl_seq ?_
    refine hl_region ?_
    refine ho_val rfl rfl (ex_move rfl) ?_
    refine ho_do rfl rfl (exw_call_pure Tryd.func13 rfl (by kernel_rfl) rfl (fun w' hw' => of_any (allTo ps z.1) _ rfl (rowp z.2.1.1) z.2.1.2.1 (fun h => by have := hok.empty' h; omega) (fun h => (hok.empty' h).2) (by have := hok.le; omega) (by omega) w' (show Sl w' _ ((allTo ps z.1).map vb) by have h := Sl.ownRow hw' 0 rfl (fun h => RowOk.empty hok h); exact h) (hH.old0 hw') (hK.old0 hw'))) (fun _ _ => ?_)
    refine ho_do rfl rfl (exw_alloc_cs (z := .agg (vbs (List.replicate 32 0))) (vbs (List.replicate 32 0)) (by kernel_rfl) rfl) (fun b9 hb9 => ?_)
    refine ho_do rfl rfl (exw_store_row0 rfl rfl (by rw [size25, vbs_size, sha_length]) (by rw [vbs_size, vbs_size, sha_length]; rfl) (vbs_one _)) (fun _ _ => ?_)
    refine ho_nil ?_
    refine hk_then_code ?_
    refine hl_seq ?_
    refine hl_seq ?_
    rcases hcg : z.2.2.2.1 with _ | cg
    · refine hl_held _ (by kernel_rfl) (by decide) (.cons 0 rfl (.cons 1 rfl (.cons 2 rfl (.cons 3 rfl .nil)))) ?_
      refine ha_take 0 rfl (by kernel_rfl) (by kernel_rfl) (by kernel_rfl) (fun _ _ _ h => h) rfl rfl (ex_move rfl) ?_
      refine ha_take 2 rfl (by kernel_rfl) (by kernel_rfl) (by kernel_rfl) (fun _ _ _ h => h) rfl rfl (ex_load_row rfl 0 rfl rfl Tryd.underlying25 rfl (by rw [size25, vbs_size, sha_length])) ?_
      refine ha_do 1 rfl (by kernel_rfl) (fun a _ => wanted_none rfl a) rfl (exw_call_pure Tryd.func23 rfl (by kernel_rfl) rfl (fun w' hw' => sum_any (allTo ps z.1) z.2.2.1.1 z.2.2.1.2 hz1 h10 67 (by omega) w' (hw'.own _ (List.mem_of_getElem? (i := 2) rfl) h10 rfl) (hK.old0 hw'))) (by decide) (fun _ _ => (.cons 0 rfl (.cons 1 rfl (.cons 2 rfl (.cons 3 rfl .nil))))) (fun _ _ => ?_)
      refine ha_take 3 rfl (by kernel_rfl) (by kernel_rfl) (by kernel_rfl) (fun _ _ _ h => h) rfl rfl (ex_neq_arr (b := false) rfl rfl Tryd.underlying25 Tryd.underlying5 size5 (by kernel_rfl) (sha_length _ _ _) (sha_length _ _ _) (neq_false_of_eq rfl)) ?_
      refine ha_take 4 rfl (by kernel_rfl) (by kernel_rfl) (by kernel_rfl) (fun _ _ _ h => h) rfl rfl (ex_move rfl) ?_
      refine ha_want 5 rfl (by kernel_rfl) (by kernel_rfl) (by kernel_rfl) (fun _ _ _ h => h) rfl rfl rfl rfl rfl (ex_move rfl) ?_
      refine ha_want 7 rfl (by kernel_rfl) (by kernel_rfl) (by kernel_rfl) (fun _ _ _ h => h) rfl rfl rfl rfl rfl (ex_load_row rfl 0 rfl rfl Tryd.underlying25 rfl (by rw [size25, vbs_size, sha_length])) ?_
      refine ha_do 6 rfl (by kernel_rfl) (want_of rfl rfl rfl rfl) rfl (exw_call_pure Tryd.func23 rfl (by kernel_rfl) rfl (fun w' hw' => sum_any (allTo ps z.1) z.2.2.1.1 z.2.2.1.2 hz1 h10 67 (by omega) w' (hw'.own _ (List.mem_of_getElem? (i := 2) rfl) h10 rfl) (hK.old0 hw'))) (by decide) (fun _ _ => (.cons 0 rfl (.cons 1 rfl (.cons 2 rfl (.cons 3 rfl .nil))))) (fun _ _ => ?_)
      refine ha_want 8 rfl (by kernel_rfl) (by kernel_rfl) (by kernel_rfl) (fun _ _ _ h => h) rfl rfl rfl rfl rfl (ex_neq_arr (b := false) rfl rfl Tryd.underlying25 Tryd.underlying5 size5 (by kernel_rfl) (sha_length _ _ _) (sha_length _ _ _) (neq_false_of_eq rfl)) ?_
      refine ha_take 9 rfl (by kernel_rfl) (by kernel_rfl) (by kernel_rfl) (fun _ _ _ h => h) rfl rfl (ex_pick_false rfl rfl) ?_
      refine ha_take 10 rfl (by kernel_rfl) (by kernel_rfl) (by kernel_rfl) (fun _ _ _ h => h) rfl rfl (ex_move rfl) ?_
      refine ha_want 11 rfl (by kernel_rfl) (by kernel_rfl) (by kernel_rfl) (fun _ _ _ h => h) rfl rfl rfl rfl rfl (ex_move rfl) ?_
      refine ha_want 12 rfl (by kernel_rfl) (by kernel_rfl) (by kernel_rfl) (fun _ _ _ h => h) rfl rfl rfl rfl rfl (ex_neq_ptr rfl rfl Tryd.underlying34 rfl) ?_
      refine ha_want 13 rfl (by kernel_rfl) (by kernel_rfl) (by kernel_rfl) (fun _ _ _ h => h) rfl rfl rfl rfl rfl (ex_move rfl) ?_
      refine ha_skip 14 rfl (by kernel_rfl) (by kernel_rfl) (by kernel_rfl) (fun _ _ _ h => h) rfl rfl rfl rfl rfl rfl ?_
      refine ha_skip 15 rfl (by kernel_rfl) (by kernel_rfl) (by kernel_rfl) (fun _ _ _ h => h) rfl rfl rfl rfl rfl rfl ?_
      refine ha_skip 16 rfl (by kernel_rfl) (by kernel_rfl) (by kernel_rfl) (fun _ _ _ h => h) rfl rfl rfl rfl rfl rfl ?_
      refine ha_skip 17 rfl (by kernel_rfl) (by kernel_rfl) (by kernel_rfl) (fun _ _ _ h => h) rfl rfl rfl rfl rfl rfl ?_
      refine ha_skip 18 rfl (by kernel_rfl) (by kernel_rfl) (by kernel_rfl) (fun _ _ _ h => h) rfl rfl rfl rfl rfl rfl ?_
      refine ha_skipu 19 rfl (by kernel_rfl) (by kernel_rfl) (by kernel_rfl) (fun _ _ _ h => h) rfl rfl rfl rfl rfl ?_
      refine ha_skipu 20 rfl (by kernel_rfl) (by kernel_rfl) (by kernel_rfl) (fun _ _ _ h => h) rfl rfl rfl rfl rfl ?_
      refine ha_skipu 21 rfl (by kernel_rfl) (by kernel_rfl) (by kernel_rfl) (fun _ _ _ h => h) rfl rfl rfl rfl rfl ?_
      refine ha_skipu 22 rfl (by kernel_rfl) (by kernel_rfl) (by kernel_rfl) (fun _ _ _ h => h) rfl rfl rfl rfl rfl ?_
      refine ha_skipu 23 rfl (by kernel_rfl) (by kernel_rfl) (by kernel_rfl) (fun _ _ _ h => h) rfl rfl rfl rfl rfl ?_
      refine ha_skip 24 rfl (by kernel_rfl) (by kernel_rfl) (by kernel_rfl) (fun _ _ _ h => h) rfl rfl rfl rfl rfl rfl ?_
      refine ha_want 25 rfl (by kernel_rfl) (by kernel_rfl) (by kernel_rfl) (fun _ _ _ h => h) rfl rfl rfl rfl rfl (ex_pick_false rfl rfl) ?_
      refine ha_take 26 rfl (by kernel_rfl) (by kernel_rfl) (by kernel_rfl) (fun _ _ _ h => h) rfl rfl (ex_pick_false rfl rfl) ?_
      refine ha_done (by kernel_rfl) ?_
      refine hk_then_code ?_
      refine hl_false rfl ?_
      refine hl_skip ?_
      refine hk_then_code ?_
      refine hl_seq ?_
      refine hl_region ?_
      refine ho_val rfl rfl (ex_move rfl) ?_
      refine ho_pick _ (by decide) (.cons 2 rfl (.cons 0 rfl (.cons 1 rfl (.cons 3 rfl .nil)))) ?_
      refine ho_do rfl rfl (exw_call Tryd.func29 rfl (by kernel_rfl) rfl (val := fun _ : Unit => .tuple #[]) (hs' := fun _ => ⟨some h10, hblk tH (List.replicate 64 0) 0, 67, (0, 0)⟩ :: _) (pre := fun _ => True) (fun w' hw' => (reset_any (allTo ps z.1) z.2.2.1.1 z.2.2.1.2 hz1 h10 w' (hw'.own _ List.mem_cons_self h10 rfl) (hH.old0 hw') (by omega)).mono fun e w2 ⟨h1, h2⟩ => ⟨(), trivial, h1, hw'.comp (A := [_]) (fun g hg => ⟨_, List.mem_cons_self, by rw [List.mem_singleton.1 hg]⟩) h2⟩)) (fun _ _ => ?_)
      refine ho_nil ?_
      refine hk_then_code ?_
      refine hl_seq ?_
      refine hl_held _ (by kernel_rfl) (by decide) (.cons 1 rfl (.cons 2 rfl .nil)) ?_
      refine ha_take 0 rfl (by kernel_rfl) (by kernel_rfl) (by kernel_rfl) (fun _ _ _ h => h) rfl rfl (ex_move rfl) ?_
      refine ha_do 1 rfl (by kernel_rfl) (fun a _ => wanted_none rfl a) rfl (exw_call_pure Tryd.func25 rfl (by kernel_rfl) rfl (fun w' hw' => len_any ([] : List UInt8) tH (List.replicate 64 0) HSt.start h10 67 w' (hw'.own _ (List.mem_of_getElem? (i := 0) rfl) h10 rfl))) (by decide) (fun _ _ => (.cons 1 rfl (.cons 2 rfl .nil))) (fun _ _ => ?_)
      refine ha_take 2 rfl (by kernel_rfl) (by kernel_rfl) (by kernel_rfl) (fun _ _ _ h => h) rfl rfl (ex_eql rfl rfl (rfl)) ?_
      refine ha_take 3 rfl (by kernel_rfl) (by kernel_rfl) (by kernel_rfl) (fun _ _ _ h => h) rfl rfl (ex_move rfl) ?_
      refine ha_want 4 rfl (by kernel_rfl) (by kernel_rfl) (by kernel_rfl) (fun _ _ _ h => h) rfl rfl rfl rfl rfl (ex_move rfl) ?_
      refine ha_want 5 rfl (by kernel_rfl) (by kernel_rfl) (by kernel_rfl) (fun _ _ _ h => h) rfl rfl rfl rfl rfl (ex_move rfl) ?_
      refine ha_do 6 rfl (by kernel_rfl) (want_of rfl rfl rfl rfl) rfl (exw_call Tryd.func21 rfl (by kernel_rfl) rfl (val := fun _ : List UInt32 × List UInt8 => .int .i64 0) (hs' := fun st => ⟨some h10, hblk st.1 st.2 (([] : List UInt8) ++ (allTo ps z.1)).length, 67, (0, 0)⟩ :: _) (pre := fun st => HSt (([] : List UInt8) ++ (allTo ps z.1)) st.1 st.2) (fun w' hw' => (write_any ([] : List UInt8) (allTo ps z.1) tH (List.replicate 64 0) _ rfl HSt.start h10 67 (rowp z.2.1.1) z.2.1.2.1 (fun h => by have := hok.empty' h; omega) (fun h => (hok.empty' h).2) hok.le (by rw [List.length_nil]; omega) w' (hw'.own _ List.mem_cons_self h10 rfl) (Sk.ownRow hw' 2 0 (by decide) rfl rfl rfl (fun h => hok.empty h)) (hK.old0 hw') (by omega)).mono fun e w2 ⟨S', R', h1, h2, h3⟩ => ⟨(S', R'), h1, h2, hw'.comp (A := [_]) (fun g hg => ⟨_, List.mem_cons_self, by rw [List.mem_singleton.1 hg]⟩) h3⟩)) (by decide) (fun x104 hx104 => (.cons 1 rfl (.cons 2 rfl .nil))) (fun x104 hx104 => ?_)
      refine ha_want 7 rfl (by kernel_rfl) (by kernel_rfl) (by kernel_rfl) (fun _ _ _ h => h) rfl rfl rfl rfl rfl (ex_eql rfl rfl rfl) ?_
      refine ha_take 8 rfl (by kernel_rfl) (by kernel_rfl) (by kernel_rfl) (fun _ _ _ h => h) rfl rfl (ex_pick_true rfl rfl) ?_
      refine ha_take 9 rfl (by kernel_rfl) (by kernel_rfl) (by kernel_rfl) (fun _ _ _ h => h) rfl rfl (ex_move rfl) ?_
      refine ha_want 10 rfl (by kernel_rfl) (by kernel_rfl) (by kernel_rfl) (fun _ _ _ h => h) rfl rfl rfl rfl rfl (ex_move rfl) ?_
      refine ha_want 12 rfl (by kernel_rfl) (by kernel_rfl) (by kernel_rfl) (fun _ _ _ h => h) rfl rfl rfl rfl rfl (ex_load_row rfl 0 rfl rfl Tryd.underlying25 rfl (by rw [size25, vbs_size, sha_length])) ?_
      refine ha_do 11 rfl (by kernel_rfl) (want_of rfl rfl rfl rfl) rfl (exw_call_pure Tryd.func23 rfl (by kernel_rfl) rfl (fun w' hw' => sum_any (([] : List UInt8) ++ (allTo ps z.1)) x104.1 x104.2 hx104 h10 67 (by rw [List.nil_append]; omega) w' (hw'.own _ (List.mem_of_getElem? (i := 0) rfl) h10 rfl) (hK.old0 hw'))) (by decide) (fun _ _ => (.cons 1 rfl (.cons 2 rfl .nil))) (fun _ _ => ?_)
      refine ha_want 13 rfl (by kernel_rfl) (by kernel_rfl) (by kernel_rfl) (fun _ _ _ h => h) rfl rfl rfl rfl rfl (ex_eql_arr (b := true) rfl rfl Tryd.underlying25 Tryd.underlying5 size5 (by kernel_rfl) (sha_length _ _ _) (sha_length _ _ _) (eql_true_of_eq rfl)) ?_
      refine ha_take 14 rfl (by kernel_rfl) (by kernel_rfl) (by kernel_rfl) (fun _ _ _ h => h) rfl rfl (ex_pick_true rfl rfl) ?_
      refine ha_take 15 rfl (by kernel_rfl) (by kernel_rfl) (by kernel_rfl) (fun _ _ _ h => h) rfl rfl (ex_move rfl) ?_
      refine ha_do 16 rfl (by kernel_rfl) (want_of rfl rfl rfl rfl) rfl (exw_call_pure Tryd.func13 rfl (by kernel_rfl) rfl (fun w' hw' => of_any [] 0 rfl none 0 (fun _ => rfl) (fun _ => rfl) (Nat.le_refl _) (by decide) w' (Sl.nil _ _) (hH.old0 hw') (hK.old0 hw'))) (by decide) (fun _ _ => (.cons 1 rfl (.cons 2 rfl .nil))) (fun _ _ => ?_)
      refine ha_do 17 rfl (by kernel_rfl) (want_of rfl rfl rfl rfl) rfl (exw_call_pure Tryd.func31 rfl (by kernel_rfl) rfl (fun w' hw' => hex32_any (sha tK tH []) (sha_length _ _ _) w')) (by decide) (fun _ _ => (.cons 1 rfl (.cons 2 rfl .nil))) (fun _ _ => ?_)
      refine ha_want 18 rfl (by kernel_rfl) (by kernel_rfl) (by kernel_rfl) (fun _ _ _ h => h) rfl rfl rfl rfl rfl (ex_str_hi (j := 4) rfl rfl Tryd.underlying9 (by rw [hexOf_length, sha_length]; decide)) ?_
      refine ha_want 19 rfl (by kernel_rfl) (by kernel_rfl) (by kernel_rfl) (fun _ _ _ h => h) rfl rfl rfl rfl rfl (ex_eql_str (b := true) rfl rfl sha_nil4) ?_
      refine ha_take 20 rfl (by kernel_rfl) (by kernel_rfl) (by kernel_rfl) (fun _ _ _ h => h) rfl rfl (ex_pick_true rfl rfl) ?_
      refine ha_take 21 rfl (by kernel_rfl) (by kernel_rfl) (by kernel_rfl) (fun _ _ _ h => h) rfl rfl (ex_assign rfl) ?_
      refine ha_done (by kernel_rfl) ?_
      refine hk_then_code ?_
      refine hl_ret ?_
      exact hk_ret rfl rfl (fun w' hw' => ⟨rfl, hw'.below⟩)
    · have geC : w.heap.size ≤ cg := hzc cg hcg
      refine hl_held _ (by kernel_rfl) (by decide) (.cons 0 rfl (.cons 1 rfl (.cons 2 rfl (.cons 3 rfl .nil)))) ?_
      refine ha_take 0 rfl (by kernel_rfl) (by kernel_rfl) (by kernel_rfl) (fun _ _ _ h => h) rfl rfl (ex_move rfl) ?_
      refine ha_take 2 rfl (by kernel_rfl) (by kernel_rfl) (by kernel_rfl) (fun _ _ _ h => h) rfl rfl (ex_load_row rfl 0 rfl rfl Tryd.underlying25 rfl (by rw [size25, vbs_size, sha_length])) ?_
      refine ha_do 1 rfl (by kernel_rfl) (fun a _ => wanted_none rfl a) rfl (exw_call_pure Tryd.func23 rfl (by kernel_rfl) rfl (fun w' hw' => sum_any (allTo ps z.1) z.2.2.1.1 z.2.2.1.2 hz1 h10 67 (by omega) w' (hw'.own _ (List.mem_of_getElem? (i := 2) rfl) h10 rfl) (hK.old0 hw'))) (by decide) (fun _ _ => (.cons 0 rfl (.cons 1 rfl (.cons 2 rfl (.cons 3 rfl .nil))))) (fun _ _ => ?_)
      refine ha_take 3 rfl (by kernel_rfl) (by kernel_rfl) (by kernel_rfl) (fun _ _ _ h => h) rfl rfl (ex_neq_arr (b := false) rfl rfl Tryd.underlying25 Tryd.underlying5 size5 (by kernel_rfl) (sha_length _ _ _) (sha_length _ _ _) (neq_false_of_eq rfl)) ?_
      refine ha_take 4 rfl (by kernel_rfl) (by kernel_rfl) (by kernel_rfl) (fun _ _ _ h => h) rfl rfl (ex_move rfl) ?_
      refine ha_want 5 rfl (by kernel_rfl) (by kernel_rfl) (by kernel_rfl) (fun _ _ _ h => h) rfl rfl rfl rfl rfl (ex_move rfl) ?_
      refine ha_want 7 rfl (by kernel_rfl) (by kernel_rfl) (by kernel_rfl) (fun _ _ _ h => h) rfl rfl rfl rfl rfl (ex_load_row rfl 0 rfl rfl Tryd.underlying25 rfl (by rw [size25, vbs_size, sha_length])) ?_
      refine ha_do 6 rfl (by kernel_rfl) (want_of rfl rfl rfl rfl) rfl (exw_call_pure Tryd.func23 rfl (by kernel_rfl) rfl (fun w' hw' => sum_any (allTo ps z.1) z.2.2.1.1 z.2.2.1.2 hz1 h10 67 (by omega) w' (hw'.own _ (List.mem_of_getElem? (i := 2) rfl) h10 rfl) (hK.old0 hw'))) (by decide) (fun _ _ => (.cons 0 rfl (.cons 1 rfl (.cons 2 rfl (.cons 3 rfl .nil))))) (fun _ _ => ?_)
      refine ha_want 8 rfl (by kernel_rfl) (by kernel_rfl) (by kernel_rfl) (fun _ _ _ h => h) rfl rfl rfl rfl rfl (ex_neq_arr (b := false) rfl rfl Tryd.underlying25 Tryd.underlying5 size5 (by kernel_rfl) (sha_length _ _ _) (sha_length _ _ _) (neq_false_of_eq rfl)) ?_
      refine ha_take 9 rfl (by kernel_rfl) (by kernel_rfl) (by kernel_rfl) (fun _ _ _ h => h) rfl rfl (ex_pick_false rfl rfl) ?_
      refine ha_take 10 rfl (by kernel_rfl) (by kernel_rfl) (by kernel_rfl) (fun _ _ _ h => h) rfl rfl (ex_move rfl) ?_
      refine ha_want 11 rfl (by kernel_rfl) (by kernel_rfl) (by kernel_rfl) (fun _ _ _ h => h) rfl rfl rfl rfl rfl (ex_move rfl) ?_
      refine ha_want 12 rfl (by kernel_rfl) (by kernel_rfl) (by kernel_rfl) (fun _ _ _ h => h) rfl rfl rfl rfl rfl (ex_neq_ptr rfl rfl Tryd.underlying34 rfl) ?_
      refine ha_want 13 rfl (by kernel_rfl) (by kernel_rfl) (by kernel_rfl) (fun _ _ _ h => h) rfl rfl rfl rfl rfl (ex_move rfl) ?_
      refine ha_want 14 rfl (by kernel_rfl) (by kernel_rfl) (by kernel_rfl) (fun _ _ _ h => h) rfl rfl rfl rfl rfl (ex_move rfl) ?_
      refine ha_want 16 rfl (by kernel_rfl) (by kernel_rfl) (by kernel_rfl) (fun _ _ _ h => h) rfl rfl rfl rfl rfl (ex_load_row rfl 0 rfl rfl Tryd.underlying25 rfl (by rw [size25, vbs_size, sha_length])) ?_
      refine ha_do 15 rfl (by kernel_rfl) (want_of rfl rfl rfl rfl) rfl (exw_call_pure Tryd.func23 rfl (by kernel_rfl) rfl (fun w' hw' => sum_any (allTo ps z.1) z.2.2.2.2.1 z.2.2.2.2.2 hz2 cg 67 (by omega) w' (hw'.own _ (List.mem_of_getElem? (i := 3) rfl) cg rfl) (hK.old0 hw'))) (by decide) (fun _ _ => (.cons 0 rfl (.cons 1 rfl (.cons 2 rfl (.cons 3 rfl .nil))))) (fun _ _ => ?_)
      refine ha_want 17 rfl (by kernel_rfl) (by kernel_rfl) (by kernel_rfl) (fun _ _ _ h => h) rfl rfl rfl rfl rfl (ex_neq_arr (b := false) rfl rfl Tryd.underlying25 Tryd.underlying5 size5 (by kernel_rfl) (sha_length _ _ _) (sha_length _ _ _) (neq_false_of_eq rfl)) ?_
      refine ha_want 18 rfl (by kernel_rfl) (by kernel_rfl) (by kernel_rfl) (fun _ _ _ h => h) rfl rfl rfl rfl rfl (ex_move rfl) ?_
      refine ha_want 19 rfl (by kernel_rfl) (by kernel_rfl) (by kernel_rfl) (fun _ _ _ h => h) rfl rfl rfl rfl rfl (ex_move rfl) ?_
      refine ha_want 21 rfl (by kernel_rfl) (by kernel_rfl) (by kernel_rfl) (fun _ _ _ h => h) rfl rfl rfl rfl rfl (ex_move rfl) ?_
      refine ha_want 22 rfl (by kernel_rfl) (by kernel_rfl) (by kernel_rfl) (fun _ _ _ h => h) rfl rfl rfl rfl rfl (ex_len_slice rfl Tryd.underlying22) ?_
      refine ha_do 20 rfl (by kernel_rfl) (want_of rfl rfl rfl rfl) rfl (exw_call_pure Tryd.func25 rfl (by kernel_rfl) rfl (fun w' hw' => len_any (allTo ps z.1) z.2.2.2.2.1 z.2.2.2.2.2 hz2 cg 67 w' (hw'.own _ (List.mem_of_getElem? (i := 3) rfl) cg rfl))) (by decide) (fun _ _ => (.cons 0 rfl (.cons 1 rfl (.cons 2 rfl (.cons 3 rfl .nil))))) (fun _ _ => ?_)
      refine ha_want 23 rfl (by kernel_rfl) (by kernel_rfl) (by kernel_rfl) (fun _ _ _ h => h) rfl rfl rfl rfl rfl (ex_neq rfl rfl (by rw [bne_eq_false_iff_eq])) ?_
      refine ha_want 24 rfl (by kernel_rfl) (by kernel_rfl) (by kernel_rfl) (fun _ _ _ h => h) rfl rfl rfl rfl rfl (ex_pick_false rfl rfl) ?_
      refine ha_want 25 rfl (by kernel_rfl) (by kernel_rfl) (by kernel_rfl) (fun _ _ _ h => h) rfl rfl rfl rfl rfl (ex_pick_true rfl rfl) ?_
      refine ha_take 26 rfl (by kernel_rfl) (by kernel_rfl) (by kernel_rfl) (fun _ _ _ h => h) rfl rfl (ex_pick_false rfl rfl) ?_
      refine ha_done (by kernel_rfl) ?_
      refine hk_then_code ?_
      refine hl_false rfl ?_
      refine hl_skip ?_
      refine hk_then_code ?_
      refine hl_seq ?_
      refine hl_region ?_
      refine ho_val rfl rfl (ex_move rfl) ?_
      refine ho_pick _ (by decide) (.cons 2 rfl (.cons 0 rfl (.cons 1 rfl (.cons 3 rfl .nil)))) ?_
      refine ho_do rfl rfl (exw_call Tryd.func29 rfl (by kernel_rfl) rfl (val := fun _ : Unit => .tuple #[]) (hs' := fun _ => ⟨some h10, hblk tH (List.replicate 64 0) 0, 67, (0, 0)⟩ :: _) (pre := fun _ => True) (fun w' hw' => (reset_any (allTo ps z.1) z.2.2.1.1 z.2.2.1.2 hz1 h10 w' (hw'.own _ List.mem_cons_self h10 rfl) (hH.old0 hw') (by omega)).mono fun e w2 ⟨h1, h2⟩ => ⟨(), trivial, h1, hw'.comp (A := [_]) (fun g hg => ⟨_, List.mem_cons_self, by rw [List.mem_singleton.1 hg]⟩) h2⟩)) (fun _ _ => ?_)
      refine ho_nil ?_
      refine hk_then_code ?_
      refine hl_seq ?_
      refine hl_held _ (by kernel_rfl) (by decide) (.cons 1 rfl (.cons 2 rfl .nil)) ?_
      refine ha_take 0 rfl (by kernel_rfl) (by kernel_rfl) (by kernel_rfl) (fun _ _ _ h => h) rfl rfl (ex_move rfl) ?_
      refine ha_do 1 rfl (by kernel_rfl) (fun a _ => wanted_none rfl a) rfl (exw_call_pure Tryd.func25 rfl (by kernel_rfl) rfl (fun w' hw' => len_any ([] : List UInt8) tH (List.replicate 64 0) HSt.start h10 67 w' (hw'.own _ (List.mem_of_getElem? (i := 0) rfl) h10 rfl))) (by decide) (fun _ _ => (.cons 1 rfl (.cons 2 rfl .nil))) (fun _ _ => ?_)
      refine ha_take 2 rfl (by kernel_rfl) (by kernel_rfl) (by kernel_rfl) (fun _ _ _ h => h) rfl rfl (ex_eql rfl rfl (rfl)) ?_
      refine ha_take 3 rfl (by kernel_rfl) (by kernel_rfl) (by kernel_rfl) (fun _ _ _ h => h) rfl rfl (ex_move rfl) ?_
      refine ha_want 4 rfl (by kernel_rfl) (by kernel_rfl) (by kernel_rfl) (fun _ _ _ h => h) rfl rfl rfl rfl rfl (ex_move rfl) ?_
      refine ha_want 5 rfl (by kernel_rfl) (by kernel_rfl) (by kernel_rfl) (fun _ _ _ h => h) rfl rfl rfl rfl rfl (ex_move rfl) ?_
      refine ha_do 6 rfl (by kernel_rfl) (want_of rfl rfl rfl rfl) rfl (exw_call Tryd.func21 rfl (by kernel_rfl) rfl (val := fun _ : List UInt32 × List UInt8 => .int .i64 0) (hs' := fun st => ⟨some h10, hblk st.1 st.2 (([] : List UInt8) ++ (allTo ps z.1)).length, 67, (0, 0)⟩ :: _) (pre := fun st => HSt (([] : List UInt8) ++ (allTo ps z.1)) st.1 st.2) (fun w' hw' => (write_any ([] : List UInt8) (allTo ps z.1) tH (List.replicate 64 0) _ rfl HSt.start h10 67 (rowp z.2.1.1) z.2.1.2.1 (fun h => by have := hok.empty' h; omega) (fun h => (hok.empty' h).2) hok.le (by rw [List.length_nil]; omega) w' (hw'.own _ List.mem_cons_self h10 rfl) (Sk.ownRow hw' 2 0 (by decide) rfl rfl rfl (fun h => hok.empty h)) (hK.old0 hw') (by omega)).mono fun e w2 ⟨S', R', h1, h2, h3⟩ => ⟨(S', R'), h1, h2, hw'.comp (A := [_]) (fun g hg => ⟨_, List.mem_cons_self, by rw [List.mem_singleton.1 hg]⟩) h3⟩)) (by decide) (fun x104 hx104 => (.cons 1 rfl (.cons 2 rfl .nil))) (fun x104 hx104 => ?_)
      refine ha_want 7 rfl (by kernel_rfl) (by kernel_rfl) (by kernel_rfl) (fun _ _ _ h => h) rfl rfl rfl rfl rfl (ex_eql rfl rfl rfl) ?_
      refine ha_take 8 rfl (by kernel_rfl) (by kernel_rfl) (by kernel_rfl) (fun _ _ _ h => h) rfl rfl (ex_pick_true rfl rfl) ?_
      refine ha_take 9 rfl (by kernel_rfl) (by kernel_rfl) (by kernel_rfl) (fun _ _ _ h => h) rfl rfl (ex_move rfl) ?_
      refine ha_want 10 rfl (by kernel_rfl) (by kernel_rfl) (by kernel_rfl) (fun _ _ _ h => h) rfl rfl rfl rfl rfl (ex_move rfl) ?_
      refine ha_want 12 rfl (by kernel_rfl) (by kernel_rfl) (by kernel_rfl) (fun _ _ _ h => h) rfl rfl rfl rfl rfl (ex_load_row rfl 0 rfl rfl Tryd.underlying25 rfl (by rw [size25, vbs_size, sha_length])) ?_
      refine ha_do 11 rfl (by kernel_rfl) (want_of rfl rfl rfl rfl) rfl (exw_call_pure Tryd.func23 rfl (by kernel_rfl) rfl (fun w' hw' => sum_any (([] : List UInt8) ++ (allTo ps z.1)) x104.1 x104.2 hx104 h10 67 (by rw [List.nil_append]; omega) w' (hw'.own _ (List.mem_of_getElem? (i := 0) rfl) h10 rfl) (hK.old0 hw'))) (by decide) (fun _ _ => (.cons 1 rfl (.cons 2 rfl .nil))) (fun _ _ => ?_)
      refine ha_want 13 rfl (by kernel_rfl) (by kernel_rfl) (by kernel_rfl) (fun _ _ _ h => h) rfl rfl rfl rfl rfl (ex_eql_arr (b := true) rfl rfl Tryd.underlying25 Tryd.underlying5 size5 (by kernel_rfl) (sha_length _ _ _) (sha_length _ _ _) (eql_true_of_eq rfl)) ?_
      refine ha_take 14 rfl (by kernel_rfl) (by kernel_rfl) (by kernel_rfl) (fun _ _ _ h => h) rfl rfl (ex_pick_true rfl rfl) ?_
      refine ha_take 15 rfl (by kernel_rfl) (by kernel_rfl) (by kernel_rfl) (fun _ _ _ h => h) rfl rfl (ex_move rfl) ?_
      refine ha_do 16 rfl (by kernel_rfl) (want_of rfl rfl rfl rfl) rfl (exw_call_pure Tryd.func13 rfl (by kernel_rfl) rfl (fun w' hw' => of_any [] 0 rfl none 0 (fun _ => rfl) (fun _ => rfl) (Nat.le_refl _) (by decide) w' (Sl.nil _ _) (hH.old0 hw') (hK.old0 hw'))) (by decide) (fun _ _ => (.cons 1 rfl (.cons 2 rfl .nil))) (fun _ _ => ?_)
      refine ha_do 17 rfl (by kernel_rfl) (want_of rfl rfl rfl rfl) rfl (exw_call_pure Tryd.func31 rfl (by kernel_rfl) rfl (fun w' hw' => hex32_any (sha tK tH []) (sha_length _ _ _) w')) (by decide) (fun _ _ => (.cons 1 rfl (.cons 2 rfl .nil))) (fun _ _ => ?_)
      refine ha_want 18 rfl (by kernel_rfl) (by kernel_rfl) (by kernel_rfl) (fun _ _ _ h => h) rfl rfl rfl rfl rfl (ex_str_hi (j := 4) rfl rfl Tryd.underlying9 (by rw [hexOf_length, sha_length]; decide)) ?_
      refine ha_want 19 rfl (by kernel_rfl) (by kernel_rfl) (by kernel_rfl) (fun _ _ _ h => h) rfl rfl rfl rfl rfl (ex_eql_str (b := true) rfl rfl sha_nil4) ?_
      refine ha_take 20 rfl (by kernel_rfl) (by kernel_rfl) (by kernel_rfl) (fun _ _ _ h => h) rfl rfl (ex_pick_true rfl rfl) ?_
      refine ha_take 21 rfl (by kernel_rfl) (by kernel_rfl) (by kernel_rfl) (fun _ _ _ h => h) rfl rfl (ex_assign rfl) ?_
      refine ha_done (by kernel_rfl) ?_
      refine hk_then_code ?_
      refine hl_ret ?_
      exact hk_ret rfl rfl (fun w' hw' => ⟨rfl, hw'.below⟩)

end Go.Proofs.YtdmagjelmhcemaaDoor
