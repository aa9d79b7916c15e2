/- The law DigestCanon, walked. -/
import Derived.Test.YtdmagjelmhcemaaRows
import Derived.Test.YtdmagjelmhcemaaFacts
import Derived.Test.YtdmagjelmhcemaaB
import Derived.Test.YtdmagjelmhcemaaRead
import Derived.Test.YtdmagjelmhcemaaRange
import Derived.Test.YtdmagjelmhcemaaUnHex
import Derived.Test.YtdmagjelmhcemaaUnBase32
import Derived.Test.YtdmagjelmhcemaaUnBase64
import Derived.KernelRfl
import Derived.Test.YtdmagjelmhcemaaReadSum
import Derived.Test.YtdmagjelmhcemaaTexts4
namespace Go.Proofs.Ytdmagjelmhcemaa
open Go.RowKit
set_option linter.unusedVariables false
set_option linter.unusedSimpArgs false

set_option maxHeartbeats 1600000 in
set_option maxRecDepth 8000 in
theorem canon_law (L : List UInt8) (hl : L.length ≤ 1048576) (y : List UInt8) (hy : y.length = 32) (form : Int) (w : World) :
    Calls Try.prog 7 #[Value.string (bs L), Value.agg (vbs y), Value.int .i64 form] w fun e w' => e = .returned (.bool true) ∧ Below w.heap.size w w' := by
  obtain ⟨f, hf4, hand⟩ := and3 form
  refine calls_enter (n := 108) (hs := []) (M := []) (vs := [Value.string (bs L), Value.agg (vbs y), Value.int .i64 form]) Try.func7 rfl rfl rfl (Hp.start w) ?_
  refine hl_seq ?_
  refine hl_region ?_
  refine ho_do rfl rfl (exw_box_agg rfl) (fun b4 hb4 => ?_)
  refine ho_val rfl rfl (ex_assign rfl) ?_
  refine ho_nil ?_
  refine hk_then_code ?_
  refine hl_seq ?_
  refine hl_region ?_
  refine ho_val rfl rfl (ex_move rfl) ?_
  refine ho_val rfl rfl (ex_and3 hand rfl rfl) ?_
  refine ho_val rfl rfl (ex_assign rfl) ?_
  refine ho_nil ?_
  refine hk_then_code ?_
  refine hl_seq ?_
  rcases (show f < 3 ∨ f = 3 by omega) with hf3 | rfl
  · refine hl_region ?_
    refine ho_val rfl rfl (ex_load_row rfl 0 rfl rfl Try.underlying23 rfl (by rw [size23, vbs_size, hy])) ?_
    refine ho_val rfl rfl (ex_move rfl) ?_
    refine ho_do rfl rfl (exw_call_pure Try.func16 rfl (by kernel_rfl) rfl (fun w' hw' => show_any y hy f w')) (fun _ _ => ?_)
    refine ho_do rfl rfl (exw_call_pure (v := .tuple #[.agg (vbs y), .int .i64 (f : Int), .int .i64 0, .int .i64 0]) Try.func26 rfl (by kernel_rfl) rfl (fun w' hw' => by have h := read_any (showOf y f) (showOf_le hy _) w'; rw [rd_show hy hf3] at h; exact h)) (fun _ _ => ?_)
    refine ho_val rfl rfl (ex_move rfl) ?_
    refine ho_val rfl rfl (ex_extract rfl rfl) ?_
    refine ho_val rfl rfl (ex_extract rfl rfl) ?_
    refine ho_val rfl rfl (ex_extract rfl rfl) ?_
    refine ho_val rfl rfl (ex_extract rfl rfl) ?_
    refine ho_do rfl rfl (exw_alloc_cs (z := .agg (vbs (List.replicate 32 0))) (vbs (List.replicate 32 0)) (by kernel_rfl) rfl) (fun b7 hb7 => ?_)
    refine ho_do rfl rfl (exw_store_row0 rfl rfl (by rw [show _ = _ from size23]; simp [vbs_size, vws_size, *]) (by simp [vbs_size, vws_size, *]) (vbs_one _)) (fun _ _ => ?_)
    refine ho_val rfl rfl (ex_assign rfl) ?_
    refine ho_val rfl rfl (ex_assign rfl) ?_
    refine ho_val rfl rfl (ex_assign rfl) ?_
    refine ho_nil ?_
    refine hk_then_code ?_
    refine hl_seq ?_
    refine hl_seq ?_
    refine hl_region ?_
    refine ho_val rfl rfl (ex_move rfl) ?_
    refine ho_val rfl rfl (ex_lss (b := true) rfl rfl (decide_eq_true (by omega))) ?_
    refine ho_val rfl rfl (ex_move rfl) ?_
    refine ho_want rfl rfl rfl rfl rfl (ex_move rfl) ?_
    refine ho_want rfl rfl rfl rfl rfl (ex_neq rfl rfl rfl) ?_
    refine ho_want rfl rfl rfl rfl rfl (ex_move rfl) ?_
    refine ho_want rfl rfl rfl rfl rfl (ex_load_row rfl 0 rfl rfl Try.underlying23 rfl (by rw [show _ = _ from size23]; simp [vbs_size, vws_size, *])) ?_
    refine ho_want rfl rfl rfl rfl rfl (ex_load_row rfl 1 rfl rfl Try.underlying23 rfl (by rw [size23, vbs_size, hy])) ?_
    refine ho_want rfl rfl rfl rfl rfl (ex_neq_arr (b := false) rfl rfl Try.underlying23 Try.underlying5 size5 (by kernel_rfl) (hy) (hy) (neq_false_of_eq rfl)) ?_
    refine ho_want rfl rfl rfl rfl rfl (ex_pick_false rfl rfl) ?_
    refine ho_want rfl rfl rfl rfl rfl (ex_move rfl) ?_
    refine ho_want rfl rfl rfl rfl rfl (ex_move rfl) ?_
    refine ho_want rfl rfl rfl rfl rfl (ex_move rfl) ?_
    refine ho_want rfl rfl rfl rfl rfl (ex_neq (b := false) rfl rfl (bne_self_eq_false _)) ?_
    refine ho_want rfl rfl rfl rfl rfl (ex_pick_false rfl rfl) ?_
    refine ho_val rfl rfl (ex_pick_true rfl rfl) ?_
    refine ho_val rfl rfl (ex_move rfl) ?_
    refine ho_want rfl rfl rfl rfl rfl (ex_move rfl) ?_
    refine ho_want rfl rfl rfl rfl rfl (ex_eql (b := false) rfl rfl (beq_false_of_ne (by omega))) ?_
    refine ho_want rfl rfl rfl rfl rfl (ex_move rfl) ?_
    refine ho_skip rfl rfl rfl rfl rfl rfl ?_
    refine ho_skip rfl rfl rfl rfl rfl rfl ?_
    refine ho_skip rfl rfl rfl rfl rfl rfl ?_
    refine ho_skip rfl rfl rfl rfl rfl rfl ?_
    refine ho_want rfl rfl rfl rfl rfl (ex_pick_false rfl rfl) ?_
    refine ho_val rfl rfl (ex_pick_false rfl rfl) ?_
    refine ho_nil ?_
    refine hk_then_code ?_
    refine hl_false rfl ?_
    refine hl_skip ?_
    refine hk_then_code ?_
    refine hl_seq ?_
    rcases hu1 : un16 L with b1 | ⟨e1, p1⟩
    · refine hl_region ?_
      refine ho_val rfl rfl (ex_move rfl) ?_
      refine ho_do rfl rfl (exw_call Try.func20 rfl (by kernel_rfl) rfl (val := fun q : Nat × Nat × List Value => .tuple #[slv (some ⟨q.1, 0, none⟩) b1.length q.2.1, .int .i64 0, .int .i64 0]) (hs' := fun q => ⟨some q.1, vrow b1 q.2.2, 5, (0, 0)⟩ :: _) (pre := fun q => RowOk 1 (some q.1) b1.length q.2.1 (b1.map vb) q.2.2) (fun w' hw' => (unhex_any L (by omega) w').mono fun e w2 h => by rw [hu1] at h; obtain ⟨g, c, r, h1, h2, h3⟩ := h; exact ⟨(g, c, r), h1, h2, hw'.comp (A := []) (by simp) h3⟩)) (fun y1 hk1 => ?_)
      refine ho_val rfl rfl (ex_move rfl) ?_
      refine ho_val rfl rfl (ex_extract rfl rfl) ?_
      refine ho_val rfl rfl (ex_extract rfl rfl) ?_
      refine ho_val rfl rfl (ex_extract rfl rfl) ?_
      refine ho_val rfl rfl (ex_assign rfl) ?_
      refine ho_val rfl rfl (ex_assign rfl) ?_
      refine ho_val rfl rfl (ex_assign rfl) ?_
      refine ho_nil ?_
      refine hk_then_code ?_
      refine hl_seq ?_
      refine hl_seq ?_
      skip
      refine hl_region ?_
      refine ho_val rfl rfl (ex_move rfl) ?_
      refine ho_val rfl rfl (ex_eql rfl rfl rfl) ?_
      refine ho_val rfl rfl (ex_move rfl) ?_
      refine ho_want rfl rfl rfl rfl rfl (ex_move rfl) ?_
      refine ho_do_want rfl rfl rfl rfl rfl (exw_call_pure Try.func10 rfl (by kernel_rfl) rfl (fun w' hw' => hex_any b1 b1.length rfl (some ⟨y1.1, 0, none⟩) y1.2.1 (fun h => nomatch h) (by have := un16_le hu1; omega) w' (Sl.own hw' 0 rfl rfl (vrow_own _ _)))) (fun _ _ => ?_)
      refine ho_want rfl rfl rfl rfl rfl (ex_move rfl) ?_
      refine ho_want rfl rfl rfl rfl rfl (ex_neq_str (b := false) rfl rfl (neq_false_of_eq (hex_canon hu1))) ?_
      refine ho_val rfl rfl (ex_pick_true rfl rfl) ?_
      refine ho_nil ?_
      refine hk_then_code ?_
      refine hl_false rfl ?_
      refine hl_skip ?_
      refine hk_then_code ?_
      refine hl_seq ?_
      rcases hu2 : un32 L with b2 | ⟨e2, p2⟩
      · refine hl_region ?_
        refine ho_val rfl rfl (ex_move rfl) ?_
        refine ho_do rfl rfl (exw_call Try.func21 rfl (by kernel_rfl) rfl (val := fun q : Nat × Nat × List Value => .tuple #[slv (some ⟨q.1, 0, none⟩) b2.length q.2.1, .int .i64 0, .int .i64 0]) (hs' := fun q => ⟨some q.1, vrow b2 q.2.2, 5, (0, 0)⟩ :: _) (pre := fun q => RowOk 1 (some q.1) b2.length q.2.1 (b2.map vb) q.2.2) (fun w' hw' => (unbase32_any L (by omega) w').mono fun e w2 h => by rw [hu2] at h; obtain ⟨g, c, r, h1, h2, h3⟩ := h; exact ⟨(g, c, r), h1, h2, hw'.comp (A := []) (by simp) h3⟩)) (fun y2 hk2 => ?_)
        refine ho_val rfl rfl (ex_move rfl) ?_
        refine ho_val rfl rfl (ex_extract rfl rfl) ?_
        refine ho_val rfl rfl (ex_extract rfl rfl) ?_
        refine ho_val rfl rfl (ex_extract rfl rfl) ?_
        refine ho_val rfl rfl (ex_assign rfl) ?_
        refine ho_val rfl rfl (ex_assign rfl) ?_
        refine ho_nil ?_
        refine hk_then_code ?_
        refine hl_seq ?_
        refine hl_seq ?_
        skip
        refine hl_region ?_
        refine ho_val rfl rfl (ex_move rfl) ?_
        refine ho_val rfl rfl (ex_eql rfl rfl rfl) ?_
        refine ho_val rfl rfl (ex_move rfl) ?_
        refine ho_want rfl rfl rfl rfl rfl (ex_move rfl) ?_
        refine ho_do_want rfl rfl rfl rfl rfl (exw_call_pure Try.func12 rfl (by kernel_rfl) rfl (fun w' hw' => base32_any b2 b2.length rfl (some ⟨y2.1, 0, none⟩) y2.2.1 (fun h => nomatch h) (by have := un32_le hu2; omega) w' (Sl.own hw' 0 rfl rfl (vrow_own _ _)))) (fun _ _ => ?_)
        refine ho_want rfl rfl rfl rfl rfl (ex_move rfl) ?_
        refine ho_want rfl rfl rfl rfl rfl (ex_neq_str (b := false) rfl rfl (neq_false_of_eq (b32_canon hu2))) ?_
        refine ho_val rfl rfl (ex_pick_true rfl rfl) ?_
        refine ho_nil ?_
        refine hk_then_code ?_
        refine hl_false rfl ?_
        refine hl_skip ?_
        refine hk_then_code ?_
        refine hl_seq ?_
        rcases hu3 : un64 L with b3 | ⟨e3, p3⟩
        · refine hl_region ?_
          refine ho_val rfl rfl (ex_move rfl) ?_
          refine ho_do rfl rfl (exw_call Try.func22 rfl (by kernel_rfl) rfl (val := fun q : Nat × Nat × List Value => .tuple #[slv (some ⟨q.1, 0, none⟩) b3.length q.2.1, .int .i64 0, .int .i64 0]) (hs' := fun q => ⟨some q.1, vrow b3 q.2.2, 5, (0, 0)⟩ :: _) (pre := fun q => RowOk 1 (some q.1) b3.length q.2.1 (b3.map vb) q.2.2) (fun w' hw' => (unbase64_any L (by omega) w').mono fun e w2 h => by rw [hu3] at h; obtain ⟨g, c, r, h1, h2, h3⟩ := h; exact ⟨(g, c, r), h1, h2, hw'.comp (A := []) (by simp) h3⟩)) (fun y3 hk3 => ?_)
          refine ho_val rfl rfl (ex_move rfl) ?_
          refine ho_val rfl rfl (ex_extract rfl rfl) ?_
          refine ho_val rfl rfl (ex_extract rfl rfl) ?_
          refine ho_val rfl rfl (ex_extract rfl rfl) ?_
          refine ho_val rfl rfl (ex_assign rfl) ?_
          refine ho_val rfl rfl (ex_assign rfl) ?_
          refine ho_nil ?_
          refine hk_then_code ?_
          refine hl_seq ?_
          refine hl_seq ?_
          skip
          refine hl_region ?_
          refine ho_val rfl rfl (ex_move rfl) ?_
          refine ho_val rfl rfl (ex_eql rfl rfl rfl) ?_
          refine ho_val rfl rfl (ex_move rfl) ?_
          refine ho_want rfl rfl rfl rfl rfl (ex_move rfl) ?_
          refine ho_do_want rfl rfl rfl rfl rfl (exw_call_pure Try.func14 rfl (by kernel_rfl) rfl (fun w' hw' => base64_any b3 b3.length rfl (some ⟨y3.1, 0, none⟩) y3.2.1 (fun h => nomatch h) (fun h => nomatch h) hk3.le (by have := un64_le hu3; omega) w' (Sl.own hw' 0 rfl rfl (vrow_own _ _)))) (fun _ _ => ?_)
          refine ho_want rfl rfl rfl rfl rfl (ex_move rfl) ?_
          refine ho_want rfl rfl rfl rfl rfl (ex_neq_str (b := false) rfl rfl (neq_false_of_eq (b64_canon hu3))) ?_
          refine ho_val rfl rfl (ex_pick_true rfl rfl) ?_
          refine ho_nil ?_
          refine hk_then_code ?_
          refine hl_false rfl ?_
          refine hl_skip ?_
          refine hk_then_code ?_
          refine hl_seq ?_
          rcases hr : rdOf L with ⟨l, fm⟩ | ⟨e, p⟩
          · have hl32 := (rd_canon hr).1
            refine hl_region ?_
            refine ho_val rfl rfl (ex_move rfl) ?_
            refine ho_do rfl rfl (exw_call_pure (v := .tuple #[.agg (vbs l), .int .i64 (fm : Int), .int .i64 0, .int .i64 0]) Try.func26 rfl (by kernel_rfl) rfl (fun w' hw' => by have h := read_any L (by omega) w'; rw [hr] at h; exact h)) (fun _ _ => ?_)
            refine ho_val rfl rfl (ex_move rfl) ?_
            refine ho_val rfl rfl (ex_extract rfl rfl) ?_
            refine ho_val rfl rfl (ex_extract rfl rfl) ?_
            refine ho_val rfl rfl (ex_extract rfl rfl) ?_
            refine ho_val rfl rfl (ex_extract rfl rfl) ?_
            refine ho_do rfl rfl (exw_store_row3 rfl rfl (by rw [size23]; simp [vbs_size, hl32]) (by simp [vbs_size, hy, hl32]) (vbs_one _)) (fun _ _ => ?_)
            refine ho_val rfl rfl (ex_assign rfl) ?_
            refine ho_val rfl rfl (ex_assign rfl) ?_
            refine ho_nil ?_
            refine hk_then_code ?_
            refine hl_seq ?_
            refine hl_region ?_
            refine ho_val rfl rfl (ex_move rfl) ?_
            refine ho_val rfl rfl (ex_neq rfl rfl rfl) ?_
            refine ho_val rfl rfl (ex_move rfl) ?_
            refine ho_want rfl rfl rfl rfl rfl (ex_load_row rfl 3 rfl rfl Try.underlying23 rfl (by rw [show _ = _ from size23]; simp [vbs_size, vws_size, *])) ?_
            refine ho_want rfl rfl rfl rfl rfl (ex_move rfl) ?_
            refine ho_do_want rfl rfl rfl rfl rfl (exw_call_pure Try.func16 rfl (by kernel_rfl) rfl (fun w' hw' => show_any l hl32 fm w')) (fun _ _ => ?_)
            refine ho_want rfl rfl rfl rfl rfl (ex_move rfl) ?_
            refine ho_want rfl rfl rfl rfl rfl (ex_eql_str (b := true) rfl rfl (eql_true_of_eq (rd_canon hr).2)) ?_
            refine ho_val rfl rfl (ex_pick_false rfl rfl) ?_
            refine ho_val rfl rfl (ex_assign rfl) ?_
            refine ho_nil ?_
            refine hk_then_code ?_
            refine hl_ret ?_
            exact hk_ret rfl rfl (fun w' hw' => ⟨rfl, hw'.below⟩)
          · skip
            refine hl_region ?_
            refine ho_val rfl rfl (ex_move rfl) ?_
            refine ho_do rfl rfl (exw_call_pure (v := .tuple #[.agg (vbs (List.replicate 32 0)), .int .i64 0, .int .i64 (e : Int), .int .i64 (p : Int)]) Try.func26 rfl (by kernel_rfl) rfl (fun w' hw' => by have h := read_any L (by omega) w'; rw [hr] at h; exact h)) (fun _ _ => ?_)
            refine ho_val rfl rfl (ex_move rfl) ?_
            refine ho_val rfl rfl (ex_extract rfl rfl) ?_
            refine ho_val rfl rfl (ex_extract rfl rfl) ?_
            refine ho_val rfl rfl (ex_extract rfl rfl) ?_
            refine ho_val rfl rfl (ex_extract rfl rfl) ?_
            refine ho_do rfl rfl (exw_store_row3 rfl rfl (by rw [size23]; simp [vbs_size, hy]) (by simp [vbs_size, hy]) (vbs_one _)) (fun _ _ => ?_)
            refine ho_val rfl rfl (ex_assign rfl) ?_
            refine ho_val rfl rfl (ex_assign rfl) ?_
            refine ho_nil ?_
            refine hk_then_code ?_
            refine hl_seq ?_
            refine hl_region ?_
            refine ho_val rfl rfl (ex_move rfl) ?_
            refine ho_val rfl rfl (ex_neq (b := true) rfl rfl (bne_iff_ne.2 (by have := rd_err hr; omega))) ?_
            refine ho_val rfl rfl (ex_move rfl) ?_
            refine ho_skip rfl rfl rfl rfl rfl rfl ?_
            refine ho_skip rfl rfl rfl rfl rfl rfl ?_
            refine ho_skip rfl rfl rfl rfl rfl rfl ?_
            refine ho_skip rfl rfl rfl rfl rfl rfl ?_
            refine ho_skip rfl rfl rfl rfl rfl rfl ?_
            refine ho_val rfl rfl (ex_pick_true rfl rfl) ?_
            refine ho_val rfl rfl (ex_assign rfl) ?_
            refine ho_nil ?_
            refine hk_then_code ?_
            refine hl_ret ?_
            exact hk_ret rfl rfl (fun w' hw' => ⟨rfl, hw'.below⟩)
        · refine hl_region ?_
          refine ho_val rfl rfl (ex_move rfl) ?_
          refine ho_do rfl rfl (exw_call_pure (v := .tuple #[.slice none 0 0, .int .i64 (e3 : Int), .int .i64 (p3 : Int)]) Try.func22 rfl (by kernel_rfl) rfl (fun w' hw' => by have h := unbase64_any L (by omega) w'; rw [hu3] at h; exact h)) (fun _ _ => ?_)
          refine ho_val rfl rfl (ex_move rfl) ?_
          refine ho_val rfl rfl (ex_extract rfl rfl) ?_
          refine ho_val rfl rfl (ex_extract rfl rfl) ?_
          refine ho_val rfl rfl (ex_extract rfl rfl) ?_
          refine ho_val rfl rfl (ex_assign rfl) ?_
          refine ho_val rfl rfl (ex_assign rfl) ?_
          refine ho_nil ?_
          refine hk_then_code ?_
          refine hl_seq ?_
          refine hl_seq ?_
          skip
          refine hl_region ?_
          refine ho_val rfl rfl (ex_move rfl) ?_
          refine ho_val rfl rfl (ex_eql (b := false) rfl rfl (beq_false_of_ne (by have := (un64_err hu3).1; omega))) ?_
          refine ho_val rfl rfl (ex_move rfl) ?_
          refine ho_skip rfl rfl rfl rfl rfl rfl ?_
          refine ho_skip rfl rfl rfl rfl rfl rfl ?_
          refine ho_skip rfl rfl rfl rfl rfl rfl ?_
          refine ho_skip rfl rfl rfl rfl rfl rfl ?_
          refine ho_val rfl rfl (ex_pick_false rfl rfl) ?_
          refine ho_nil ?_
          refine hk_then_code ?_
          refine hl_false rfl ?_
          refine hl_skip ?_
          refine hk_then_code ?_
          refine hl_seq ?_
          rcases hr : rdOf L with ⟨l, fm⟩ | ⟨e, p⟩
          · have hl32 := (rd_canon hr).1
            refine hl_region ?_
            refine ho_val rfl rfl (ex_move rfl) ?_
            refine ho_do rfl rfl (exw_call_pure (v := .tuple #[.agg (vbs l), .int .i64 (fm : Int), .int .i64 0, .int .i64 0]) Try.func26 rfl (by kernel_rfl) rfl (fun w' hw' => by have h := read_any L (by omega) w'; rw [hr] at h; exact h)) (fun _ _ => ?_)
            refine ho_val rfl rfl (ex_move rfl) ?_
            refine ho_val rfl rfl (ex_extract rfl rfl) ?_
            refine ho_val rfl rfl (ex_extract rfl rfl) ?_
            refine ho_val rfl rfl (ex_extract rfl rfl) ?_
            refine ho_val rfl rfl (ex_extract rfl rfl) ?_
            refine ho_do rfl rfl (exw_store_row2 rfl rfl (by rw [size23]; simp [vbs_size, hl32]) (by simp [vbs_size, hy, hl32]) (vbs_one _)) (fun _ _ => ?_)
            refine ho_val rfl rfl (ex_assign rfl) ?_
            refine ho_val rfl rfl (ex_assign rfl) ?_
            refine ho_nil ?_
            refine hk_then_code ?_
            refine hl_seq ?_
            refine hl_region ?_
            refine ho_val rfl rfl (ex_move rfl) ?_
            refine ho_val rfl rfl (ex_neq rfl rfl rfl) ?_
            refine ho_val rfl rfl (ex_move rfl) ?_
            refine ho_want rfl rfl rfl rfl rfl (ex_load_row rfl 2 rfl rfl Try.underlying23 rfl (by rw [show _ = _ from size23]; simp [vbs_size, vws_size, *])) ?_
            refine ho_want rfl rfl rfl rfl rfl (ex_move rfl) ?_
            refine ho_do_want rfl rfl rfl rfl rfl (exw_call_pure Try.func16 rfl (by kernel_rfl) rfl (fun w' hw' => show_any l hl32 fm w')) (fun _ _ => ?_)
            refine ho_want rfl rfl rfl rfl rfl (ex_move rfl) ?_
            refine ho_want rfl rfl rfl rfl rfl (ex_eql_str (b := true) rfl rfl (eql_true_of_eq (rd_canon hr).2)) ?_
            refine ho_val rfl rfl (ex_pick_false rfl rfl) ?_
            refine ho_val rfl rfl (ex_assign rfl) ?_
            refine ho_nil ?_
            refine hk_then_code ?_
            refine hl_ret ?_
            exact hk_ret rfl rfl (fun w' hw' => ⟨rfl, hw'.below⟩)
          · skip
            refine hl_region ?_
            refine ho_val rfl rfl (ex_move rfl) ?_
            refine ho_do rfl rfl (exw_call_pure (v := .tuple #[.agg (vbs (List.replicate 32 0)), .int .i64 0, .int .i64 (e : Int), .int .i64 (p : Int)]) Try.func26 rfl (by kernel_rfl) rfl (fun w' hw' => by have h := read_any L (by omega) w'; rw [hr] at h; exact h)) (fun _ _ => ?_)
            refine ho_val rfl rfl (ex_move rfl) ?_
            refine ho_val rfl rfl (ex_extract rfl rfl) ?_
            refine ho_val rfl rfl (ex_extract rfl rfl) ?_
            refine ho_val rfl rfl (ex_extract rfl rfl) ?_
            refine ho_val rfl rfl (ex_extract rfl rfl) ?_
            refine ho_do rfl rfl (exw_store_row2 rfl rfl (by rw [size23]; simp [vbs_size, hy]) (by simp [vbs_size, hy]) (vbs_one _)) (fun _ _ => ?_)
            refine ho_val rfl rfl (ex_assign rfl) ?_
            refine ho_val rfl rfl (ex_assign rfl) ?_
            refine ho_nil ?_
            refine hk_then_code ?_
            refine hl_seq ?_
            refine hl_region ?_
            refine ho_val rfl rfl (ex_move rfl) ?_
            refine ho_val rfl rfl (ex_neq (b := true) rfl rfl (bne_iff_ne.2 (by have := rd_err hr; omega))) ?_
            refine ho_val rfl rfl (ex_move rfl) ?_
            refine ho_skip rfl rfl rfl rfl rfl rfl ?_
            refine ho_skip rfl rfl rfl rfl rfl rfl ?_
            refine ho_skip rfl rfl rfl rfl rfl rfl ?_
            refine ho_skip rfl rfl rfl rfl rfl rfl ?_
            refine ho_skip rfl rfl rfl rfl rfl rfl ?_
            refine ho_val rfl rfl (ex_pick_true rfl rfl) ?_
            refine ho_val rfl rfl (ex_assign rfl) ?_
            refine ho_nil ?_
            refine hk_then_code ?_
            refine hl_ret ?_
            exact hk_ret rfl rfl (fun w' hw' => ⟨rfl, hw'.below⟩)
      · refine hl_region ?_
        refine ho_val rfl rfl (ex_move rfl) ?_
        refine ho_do rfl rfl (exw_call_pure (v := .tuple #[.slice none 0 0, .int .i64 (e2 : Int), .int .i64 (p2 : Int)]) Try.func21 rfl (by kernel_rfl) rfl (fun w' hw' => by have h := unbase32_any L (by omega) w'; rw [hu2] at h; exact h)) (fun _ _ => ?_)
        refine ho_val rfl rfl (ex_move rfl) ?_
        refine ho_val rfl rfl (ex_extract rfl rfl) ?_
        refine ho_val rfl rfl (ex_extract rfl rfl) ?_
        refine ho_val rfl rfl (ex_extract rfl rfl) ?_
        refine ho_val rfl rfl (ex_assign rfl) ?_
        refine ho_val rfl rfl (ex_assign rfl) ?_
        refine ho_nil ?_
        refine hk_then_code ?_
        refine hl_seq ?_
        refine hl_seq ?_
        skip
        refine hl_region ?_
        refine ho_val rfl rfl (ex_move rfl) ?_
        refine ho_val rfl rfl (ex_eql (b := false) rfl rfl (beq_false_of_ne (by have := (un32_err hu2).1; omega))) ?_
        refine ho_val rfl rfl (ex_move rfl) ?_
        refine ho_skip rfl rfl rfl rfl rfl rfl ?_
        refine ho_skip rfl rfl rfl rfl rfl rfl ?_
        refine ho_skip rfl rfl rfl rfl rfl rfl ?_
        refine ho_skip rfl rfl rfl rfl rfl rfl ?_
        refine ho_val rfl rfl (ex_pick_false rfl rfl) ?_
        refine ho_nil ?_
        refine hk_then_code ?_
        refine hl_false rfl ?_
        refine hl_skip ?_
        refine hk_then_code ?_
        refine hl_seq ?_
        rcases hu3 : un64 L with b3 | ⟨e3, p3⟩
        · refine hl_region ?_
          refine ho_val rfl rfl (ex_move rfl) ?_
          refine ho_do rfl rfl (exw_call Try.func22 rfl (by kernel_rfl) rfl (val := fun q : Nat × Nat × List Value => .tuple #[slv (some ⟨q.1, 0, none⟩) b3.length q.2.1, .int .i64 0, .int .i64 0]) (hs' := fun q => ⟨some q.1, vrow b3 q.2.2, 5, (0, 0)⟩ :: _) (pre := fun q => RowOk 1 (some q.1) b3.length q.2.1 (b3.map vb) q.2.2) (fun w' hw' => (unbase64_any L (by omega) w').mono fun e w2 h => by rw [hu3] at h; obtain ⟨g, c, r, h1, h2, h3⟩ := h; exact ⟨(g, c, r), h1, h2, hw'.comp (A := []) (by simp) h3⟩)) (fun y3 hk3 => ?_)
          refine ho_val rfl rfl (ex_move rfl) ?_
          refine ho_val rfl rfl (ex_extract rfl rfl) ?_
          refine ho_val rfl rfl (ex_extract rfl rfl) ?_
          refine ho_val rfl rfl (ex_extract rfl rfl) ?_
          refine ho_val rfl rfl (ex_assign rfl) ?_
          refine ho_val rfl rfl (ex_assign rfl) ?_
          refine ho_nil ?_
          refine hk_then_code ?_
          refine hl_seq ?_
          refine hl_seq ?_
          skip
          refine hl_region ?_
          refine ho_val rfl rfl (ex_move rfl) ?_
          refine ho_val rfl rfl (ex_eql rfl rfl rfl) ?_
          refine ho_val rfl rfl (ex_move rfl) ?_
          refine ho_want rfl rfl rfl rfl rfl (ex_move rfl) ?_
          refine ho_do_want rfl rfl rfl rfl rfl (exw_call_pure Try.func14 rfl (by kernel_rfl) rfl (fun w' hw' => base64_any b3 b3.length rfl (some ⟨y3.1, 0, none⟩) y3.2.1 (fun h => nomatch h) (fun h => nomatch h) hk3.le (by have := un64_le hu3; omega) w' (Sl.own hw' 0 rfl rfl (vrow_own _ _)))) (fun _ _ => ?_)
          refine ho_want rfl rfl rfl rfl rfl (ex_move rfl) ?_
          refine ho_want rfl rfl rfl rfl rfl (ex_neq_str (b := false) rfl rfl (neq_false_of_eq (b64_canon hu3))) ?_
          refine ho_val rfl rfl (ex_pick_true rfl rfl) ?_
          refine ho_nil ?_
          refine hk_then_code ?_
          refine hl_false rfl ?_
          refine hl_skip ?_
          refine hk_then_code ?_
          refine hl_seq ?_
          rcases hr : rdOf L with ⟨l, fm⟩ | ⟨e, p⟩
          · have hl32 := (rd_canon hr).1
            refine hl_region ?_
            refine ho_val rfl rfl (ex_move rfl) ?_
            refine ho_do rfl rfl (exw_call_pure (v := .tuple #[.agg (vbs l), .int .i64 (fm : Int), .int .i64 0, .int .i64 0]) Try.func26 rfl (by kernel_rfl) rfl (fun w' hw' => by have h := read_any L (by omega) w'; rw [hr] at h; exact h)) (fun _ _ => ?_)
            refine ho_val rfl rfl (ex_move rfl) ?_
            refine ho_val rfl rfl (ex_extract rfl rfl) ?_
            refine ho_val rfl rfl (ex_extract rfl rfl) ?_
            refine ho_val rfl rfl (ex_extract rfl rfl) ?_
            refine ho_val rfl rfl (ex_extract rfl rfl) ?_
            refine ho_do rfl rfl (exw_store_row2 rfl rfl (by rw [size23]; simp [vbs_size, hl32]) (by simp [vbs_size, hy, hl32]) (vbs_one _)) (fun _ _ => ?_)
            refine ho_val rfl rfl (ex_assign rfl) ?_
            refine ho_val rfl rfl (ex_assign rfl) ?_
            refine ho_nil ?_
            refine hk_then_code ?_
            refine hl_seq ?_
            refine hl_region ?_
            refine ho_val rfl rfl (ex_move rfl) ?_
            refine ho_val rfl rfl (ex_neq rfl rfl rfl) ?_
            refine ho_val rfl rfl (ex_move rfl) ?_
            refine ho_want rfl rfl rfl rfl rfl (ex_load_row rfl 2 rfl rfl Try.underlying23 rfl (by rw [show _ = _ from size23]; simp [vbs_size, vws_size, *])) ?_
            refine ho_want rfl rfl rfl rfl rfl (ex_move rfl) ?_
            refine ho_do_want rfl rfl rfl rfl rfl (exw_call_pure Try.func16 rfl (by kernel_rfl) rfl (fun w' hw' => show_any l hl32 fm w')) (fun _ _ => ?_)
            refine ho_want rfl rfl rfl rfl rfl (ex_move rfl) ?_
            refine ho_want rfl rfl rfl rfl rfl (ex_eql_str (b := true) rfl rfl (eql_true_of_eq (rd_canon hr).2)) ?_
            refine ho_val rfl rfl (ex_pick_false rfl rfl) ?_
            refine ho_val rfl rfl (ex_assign rfl) ?_
            refine ho_nil ?_
            refine hk_then_code ?_
            refine hl_ret ?_
            exact hk_ret rfl rfl (fun w' hw' => ⟨rfl, hw'.below⟩)
          · skip
            refine hl_region ?_
            refine ho_val rfl rfl (ex_move rfl) ?_
            refine ho_do rfl rfl (exw_call_pure (v := .tuple #[.agg (vbs (List.replicate 32 0)), .int .i64 0, .int .i64 (e : Int), .int .i64 (p : Int)]) Try.func26 rfl (by kernel_rfl) rfl (fun w' hw' => by have h := read_any L (by omega) w'; rw [hr] at h; exact h)) (fun _ _ => ?_)
            refine ho_val rfl rfl (ex_move rfl) ?_
            refine ho_val rfl rfl (ex_extract rfl rfl) ?_
            refine ho_val rfl rfl (ex_extract rfl rfl) ?_
            refine ho_val rfl rfl (ex_extract rfl rfl) ?_
            refine ho_val rfl rfl (ex_extract rfl rfl) ?_
            refine ho_do rfl rfl (exw_store_row2 rfl rfl (by rw [size23]; simp [vbs_size, hy]) (by simp [vbs_size, hy]) (vbs_one _)) (fun _ _ => ?_)
            refine ho_val rfl rfl (ex_assign rfl) ?_
            refine ho_val rfl rfl (ex_assign rfl) ?_
            refine ho_nil ?_
            refine hk_then_code ?_
            refine hl_seq ?_
            refine hl_region ?_
            refine ho_val rfl rfl (ex_move rfl) ?_
            refine ho_val rfl rfl (ex_neq (b := true) rfl rfl (bne_iff_ne.2 (by have := rd_err hr; omega))) ?_
            refine ho_val rfl rfl (ex_move rfl) ?_
            refine ho_skip rfl rfl rfl rfl rfl rfl ?_
            refine ho_skip rfl rfl rfl rfl rfl rfl ?_
            refine ho_skip rfl rfl rfl rfl rfl rfl ?_
            refine ho_skip rfl rfl rfl rfl rfl rfl ?_
            refine ho_skip rfl rfl rfl rfl rfl rfl ?_
            refine ho_val rfl rfl (ex_pick_true rfl rfl) ?_
            refine ho_val rfl rfl (ex_assign rfl) ?_
            refine ho_nil ?_
            refine hk_then_code ?_
            refine hl_ret ?_
            exact hk_ret rfl rfl (fun w' hw' => ⟨rfl, hw'.below⟩)
        · refine hl_region ?_
          refine ho_val rfl rfl (ex_move rfl) ?_
          refine ho_do rfl rfl (exw_call_pure (v := .tuple #[.slice none 0 0, .int .i64 (e3 : Int), .int .i64 (p3 : Int)]) Try.func22 rfl (by kernel_rfl) rfl (fun w' hw' => by have h := unbase64_any L (by omega) w'; rw [hu3] at h; exact h)) (fun _ _ => ?_)
          refine ho_val rfl rfl (ex_move rfl) ?_
          refine ho_val rfl rfl (ex_extract rfl rfl) ?_
          refine ho_val rfl rfl (ex_extract rfl rfl) ?_
          refine ho_val rfl rfl (ex_extract rfl rfl) ?_
          refine ho_val rfl rfl (ex_assign rfl) ?_
          refine ho_val rfl rfl (ex_assign rfl) ?_
          refine ho_nil ?_
          refine hk_then_code ?_
          refine hl_seq ?_
          refine hl_seq ?_
          skip
          refine hl_region ?_
          refine ho_val rfl rfl (ex_move rfl) ?_
          refine ho_val rfl rfl (ex_eql (b := false) rfl rfl (beq_false_of_ne (by have := (un64_err hu3).1; omega))) ?_
          refine ho_val rfl rfl (ex_move rfl) ?_
          refine ho_skip rfl rfl rfl rfl rfl rfl ?_
          refine ho_skip rfl rfl rfl rfl rfl rfl ?_
          refine ho_skip rfl rfl rfl rfl rfl rfl ?_
          refine ho_skip rfl rfl rfl rfl rfl rfl ?_
          refine ho_val rfl rfl (ex_pick_false rfl rfl) ?_
          refine ho_nil ?_
          refine hk_then_code ?_
          refine hl_false rfl ?_
          refine hl_skip ?_
          refine hk_then_code ?_
          refine hl_seq ?_
          rcases hr : rdOf L with ⟨l, fm⟩ | ⟨e, p⟩
          · have hl32 := (rd_canon hr).1
            refine hl_region ?_
            refine ho_val rfl rfl (ex_move rfl) ?_
            refine ho_do rfl rfl (exw_call_pure (v := .tuple #[.agg (vbs l), .int .i64 (fm : Int), .int .i64 0, .int .i64 0]) Try.func26 rfl (by kernel_rfl) rfl (fun w' hw' => by have h := read_any L (by omega) w'; rw [hr] at h; exact h)) (fun _ _ => ?_)
            refine ho_val rfl rfl (ex_move rfl) ?_
            refine ho_val rfl rfl (ex_extract rfl rfl) ?_
            refine ho_val rfl rfl (ex_extract rfl rfl) ?_
            refine ho_val rfl rfl (ex_extract rfl rfl) ?_
            refine ho_val rfl rfl (ex_extract rfl rfl) ?_
            refine ho_do rfl rfl (exw_store_row1 rfl rfl (by rw [size23]; simp [vbs_size, hl32]) (by simp [vbs_size, hy, hl32]) (vbs_one _)) (fun _ _ => ?_)
            refine ho_val rfl rfl (ex_assign rfl) ?_
            refine ho_val rfl rfl (ex_assign rfl) ?_
            refine ho_nil ?_
            refine hk_then_code ?_
            refine hl_seq ?_
            refine hl_region ?_
            refine ho_val rfl rfl (ex_move rfl) ?_
            refine ho_val rfl rfl (ex_neq rfl rfl rfl) ?_
            refine ho_val rfl rfl (ex_move rfl) ?_
            refine ho_want rfl rfl rfl rfl rfl (ex_load_row rfl 1 rfl rfl Try.underlying23 rfl (by rw [show _ = _ from size23]; simp [vbs_size, vws_size, *])) ?_
            refine ho_want rfl rfl rfl rfl rfl (ex_move rfl) ?_
            refine ho_do_want rfl rfl rfl rfl rfl (exw_call_pure Try.func16 rfl (by kernel_rfl) rfl (fun w' hw' => show_any l hl32 fm w')) (fun _ _ => ?_)
            refine ho_want rfl rfl rfl rfl rfl (ex_move rfl) ?_
            refine ho_want rfl rfl rfl rfl rfl (ex_eql_str (b := true) rfl rfl (eql_true_of_eq (rd_canon hr).2)) ?_
            refine ho_val rfl rfl (ex_pick_false rfl rfl) ?_
            refine ho_val rfl rfl (ex_assign rfl) ?_
            refine ho_nil ?_
            refine hk_then_code ?_
            refine hl_ret ?_
            exact hk_ret rfl rfl (fun w' hw' => ⟨rfl, hw'.below⟩)
          · skip
            refine hl_region ?_
            refine ho_val rfl rfl (ex_move rfl) ?_
            refine ho_do rfl rfl (exw_call_pure (v := .tuple #[.agg (vbs (List.replicate 32 0)), .int .i64 0, .int .i64 (e : Int), .int .i64 (p : Int)]) Try.func26 rfl (by kernel_rfl) rfl (fun w' hw' => by have h := read_any L (by omega) w'; rw [hr] at h; exact h)) (fun _ _ => ?_)
            refine ho_val rfl rfl (ex_move rfl) ?_
            refine ho_val rfl rfl (ex_extract rfl rfl) ?_
            refine ho_val rfl rfl (ex_extract rfl rfl) ?_
            refine ho_val rfl rfl (ex_extract rfl rfl) ?_
            refine ho_val rfl rfl (ex_extract rfl rfl) ?_
            refine ho_do rfl rfl (exw_store_row1 rfl rfl (by rw [size23]; simp [vbs_size, hy]) (by simp [vbs_size, hy]) (vbs_one _)) (fun _ _ => ?_)
            refine ho_val rfl rfl (ex_assign rfl) ?_
            refine ho_val rfl rfl (ex_assign rfl) ?_
            refine ho_nil ?_
            refine hk_then_code ?_
            refine hl_seq ?_
            refine hl_region ?_
            refine ho_val rfl rfl (ex_move rfl) ?_
            refine ho_val rfl rfl (ex_neq (b := true) rfl rfl (bne_iff_ne.2 (by have := rd_err hr; omega))) ?_
            refine ho_val rfl rfl (ex_move rfl) ?_
            refine ho_skip rfl rfl rfl rfl rfl rfl ?_
            refine ho_skip rfl rfl rfl rfl rfl rfl ?_
            refine ho_skip rfl rfl rfl rfl rfl rfl ?_
            refine ho_skip rfl rfl rfl rfl rfl rfl ?_
            refine ho_skip rfl rfl rfl rfl rfl rfl ?_
            refine ho_val rfl rfl (ex_pick_true rfl rfl) ?_
            refine ho_val rfl rfl (ex_assign rfl) ?_
            refine ho_nil ?_
            refine hk_then_code ?_
            refine hl_ret ?_
            exact hk_ret rfl rfl (fun w' hw' => ⟨rfl, hw'.below⟩)
    · refine hl_region ?_
      refine ho_val rfl rfl (ex_move rfl) ?_
      refine ho_do rfl rfl (exw_call_pure (v := .tuple #[.slice none 0 0, .int .i64 (e1 : Int), .int .i64 (p1 : Int)]) Try.func20 rfl (by kernel_rfl) rfl (fun w' hw' => by have h := unhex_any L (by omega) w'; rw [hu1] at h; exact h)) (fun _ _ => ?_)
      refine ho_val rfl rfl (ex_move rfl) ?_
      refine ho_val rfl rfl (ex_extract rfl rfl) ?_
      refine ho_val rfl rfl (ex_extract rfl rfl) ?_
      refine ho_val rfl rfl (ex_extract rfl rfl) ?_
      refine ho_val rfl rfl (ex_assign rfl) ?_
      refine ho_val rfl rfl (ex_assign rfl) ?_
      refine ho_val rfl rfl (ex_assign rfl) ?_
      refine ho_nil ?_
      refine hk_then_code ?_
      refine hl_seq ?_
      refine hl_seq ?_
      skip
      refine hl_region ?_
      refine ho_val rfl rfl (ex_move rfl) ?_
      refine ho_val rfl rfl (ex_eql (b := false) rfl rfl (beq_false_of_ne (by have := (un16_err hu1).1; omega))) ?_
      refine ho_val rfl rfl (ex_move rfl) ?_
      refine ho_skip rfl rfl rfl rfl rfl rfl ?_
      refine ho_skip rfl rfl rfl rfl rfl rfl ?_
      refine ho_skip rfl rfl rfl rfl rfl rfl ?_
      refine ho_skip rfl rfl rfl rfl rfl rfl ?_
      refine ho_val rfl rfl (ex_pick_false rfl rfl) ?_
      refine ho_nil ?_
      refine hk_then_code ?_
      refine hl_false rfl ?_
      refine hl_skip ?_
      refine hk_then_code ?_
      refine hl_seq ?_
      rcases hu2 : un32 L with b2 | ⟨e2, p2⟩
      · refine hl_region ?_
        refine ho_val rfl rfl (ex_move rfl) ?_
        refine ho_do rfl rfl (exw_call Try.func21 rfl (by kernel_rfl) rfl (val := fun q : Nat × Nat × List Value => .tuple #[slv (some ⟨q.1, 0, none⟩) b2.length q.2.1, .int .i64 0, .int .i64 0]) (hs' := fun q => ⟨some q.1, vrow b2 q.2.2, 5, (0, 0)⟩ :: _) (pre := fun q => RowOk 1 (some q.1) b2.length q.2.1 (b2.map vb) q.2.2) (fun w' hw' => (unbase32_any L (by omega) w').mono fun e w2 h => by rw [hu2] at h; obtain ⟨g, c, r, h1, h2, h3⟩ := h; exact ⟨(g, c, r), h1, h2, hw'.comp (A := []) (by simp) h3⟩)) (fun y2 hk2 => ?_)
        refine ho_val rfl rfl (ex_move rfl) ?_
        refine ho_val rfl rfl (ex_extract rfl rfl) ?_
        refine ho_val rfl rfl (ex_extract rfl rfl) ?_
        refine ho_val rfl rfl (ex_extract rfl rfl) ?_
        refine ho_val rfl rfl (ex_assign rfl) ?_
        refine ho_val rfl rfl (ex_assign rfl) ?_
        refine ho_nil ?_
        refine hk_then_code ?_
        refine hl_seq ?_
        refine hl_seq ?_
        skip
        refine hl_region ?_
        refine ho_val rfl rfl (ex_move rfl) ?_
        refine ho_val rfl rfl (ex_eql rfl rfl rfl) ?_
        refine ho_val rfl rfl (ex_move rfl) ?_
        refine ho_want rfl rfl rfl rfl rfl (ex_move rfl) ?_
        refine ho_do_want rfl rfl rfl rfl rfl (exw_call_pure Try.func12 rfl (by kernel_rfl) rfl (fun w' hw' => base32_any b2 b2.length rfl (some ⟨y2.1, 0, none⟩) y2.2.1 (fun h => nomatch h) (by have := un32_le hu2; omega) w' (Sl.own hw' 0 rfl rfl (vrow_own _ _)))) (fun _ _ => ?_)
        refine ho_want rfl rfl rfl rfl rfl (ex_move rfl) ?_
        refine ho_want rfl rfl rfl rfl rfl (ex_neq_str (b := false) rfl rfl (neq_false_of_eq (b32_canon hu2))) ?_
        refine ho_val rfl rfl (ex_pick_true rfl rfl) ?_
        refine ho_nil ?_
        refine hk_then_code ?_
        refine hl_false rfl ?_
        refine hl_skip ?_
        refine hk_then_code ?_
        refine hl_seq ?_
        rcases hu3 : un64 L with b3 | ⟨e3, p3⟩
        · refine hl_region ?_
          refine ho_val rfl rfl (ex_move rfl) ?_
          refine ho_do rfl rfl (exw_call Try.func22 rfl (by kernel_rfl) rfl (val := fun q : Nat × Nat × List Value => .tuple #[slv (some ⟨q.1, 0, none⟩) b3.length q.2.1, .int .i64 0, .int .i64 0]) (hs' := fun q => ⟨some q.1, vrow b3 q.2.2, 5, (0, 0)⟩ :: _) (pre := fun q => RowOk 1 (some q.1) b3.length q.2.1 (b3.map vb) q.2.2) (fun w' hw' => (unbase64_any L (by omega) w').mono fun e w2 h => by rw [hu3] at h; obtain ⟨g, c, r, h1, h2, h3⟩ := h; exact ⟨(g, c, r), h1, h2, hw'.comp (A := []) (by simp) h3⟩)) (fun y3 hk3 => ?_)
          refine ho_val rfl rfl (ex_move rfl) ?_
          refine ho_val rfl rfl (ex_extract rfl rfl) ?_
          refine ho_val rfl rfl (ex_extract rfl rfl) ?_
          refine ho_val rfl rfl (ex_extract rfl rfl) ?_
          refine ho_val rfl rfl (ex_assign rfl) ?_
          refine ho_val rfl rfl (ex_assign rfl) ?_
          refine ho_nil ?_
          refine hk_then_code ?_
          refine hl_seq ?_
          refine hl_seq ?_
          skip
          refine hl_region ?_
          refine ho_val rfl rfl (ex_move rfl) ?_
          refine ho_val rfl rfl (ex_eql rfl rfl rfl) ?_
          refine ho_val rfl rfl (ex_move rfl) ?_
          refine ho_want rfl rfl rfl rfl rfl (ex_move rfl) ?_
          refine ho_do_want rfl rfl rfl rfl rfl (exw_call_pure Try.func14 rfl (by kernel_rfl) rfl (fun w' hw' => base64_any b3 b3.length rfl (some ⟨y3.1, 0, none⟩) y3.2.1 (fun h => nomatch h) (fun h => nomatch h) hk3.le (by have := un64_le hu3; omega) w' (Sl.own hw' 0 rfl rfl (vrow_own _ _)))) (fun _ _ => ?_)
          refine ho_want rfl rfl rfl rfl rfl (ex_move rfl) ?_
          refine ho_want rfl rfl rfl rfl rfl (ex_neq_str (b := false) rfl rfl (neq_false_of_eq (b64_canon hu3))) ?_
          refine ho_val rfl rfl (ex_pick_true rfl rfl) ?_
          refine ho_nil ?_
          refine hk_then_code ?_
          refine hl_false rfl ?_
          refine hl_skip ?_
          refine hk_then_code ?_
          refine hl_seq ?_
          rcases hr : rdOf L with ⟨l, fm⟩ | ⟨e, p⟩
          · have hl32 := (rd_canon hr).1
            refine hl_region ?_
            refine ho_val rfl rfl (ex_move rfl) ?_
            refine ho_do rfl rfl (exw_call_pure (v := .tuple #[.agg (vbs l), .int .i64 (fm : Int), .int .i64 0, .int .i64 0]) Try.func26 rfl (by kernel_rfl) rfl (fun w' hw' => by have h := read_any L (by omega) w'; rw [hr] at h; exact h)) (fun _ _ => ?_)
            refine ho_val rfl rfl (ex_move rfl) ?_
            refine ho_val rfl rfl (ex_extract rfl rfl) ?_
            refine ho_val rfl rfl (ex_extract rfl rfl) ?_
            refine ho_val rfl rfl (ex_extract rfl rfl) ?_
            refine ho_val rfl rfl (ex_extract rfl rfl) ?_
            refine ho_do rfl rfl (exw_store_row2 rfl rfl (by rw [size23]; simp [vbs_size, hl32]) (by simp [vbs_size, hy, hl32]) (vbs_one _)) (fun _ _ => ?_)
            refine ho_val rfl rfl (ex_assign rfl) ?_
            refine ho_val rfl rfl (ex_assign rfl) ?_
            refine ho_nil ?_
            refine hk_then_code ?_
            refine hl_seq ?_
            refine hl_region ?_
            refine ho_val rfl rfl (ex_move rfl) ?_
            refine ho_val rfl rfl (ex_neq rfl rfl rfl) ?_
            refine ho_val rfl rfl (ex_move rfl) ?_
            refine ho_want rfl rfl rfl rfl rfl (ex_load_row rfl 2 rfl rfl Try.underlying23 rfl (by rw [show _ = _ from size23]; simp [vbs_size, vws_size, *])) ?_
            refine ho_want rfl rfl rfl rfl rfl (ex_move rfl) ?_
            refine ho_do_want rfl rfl rfl rfl rfl (exw_call_pure Try.func16 rfl (by kernel_rfl) rfl (fun w' hw' => show_any l hl32 fm w')) (fun _ _ => ?_)
            refine ho_want rfl rfl rfl rfl rfl (ex_move rfl) ?_
            refine ho_want rfl rfl rfl rfl rfl (ex_eql_str (b := true) rfl rfl (eql_true_of_eq (rd_canon hr).2)) ?_
            refine ho_val rfl rfl (ex_pick_false rfl rfl) ?_
            refine ho_val rfl rfl (ex_assign rfl) ?_
            refine ho_nil ?_
            refine hk_then_code ?_
            refine hl_ret ?_
            exact hk_ret rfl rfl (fun w' hw' => ⟨rfl, hw'.below⟩)
          · skip
            refine hl_region ?_
            refine ho_val rfl rfl (ex_move rfl) ?_
            refine ho_do rfl rfl (exw_call_pure (v := .tuple #[.agg (vbs (List.replicate 32 0)), .int .i64 0, .int .i64 (e : Int), .int .i64 (p : Int)]) Try.func26 rfl (by kernel_rfl) rfl (fun w' hw' => by have h := read_any L (by omega) w'; rw [hr] at h; exact h)) (fun _ _ => ?_)
            refine ho_val rfl rfl (ex_move rfl) ?_
            refine ho_val rfl rfl (ex_extract rfl rfl) ?_
            refine ho_val rfl rfl (ex_extract rfl rfl) ?_
            refine ho_val rfl rfl (ex_extract rfl rfl) ?_
            refine ho_val rfl rfl (ex_extract rfl rfl) ?_
            refine ho_do rfl rfl (exw_store_row2 rfl rfl (by rw [size23]; simp [vbs_size, hy]) (by simp [vbs_size, hy]) (vbs_one _)) (fun _ _ => ?_)
            refine ho_val rfl rfl (ex_assign rfl) ?_
            refine ho_val rfl rfl (ex_assign rfl) ?_
            refine ho_nil ?_
            refine hk_then_code ?_
            refine hl_seq ?_
            refine hl_region ?_
            refine ho_val rfl rfl (ex_move rfl) ?_
            refine ho_val rfl rfl (ex_neq (b := true) rfl rfl (bne_iff_ne.2 (by have := rd_err hr; omega))) ?_
            refine ho_val rfl rfl (ex_move rfl) ?_
            refine ho_skip rfl rfl rfl rfl rfl rfl ?_
            refine ho_skip rfl rfl rfl rfl rfl rfl ?_
            refine ho_skip rfl rfl rfl rfl rfl rfl ?_
            refine ho_skip rfl rfl rfl rfl rfl rfl ?_
            refine ho_skip rfl rfl rfl rfl rfl rfl ?_
            refine ho_val rfl rfl (ex_pick_true rfl rfl) ?_
            refine ho_val rfl rfl (ex_assign rfl) ?_
            refine ho_nil ?_
            refine hk_then_code ?_
            refine hl_ret ?_
            exact hk_ret rfl rfl (fun w' hw' => ⟨rfl, hw'.below⟩)
        · refine hl_region ?_
          refine ho_val rfl rfl (ex_move rfl) ?_
          refine ho_do rfl rfl (exw_call_pure (v := .tuple #[.slice none 0 0, .int .i64 (e3 : Int), .int .i64 (p3 : Int)]) Try.func22 rfl (by kernel_rfl) rfl (fun w' hw' => by have h := unbase64_any L (by omega) w'; rw [hu3] at h; exact h)) (fun _ _ => ?_)
          refine ho_val rfl rfl (ex_move rfl) ?_
          refine ho_val rfl rfl (ex_extract rfl rfl) ?_
          refine ho_val rfl rfl (ex_extract rfl rfl) ?_
          refine ho_val rfl rfl (ex_extract rfl rfl) ?_
          refine ho_val rfl rfl (ex_assign rfl) ?_
          refine ho_val rfl rfl (ex_assign rfl) ?_
          refine ho_nil ?_
          refine hk_then_code ?_
          refine hl_seq ?_
          refine hl_seq ?_
          skip
          refine hl_region ?_
          refine ho_val rfl rfl (ex_move rfl) ?_
          refine ho_val rfl rfl (ex_eql (b := false) rfl rfl (beq_false_of_ne (by have := (un64_err hu3).1; omega))) ?_
          refine ho_val rfl rfl (ex_move rfl) ?_
          refine ho_skip rfl rfl rfl rfl rfl rfl ?_
          refine ho_skip rfl rfl rfl rfl rfl rfl ?_
          refine ho_skip rfl rfl rfl rfl rfl rfl ?_
          refine ho_skip rfl rfl rfl rfl rfl rfl ?_
          refine ho_val rfl rfl (ex_pick_false rfl rfl) ?_
          refine ho_nil ?_
          refine hk_then_code ?_
          refine hl_false rfl ?_
          refine hl_skip ?_
          refine hk_then_code ?_
          refine hl_seq ?_
          rcases hr : rdOf L with ⟨l, fm⟩ | ⟨e, p⟩
          · have hl32 := (rd_canon hr).1
            refine hl_region ?_
            refine ho_val rfl rfl (ex_move rfl) ?_
            refine ho_do rfl rfl (exw_call_pure (v := .tuple #[.agg (vbs l), .int .i64 (fm : Int), .int .i64 0, .int .i64 0]) Try.func26 rfl (by kernel_rfl) rfl (fun w' hw' => by have h := read_any L (by omega) w'; rw [hr] at h; exact h)) (fun _ _ => ?_)
            refine ho_val rfl rfl (ex_move rfl) ?_
            refine ho_val rfl rfl (ex_extract rfl rfl) ?_
            refine ho_val rfl rfl (ex_extract rfl rfl) ?_
            refine ho_val rfl rfl (ex_extract rfl rfl) ?_
            refine ho_val rfl rfl (ex_extract rfl rfl) ?_
            refine ho_do rfl rfl (exw_store_row1 rfl rfl (by rw [size23]; simp [vbs_size, hl32]) (by simp [vbs_size, hy, hl32]) (vbs_one _)) (fun _ _ => ?_)
            refine ho_val rfl rfl (ex_assign rfl) ?_
            refine ho_val rfl rfl (ex_assign rfl) ?_
            refine ho_nil ?_
            refine hk_then_code ?_
            refine hl_seq ?_
            refine hl_region ?_
            refine ho_val rfl rfl (ex_move rfl) ?_
            refine ho_val rfl rfl (ex_neq rfl rfl rfl) ?_
            refine ho_val rfl rfl (ex_move rfl) ?_
            refine ho_want rfl rfl rfl rfl rfl (ex_load_row rfl 1 rfl rfl Try.underlying23 rfl (by rw [show _ = _ from size23]; simp [vbs_size, vws_size, *])) ?_
            refine ho_want rfl rfl rfl rfl rfl (ex_move rfl) ?_
            refine ho_do_want rfl rfl rfl rfl rfl (exw_call_pure Try.func16 rfl (by kernel_rfl) rfl (fun w' hw' => show_any l hl32 fm w')) (fun _ _ => ?_)
            refine ho_want rfl rfl rfl rfl rfl (ex_move rfl) ?_
            refine ho_want rfl rfl rfl rfl rfl (ex_eql_str (b := true) rfl rfl (eql_true_of_eq (rd_canon hr).2)) ?_
            refine ho_val rfl rfl (ex_pick_false rfl rfl) ?_
            refine ho_val rfl rfl (ex_assign rfl) ?_
            refine ho_nil ?_
            refine hk_then_code ?_
            refine hl_ret ?_
            exact hk_ret rfl rfl (fun w' hw' => ⟨rfl, hw'.below⟩)
          · skip
            refine hl_region ?_
            refine ho_val rfl rfl (ex_move rfl) ?_
            refine ho_do rfl rfl (exw_call_pure (v := .tuple #[.agg (vbs (List.replicate 32 0)), .int .i64 0, .int .i64 (e : Int), .int .i64 (p : Int)]) Try.func26 rfl (by kernel_rfl) rfl (fun w' hw' => by have h := read_any L (by omega) w'; rw [hr] at h; exact h)) (fun _ _ => ?_)
            refine ho_val rfl rfl (ex_move rfl) ?_
            refine ho_val rfl rfl (ex_extract rfl rfl) ?_
            refine ho_val rfl rfl (ex_extract rfl rfl) ?_
            refine ho_val rfl rfl (ex_extract rfl rfl) ?_
            refine ho_val rfl rfl (ex_extract rfl rfl) ?_
            refine ho_do rfl rfl (exw_store_row1 rfl rfl (by rw [size23]; simp [vbs_size, hy]) (by simp [vbs_size, hy]) (vbs_one _)) (fun _ _ => ?_)
            refine ho_val rfl rfl (ex_assign rfl) ?_
            refine ho_val rfl rfl (ex_assign rfl) ?_
            refine ho_nil ?_
            refine hk_then_code ?_
            refine hl_seq ?_
            refine hl_region ?_
            refine ho_val rfl rfl (ex_move rfl) ?_
            refine ho_val rfl rfl (ex_neq (b := true) rfl rfl (bne_iff_ne.2 (by have := rd_err hr; omega))) ?_
            refine ho_val rfl rfl (ex_move rfl) ?_
            refine ho_skip rfl rfl rfl rfl rfl rfl ?_
            refine ho_skip rfl rfl rfl rfl rfl rfl ?_
            refine ho_skip rfl rfl rfl rfl rfl rfl ?_
            refine ho_skip rfl rfl rfl rfl rfl rfl ?_
            refine ho_skip rfl rfl rfl rfl rfl rfl ?_
            refine ho_val rfl rfl (ex_pick_true rfl rfl) ?_
            refine ho_val rfl rfl (ex_assign rfl) ?_
            refine ho_nil ?_
            refine hk_then_code ?_
            refine hl_ret ?_
            exact hk_ret rfl rfl (fun w' hw' => ⟨rfl, hw'.below⟩)
      · refine hl_region ?_
        refine ho_val rfl rfl (ex_move rfl) ?_
        refine ho_do rfl rfl (exw_call_pure (v := .tuple #[.slice none 0 0, .int .i64 (e2 : Int), .int .i64 (p2 : Int)]) Try.func21 rfl (by kernel_rfl) rfl (fun w' hw' => by have h := unbase32_any L (by omega) w'; rw [hu2] at h; exact h)) (fun _ _ => ?_)
        refine ho_val rfl rfl (ex_move rfl) ?_
        refine ho_val rfl rfl (ex_extract rfl rfl) ?_
        refine ho_val rfl rfl (ex_extract rfl rfl) ?_
        refine ho_val rfl rfl (ex_extract rfl rfl) ?_
        refine ho_val rfl rfl (ex_assign rfl) ?_
        refine ho_val rfl rfl (ex_assign rfl) ?_
        refine ho_nil ?_
        refine hk_then_code ?_
        refine hl_seq ?_
        refine hl_seq ?_
        skip
        refine hl_region ?_
        refine ho_val rfl rfl (ex_move rfl) ?_
        refine ho_val rfl rfl (ex_eql (b := false) rfl rfl (beq_false_of_ne (by have := (un32_err hu2).1; omega))) ?_
        refine ho_val rfl rfl (ex_move rfl) ?_
        refine ho_skip rfl rfl rfl rfl rfl rfl ?_
        refine ho_skip rfl rfl rfl rfl rfl rfl ?_
        refine ho_skip rfl rfl rfl rfl rfl rfl ?_
        refine ho_skip rfl rfl rfl rfl rfl rfl ?_
        refine ho_val rfl rfl (ex_pick_false rfl rfl) ?_
        refine ho_nil ?_
        refine hk_then_code ?_
        refine hl_false rfl ?_
        refine hl_skip ?_
        refine hk_then_code ?_
        refine hl_seq ?_
        rcases hu3 : un64 L with b3 | ⟨e3, p3⟩
        · refine hl_region ?_
          refine ho_val rfl rfl (ex_move rfl) ?_
          refine ho_do rfl rfl (exw_call Try.func22 rfl (by kernel_rfl) rfl (val := fun q : Nat × Nat × List Value => .tuple #[slv (some ⟨q.1, 0, none⟩) b3.length q.2.1, .int .i64 0, .int .i64 0]) (hs' := fun q => ⟨some q.1, vrow b3 q.2.2, 5, (0, 0)⟩ :: _) (pre := fun q => RowOk 1 (some q.1) b3.length q.2.1 (b3.map vb) q.2.2) (fun w' hw' => (unbase64_any L (by omega) w').mono fun e w2 h => by rw [hu3] at h; obtain ⟨g, c, r, h1, h2, h3⟩ := h; exact ⟨(g, c, r), h1, h2, hw'.comp (A := []) (by simp) h3⟩)) (fun y3 hk3 => ?_)
          refine ho_val rfl rfl (ex_move rfl) ?_
          refine ho_val rfl rfl (ex_extract rfl rfl) ?_
          refine ho_val rfl rfl (ex_extract rfl rfl) ?_
          refine ho_val rfl rfl (ex_extract rfl rfl) ?_
          refine ho_val rfl rfl (ex_assign rfl) ?_
          refine ho_val rfl rfl (ex_assign rfl) ?_
          refine ho_nil ?_
          refine hk_then_code ?_
          refine hl_seq ?_
          refine hl_seq ?_
          skip
          refine hl_region ?_
          refine ho_val rfl rfl (ex_move rfl) ?_
          refine ho_val rfl rfl (ex_eql rfl rfl rfl) ?_
          refine ho_val rfl rfl (ex_move rfl) ?_
          refine ho_want rfl rfl rfl rfl rfl (ex_move rfl) ?_
          refine ho_do_want rfl rfl rfl rfl rfl (exw_call_pure Try.func14 rfl (by kernel_rfl) rfl (fun w' hw' => base64_any b3 b3.length rfl (some ⟨y3.1, 0, none⟩) y3.2.1 (fun h => nomatch h) (fun h => nomatch h) hk3.le (by have := un64_le hu3; omega) w' (Sl.own hw' 0 rfl rfl (vrow_own _ _)))) (fun _ _ => ?_)
          refine ho_want rfl rfl rfl rfl rfl (ex_move rfl) ?_
          refine ho_want rfl rfl rfl rfl rfl (ex_neq_str (b := false) rfl rfl (neq_false_of_eq (b64_canon hu3))) ?_
          refine ho_val rfl rfl (ex_pick_true rfl rfl) ?_
          refine ho_nil ?_
          refine hk_then_code ?_
          refine hl_false rfl ?_
          refine hl_skip ?_
          refine hk_then_code ?_
          refine hl_seq ?_
          rcases hr : rdOf L with ⟨l, fm⟩ | ⟨e, p⟩
          · have hl32 := (rd_canon hr).1
            refine hl_region ?_
            refine ho_val rfl rfl (ex_move rfl) ?_
            refine ho_do rfl rfl (exw_call_pure (v := .tuple #[.agg (vbs l), .int .i64 (fm : Int), .int .i64 0, .int .i64 0]) Try.func26 rfl (by kernel_rfl) rfl (fun w' hw' => by have h := read_any L (by omega) w'; rw [hr] at h; exact h)) (fun _ _ => ?_)
            refine ho_val rfl rfl (ex_move rfl) ?_
            refine ho_val rfl rfl (ex_extract rfl rfl) ?_
            refine ho_val rfl rfl (ex_extract rfl rfl) ?_
            refine ho_val rfl rfl (ex_extract rfl rfl) ?_
            refine ho_val rfl rfl (ex_extract rfl rfl) ?_
            refine ho_do rfl rfl (exw_store_row1 rfl rfl (by rw [size23]; simp [vbs_size, hl32]) (by simp [vbs_size, hy, hl32]) (vbs_one _)) (fun _ _ => ?_)
            refine ho_val rfl rfl (ex_assign rfl) ?_
            refine ho_val rfl rfl (ex_assign rfl) ?_
            refine ho_nil ?_
            refine hk_then_code ?_
            refine hl_seq ?_
            refine hl_region ?_
            refine ho_val rfl rfl (ex_move rfl) ?_
            refine ho_val rfl rfl (ex_neq rfl rfl rfl) ?_
            refine ho_val rfl rfl (ex_move rfl) ?_
            refine ho_want rfl rfl rfl rfl rfl (ex_load_row rfl 1 rfl rfl Try.underlying23 rfl (by rw [show _ = _ from size23]; simp [vbs_size, vws_size, *])) ?_
            refine ho_want rfl rfl rfl rfl rfl (ex_move rfl) ?_
            refine ho_do_want rfl rfl rfl rfl rfl (exw_call_pure Try.func16 rfl (by kernel_rfl) rfl (fun w' hw' => show_any l hl32 fm w')) (fun _ _ => ?_)
            refine ho_want rfl rfl rfl rfl rfl (ex_move rfl) ?_
            refine ho_want rfl rfl rfl rfl rfl (ex_eql_str (b := true) rfl rfl (eql_true_of_eq (rd_canon hr).2)) ?_
            refine ho_val rfl rfl (ex_pick_false rfl rfl) ?_
            refine ho_val rfl rfl (ex_assign rfl) ?_
            refine ho_nil ?_
            refine hk_then_code ?_
            refine hl_ret ?_
            exact hk_ret rfl rfl (fun w' hw' => ⟨rfl, hw'.below⟩)
          · skip
            refine hl_region ?_
            refine ho_val rfl rfl (ex_move rfl) ?_
            refine ho_do rfl rfl (exw_call_pure (v := .tuple #[.agg (vbs (List.replicate 32 0)), .int .i64 0, .int .i64 (e : Int), .int .i64 (p : Int)]) Try.func26 rfl (by kernel_rfl) rfl (fun w' hw' => by have h := read_any L (by omega) w'; rw [hr] at h; exact h)) (fun _ _ => ?_)
            refine ho_val rfl rfl (ex_move rfl) ?_
            refine ho_val rfl rfl (ex_extract rfl rfl) ?_
            refine ho_val rfl rfl (ex_extract rfl rfl) ?_
            refine ho_val rfl rfl (ex_extract rfl rfl) ?_
            refine ho_val rfl rfl (ex_extract rfl rfl) ?_
            refine ho_do rfl rfl (exw_store_row1 rfl rfl (by rw [size23]; simp [vbs_size, hy]) (by simp [vbs_size, hy]) (vbs_one _)) (fun _ _ => ?_)
            refine ho_val rfl rfl (ex_assign rfl) ?_
            refine ho_val rfl rfl (ex_assign rfl) ?_
            refine ho_nil ?_
            refine hk_then_code ?_
            refine hl_seq ?_
            refine hl_region ?_
            refine ho_val rfl rfl (ex_move rfl) ?_
            refine ho_val rfl rfl (ex_neq (b := true) rfl rfl (bne_iff_ne.2 (by have := rd_err hr; omega))) ?_
            refine ho_val rfl rfl (ex_move rfl) ?_
            refine ho_skip rfl rfl rfl rfl rfl rfl ?_
            refine ho_skip rfl rfl rfl rfl rfl rfl ?_
            refine ho_skip rfl rfl rfl rfl rfl rfl ?_
            refine ho_skip rfl rfl rfl rfl rfl rfl ?_
            refine ho_skip rfl rfl rfl rfl rfl rfl ?_
            refine ho_val rfl rfl (ex_pick_true rfl rfl) ?_
            refine ho_val rfl rfl (ex_assign rfl) ?_
            refine ho_nil ?_
            refine hk_then_code ?_
            refine hl_ret ?_
            exact hk_ret rfl rfl (fun w' hw' => ⟨rfl, hw'.below⟩)
        · refine hl_region ?_
          refine ho_val rfl rfl (ex_move rfl) ?_
          refine ho_do rfl rfl (exw_call_pure (v := .tuple #[.slice none 0 0, .int .i64 (e3 : Int), .int .i64 (p3 : Int)]) Try.func22 rfl (by kernel_rfl) rfl (fun w' hw' => by have h := unbase64_any L (by omega) w'; rw [hu3] at h; exact h)) (fun _ _ => ?_)
          refine ho_val rfl rfl (ex_move rfl) ?_
          refine ho_val rfl rfl (ex_extract rfl rfl) ?_
          refine ho_val rfl rfl (ex_extract rfl rfl) ?_
          refine ho_val rfl rfl (ex_extract rfl rfl) ?_
          refine ho_val rfl rfl (ex_assign rfl) ?_
          refine ho_val rfl rfl (ex_assign rfl) ?_
          refine ho_nil ?_
          refine hk_then_code ?_
          refine hl_seq ?_
          refine hl_seq ?_
          skip
          refine hl_region ?_
          refine ho_val rfl rfl (ex_move rfl) ?_
          refine ho_val rfl rfl (ex_eql (b := false) rfl rfl (beq_false_of_ne (by have := (un64_err hu3).1; omega))) ?_
          refine ho_val rfl rfl (ex_move rfl) ?_
          refine ho_skip rfl rfl rfl rfl rfl rfl ?_
          refine ho_skip rfl rfl rfl rfl rfl rfl ?_
          refine ho_skip rfl rfl rfl rfl rfl rfl ?_
          refine ho_skip rfl rfl rfl rfl rfl rfl ?_
          refine ho_val rfl rfl (ex_pick_false rfl rfl) ?_
          refine ho_nil ?_
          refine hk_then_code ?_
          refine hl_false rfl ?_
          refine hl_skip ?_
          refine hk_then_code ?_
          refine hl_seq ?_
          rcases hr : rdOf L with ⟨l, fm⟩ | ⟨e, p⟩
          · have hl32 := (rd_canon hr).1
            refine hl_region ?_
            refine ho_val rfl rfl (ex_move rfl) ?_
            refine ho_do rfl rfl (exw_call_pure (v := .tuple #[.agg (vbs l), .int .i64 (fm : Int), .int .i64 0, .int .i64 0]) Try.func26 rfl (by kernel_rfl) rfl (fun w' hw' => by have h := read_any L (by omega) w'; rw [hr] at h; exact h)) (fun _ _ => ?_)
            refine ho_val rfl rfl (ex_move rfl) ?_
            refine ho_val rfl rfl (ex_extract rfl rfl) ?_
            refine ho_val rfl rfl (ex_extract rfl rfl) ?_
            refine ho_val rfl rfl (ex_extract rfl rfl) ?_
            refine ho_val rfl rfl (ex_extract rfl rfl) ?_
            refine ho_do rfl rfl (exw_store_row0 rfl rfl (by rw [size23]; simp [vbs_size, hl32]) (by simp [vbs_size, hy, hl32]) (vbs_one _)) (fun _ _ => ?_)
            refine ho_val rfl rfl (ex_assign rfl) ?_
            refine ho_val rfl rfl (ex_assign rfl) ?_
            refine ho_nil ?_
            refine hk_then_code ?_
            refine hl_seq ?_
            refine hl_region ?_
            refine ho_val rfl rfl (ex_move rfl) ?_
            refine ho_val rfl rfl (ex_neq rfl rfl rfl) ?_
            refine ho_val rfl rfl (ex_move rfl) ?_
            refine ho_want rfl rfl rfl rfl rfl (ex_load_row rfl 0 rfl rfl Try.underlying23 rfl (by rw [show _ = _ from size23]; simp [vbs_size, vws_size, *])) ?_
            refine ho_want rfl rfl rfl rfl rfl (ex_move rfl) ?_
            refine ho_do_want rfl rfl rfl rfl rfl (exw_call_pure Try.func16 rfl (by kernel_rfl) rfl (fun w' hw' => show_any l hl32 fm w')) (fun _ _ => ?_)
            refine ho_want rfl rfl rfl rfl rfl (ex_move rfl) ?_
            refine ho_want rfl rfl rfl rfl rfl (ex_eql_str (b := true) rfl rfl (eql_true_of_eq (rd_canon hr).2)) ?_
            refine ho_val rfl rfl (ex_pick_false rfl rfl) ?_
            refine ho_val rfl rfl (ex_assign rfl) ?_
            refine ho_nil ?_
            refine hk_then_code ?_
            refine hl_ret ?_
            exact hk_ret rfl rfl (fun w' hw' => ⟨rfl, hw'.below⟩)
          · skip
            refine hl_region ?_
            refine ho_val rfl rfl (ex_move rfl) ?_
            refine ho_do rfl rfl (exw_call_pure (v := .tuple #[.agg (vbs (List.replicate 32 0)), .int .i64 0, .int .i64 (e : Int), .int .i64 (p : Int)]) Try.func26 rfl (by kernel_rfl) rfl (fun w' hw' => by have h := read_any L (by omega) w'; rw [hr] at h; exact h)) (fun _ _ => ?_)
            refine ho_val rfl rfl (ex_move rfl) ?_
            refine ho_val rfl rfl (ex_extract rfl rfl) ?_
            refine ho_val rfl rfl (ex_extract rfl rfl) ?_
            refine ho_val rfl rfl (ex_extract rfl rfl) ?_
            refine ho_val rfl rfl (ex_extract rfl rfl) ?_
            refine ho_do rfl rfl (exw_store_row0 rfl rfl (by rw [size23]; simp [vbs_size, hy]) (by simp [vbs_size, hy]) (vbs_one _)) (fun _ _ => ?_)
            refine ho_val rfl rfl (ex_assign rfl) ?_
            refine ho_val rfl rfl (ex_assign rfl) ?_
            refine ho_nil ?_
            refine hk_then_code ?_
            refine hl_seq ?_
            refine hl_region ?_
            refine ho_val rfl rfl (ex_move rfl) ?_
            refine ho_val rfl rfl (ex_neq (b := true) rfl rfl (bne_iff_ne.2 (by have := rd_err hr; omega))) ?_
            refine ho_val rfl rfl (ex_move rfl) ?_
            refine ho_skip rfl rfl rfl rfl rfl rfl ?_
            refine ho_skip rfl rfl rfl rfl rfl rfl ?_
            refine ho_skip rfl rfl rfl rfl rfl rfl ?_
            refine ho_skip rfl rfl rfl rfl rfl rfl ?_
            refine ho_skip rfl rfl rfl rfl rfl rfl ?_
            refine ho_val rfl rfl (ex_pick_true rfl rfl) ?_
            refine ho_val rfl rfl (ex_assign rfl) ?_
            refine ho_nil ?_
            refine hk_then_code ?_
            refine hl_ret ?_
            exact hk_ret rfl rfl (fun w' hw' => ⟨rfl, hw'.below⟩)
  · refine hl_region ?_
    refine ho_val rfl rfl (ex_load_row rfl 0 rfl rfl Try.underlying23 rfl (by rw [size23, vbs_size, hy])) ?_
    refine ho_val rfl rfl (ex_move rfl) ?_
    refine ho_do rfl rfl (exw_call_pure (v := .string (bs [])) Try.func16 rfl (by kernel_rfl) rfl (fun w' hw' => by have h := show_any y hy ((3 : Nat) : Int) w'; rw [show_three] at h; exact h)) (fun _ _ => ?_)
    refine ho_do rfl rfl (exw_call_pure (v := .tuple #[.agg (vbs (List.replicate 32 0)), .int .i64 0, .int .i64 12, .int .i64 0]) Try.func26 rfl (by kernel_rfl) rfl (fun w' hw' => by have h := read_any [] (by decide) w'; rw [rd_nil] at h; exact h)) (fun _ _ => ?_)
    refine ho_val rfl rfl (ex_move rfl) ?_
    refine ho_val rfl rfl (ex_extract rfl rfl) ?_
    refine ho_val rfl rfl (ex_extract rfl rfl) ?_
    refine ho_val rfl rfl (ex_extract rfl rfl) ?_
    refine ho_val rfl rfl (ex_extract rfl rfl) ?_
    refine ho_do rfl rfl (exw_alloc_cs (z := .agg (vbs (List.replicate 32 0))) (vbs (List.replicate 32 0)) (by kernel_rfl) rfl) (fun b7 hb7 => ?_)
    refine ho_do rfl rfl (exw_store_row0 rfl rfl (by rw [show _ = _ from size23]; simp [vbs_size, vws_size, *]) (by simp [vbs_size, vws_size, *]) (vbs_one _)) (fun _ _ => ?_)
    refine ho_val rfl rfl (ex_assign rfl) ?_
    refine ho_val rfl rfl (ex_assign rfl) ?_
    refine ho_val rfl rfl (ex_assign rfl) ?_
    refine ho_nil ?_
    refine hk_then_code ?_
    refine hl_seq ?_
    refine hl_seq ?_
    refine hl_region ?_
    refine ho_val rfl rfl (ex_move rfl) ?_
    refine ho_val rfl rfl (ex_lss (b := false) rfl rfl rfl) ?_
    refine ho_val rfl rfl (ex_move rfl) ?_
    refine ho_skip rfl rfl rfl rfl rfl rfl ?_
    refine ho_skip rfl rfl rfl rfl rfl rfl ?_
    refine ho_skip rfl rfl rfl rfl rfl rfl ?_
    refine ho_skipu rfl rfl rfl rfl rfl ?_
    refine ho_skipu rfl rfl rfl rfl rfl ?_
    refine ho_skipu rfl rfl rfl rfl rfl ?_
    refine ho_skip rfl rfl rfl rfl rfl rfl ?_
    refine ho_skip rfl rfl rfl rfl rfl rfl ?_
    refine ho_skipu rfl rfl rfl rfl rfl ?_
    refine ho_skipu rfl rfl rfl rfl rfl ?_
    refine ho_skipu rfl rfl rfl rfl rfl ?_
    refine ho_skip rfl rfl rfl rfl rfl rfl ?_
    refine ho_val rfl rfl (ex_pick_false rfl rfl) ?_
    refine ho_val rfl rfl (ex_move rfl) ?_
    refine ho_want rfl rfl rfl rfl rfl (ex_move rfl) ?_
    refine ho_want rfl rfl rfl rfl rfl (ex_eql (b := true) rfl rfl rfl) ?_
    refine ho_want rfl rfl rfl rfl rfl (ex_move rfl) ?_
    refine ho_want rfl rfl rfl rfl rfl (ex_load_row rfl 1 rfl rfl Try.underlying23 rfl (by rw [size23, vbs_size, hy])) ?_
    refine ho_want rfl rfl rfl rfl rfl (ex_move rfl) ?_
    refine ho_do_want rfl rfl rfl rfl rfl (exw_call_pure (v := .string (bs [])) Try.func16 rfl (by kernel_rfl) rfl (fun w' hw' => by have h := show_any y hy ((3 : Nat) : Int) w'; rw [show_three] at h; exact h)) (fun _ _ => ?_)
    refine ho_want rfl rfl rfl rfl rfl (ex_neq_str (L := []) (b := false) rfl rfl rfl) ?_
    refine ho_want rfl rfl rfl rfl rfl (ex_pick_true rfl rfl) ?_
    refine ho_val rfl rfl (ex_pick_false rfl rfl) ?_
    refine ho_nil ?_
    refine hk_then_code ?_
    refine hl_false rfl ?_
    refine hl_skip ?_
    refine hk_then_code ?_
    refine hl_seq ?_
    rcases hu1 : un16 L with b1 | ⟨e1, p1⟩
    · refine hl_region ?_
      refine ho_val rfl rfl (ex_move rfl) ?_
      refine ho_do rfl rfl (exw_call Try.func20 rfl (by kernel_rfl) rfl (val := fun q : Nat × Nat × List Value => .tuple #[slv (some ⟨q.1, 0, none⟩) b1.length q.2.1, .int .i64 0, .int .i64 0]) (hs' := fun q => ⟨some q.1, vrow b1 q.2.2, 5, (0, 0)⟩ :: _) (pre := fun q => RowOk 1 (some q.1) b1.length q.2.1 (b1.map vb) q.2.2) (fun w' hw' => (unhex_any L (by omega) w').mono fun e w2 h => by rw [hu1] at h; obtain ⟨g, c, r, h1, h2, h3⟩ := h; exact ⟨(g, c, r), h1, h2, hw'.comp (A := []) (by simp) h3⟩)) (fun y1 hk1 => ?_)
      refine ho_val rfl rfl (ex_move rfl) ?_
      refine ho_val rfl rfl (ex_extract rfl rfl) ?_
      refine ho_val rfl rfl (ex_extract rfl rfl) ?_
      refine ho_val rfl rfl (ex_extract rfl rfl) ?_
      refine ho_val rfl rfl (ex_assign rfl) ?_
      refine ho_val rfl rfl (ex_assign rfl) ?_
      refine ho_val rfl rfl (ex_assign rfl) ?_
      refine ho_nil ?_
      refine hk_then_code ?_
      refine hl_seq ?_
      refine hl_seq ?_
      skip
      refine hl_region ?_
      refine ho_val rfl rfl (ex_move rfl) ?_
      refine ho_val rfl rfl (ex_eql rfl rfl rfl) ?_
      refine ho_val rfl rfl (ex_move rfl) ?_
      refine ho_want rfl rfl rfl rfl rfl (ex_move rfl) ?_
      refine ho_do_want rfl rfl rfl rfl rfl (exw_call_pure Try.func10 rfl (by kernel_rfl) rfl (fun w' hw' => hex_any b1 b1.length rfl (some ⟨y1.1, 0, none⟩) y1.2.1 (fun h => nomatch h) (by have := un16_le hu1; omega) w' (Sl.own hw' 0 rfl rfl (vrow_own _ _)))) (fun _ _ => ?_)
      refine ho_want rfl rfl rfl rfl rfl (ex_move rfl) ?_
      refine ho_want rfl rfl rfl rfl rfl (ex_neq_str (b := false) rfl rfl (neq_false_of_eq (hex_canon hu1))) ?_
      refine ho_val rfl rfl (ex_pick_true rfl rfl) ?_
      refine ho_nil ?_
      refine hk_then_code ?_
      refine hl_false rfl ?_
      refine hl_skip ?_
      refine hk_then_code ?_
      refine hl_seq ?_
      rcases hu2 : un32 L with b2 | ⟨e2, p2⟩
      · refine hl_region ?_
        refine ho_val rfl rfl (ex_move rfl) ?_
        refine ho_do rfl rfl (exw_call Try.func21 rfl (by kernel_rfl) rfl (val := fun q : Nat × Nat × List Value => .tuple #[slv (some ⟨q.1, 0, none⟩) b2.length q.2.1, .int .i64 0, .int .i64 0]) (hs' := fun q => ⟨some q.1, vrow b2 q.2.2, 5, (0, 0)⟩ :: _) (pre := fun q => RowOk 1 (some q.1) b2.length q.2.1 (b2.map vb) q.2.2) (fun w' hw' => (unbase32_any L (by omega) w').mono fun e w2 h => by rw [hu2] at h; obtain ⟨g, c, r, h1, h2, h3⟩ := h; exact ⟨(g, c, r), h1, h2, hw'.comp (A := []) (by simp) h3⟩)) (fun y2 hk2 => ?_)
        refine ho_val rfl rfl (ex_move rfl) ?_
        refine ho_val rfl rfl (ex_extract rfl rfl) ?_
        refine ho_val rfl rfl (ex_extract rfl rfl) ?_
        refine ho_val rfl rfl (ex_extract rfl rfl) ?_
        refine ho_val rfl rfl (ex_assign rfl) ?_
        refine ho_val rfl rfl (ex_assign rfl) ?_
        refine ho_nil ?_
        refine hk_then_code ?_
        refine hl_seq ?_
        refine hl_seq ?_
        skip
        refine hl_region ?_
        refine ho_val rfl rfl (ex_move rfl) ?_
        refine ho_val rfl rfl (ex_eql rfl rfl rfl) ?_
        refine ho_val rfl rfl (ex_move rfl) ?_
        refine ho_want rfl rfl rfl rfl rfl (ex_move rfl) ?_
        refine ho_do_want rfl rfl rfl rfl rfl (exw_call_pure Try.func12 rfl (by kernel_rfl) rfl (fun w' hw' => base32_any b2 b2.length rfl (some ⟨y2.1, 0, none⟩) y2.2.1 (fun h => nomatch h) (by have := un32_le hu2; omega) w' (Sl.own hw' 0 rfl rfl (vrow_own _ _)))) (fun _ _ => ?_)
        refine ho_want rfl rfl rfl rfl rfl (ex_move rfl) ?_
        refine ho_want rfl rfl rfl rfl rfl (ex_neq_str (b := false) rfl rfl (neq_false_of_eq (b32_canon hu2))) ?_
        refine ho_val rfl rfl (ex_pick_true rfl rfl) ?_
        refine ho_nil ?_
        refine hk_then_code ?_
        refine hl_false rfl ?_
        refine hl_skip ?_
        refine hk_then_code ?_
        refine hl_seq ?_
        rcases hu3 : un64 L with b3 | ⟨e3, p3⟩
        · refine hl_region ?_
          refine ho_val rfl rfl (ex_move rfl) ?_
          refine ho_do rfl rfl (exw_call Try.func22 rfl (by kernel_rfl) rfl (val := fun q : Nat × Nat × List Value => .tuple #[slv (some ⟨q.1, 0, none⟩) b3.length q.2.1, .int .i64 0, .int .i64 0]) (hs' := fun q => ⟨some q.1, vrow b3 q.2.2, 5, (0, 0)⟩ :: _) (pre := fun q => RowOk 1 (some q.1) b3.length q.2.1 (b3.map vb) q.2.2) (fun w' hw' => (unbase64_any L (by omega) w').mono fun e w2 h => by rw [hu3] at h; obtain ⟨g, c, r, h1, h2, h3⟩ := h; exact ⟨(g, c, r), h1, h2, hw'.comp (A := []) (by simp) h3⟩)) (fun y3 hk3 => ?_)
          refine ho_val rfl rfl (ex_move rfl) ?_
          refine ho_val rfl rfl (ex_extract rfl rfl) ?_
          refine ho_val rfl rfl (ex_extract rfl rfl) ?_
          refine ho_val rfl rfl (ex_extract rfl rfl) ?_
          refine ho_val rfl rfl (ex_assign rfl) ?_
          refine ho_val rfl rfl (ex_assign rfl) ?_
          refine ho_nil ?_
          refine hk_then_code ?_
          refine hl_seq ?_
          refine hl_seq ?_
          skip
          refine hl_region ?_
          refine ho_val rfl rfl (ex_move rfl) ?_
          refine ho_val rfl rfl (ex_eql rfl rfl rfl) ?_
          refine ho_val rfl rfl (ex_move rfl) ?_
          refine ho_want rfl rfl rfl rfl rfl (ex_move rfl) ?_
          refine ho_do_want rfl rfl rfl rfl rfl (exw_call_pure Try.func14 rfl (by kernel_rfl) rfl (fun w' hw' => base64_any b3 b3.length rfl (some ⟨y3.1, 0, none⟩) y3.2.1 (fun h => nomatch h) (fun h => nomatch h) hk3.le (by have := un64_le hu3; omega) w' (Sl.own hw' 0 rfl rfl (vrow_own _ _)))) (fun _ _ => ?_)
          refine ho_want rfl rfl rfl rfl rfl (ex_move rfl) ?_
          refine ho_want rfl rfl rfl rfl rfl (ex_neq_str (b := false) rfl rfl (neq_false_of_eq (b64_canon hu3))) ?_
          refine ho_val rfl rfl (ex_pick_true rfl rfl) ?_
          refine ho_nil ?_
          refine hk_then_code ?_
          refine hl_false rfl ?_
          refine hl_skip ?_
          refine hk_then_code ?_
          refine hl_seq ?_
          rcases hr : rdOf L with ⟨l, fm⟩ | ⟨e, p⟩
          · have hl32 := (rd_canon hr).1
            refine hl_region ?_
            refine ho_val rfl rfl (ex_move rfl) ?_
            refine ho_do rfl rfl (exw_call_pure (v := .tuple #[.agg (vbs l), .int .i64 (fm : Int), .int .i64 0, .int .i64 0]) Try.func26 rfl (by kernel_rfl) rfl (fun w' hw' => by have h := read_any L (by omega) w'; rw [hr] at h; exact h)) (fun _ _ => ?_)
            refine ho_val rfl rfl (ex_move rfl) ?_
            refine ho_val rfl rfl (ex_extract rfl rfl) ?_
            refine ho_val rfl rfl (ex_extract rfl rfl) ?_
            refine ho_val rfl rfl (ex_extract rfl rfl) ?_
            refine ho_val rfl rfl (ex_extract rfl rfl) ?_
            refine ho_do rfl rfl (exw_store_row3 rfl rfl (by rw [size23]; simp [vbs_size, hl32]) (by simp [vbs_size, hy, hl32]) (vbs_one _)) (fun _ _ => ?_)
            refine ho_val rfl rfl (ex_assign rfl) ?_
            refine ho_val rfl rfl (ex_assign rfl) ?_
            refine ho_nil ?_
            refine hk_then_code ?_
            refine hl_seq ?_
            refine hl_region ?_
            refine ho_val rfl rfl (ex_move rfl) ?_
            refine ho_val rfl rfl (ex_neq rfl rfl rfl) ?_
            refine ho_val rfl rfl (ex_move rfl) ?_
            refine ho_want rfl rfl rfl rfl rfl (ex_load_row rfl 3 rfl rfl Try.underlying23 rfl (by rw [show _ = _ from size23]; simp [vbs_size, vws_size, *])) ?_
            refine ho_want rfl rfl rfl rfl rfl (ex_move rfl) ?_
            refine ho_do_want rfl rfl rfl rfl rfl (exw_call_pure Try.func16 rfl (by kernel_rfl) rfl (fun w' hw' => show_any l hl32 fm w')) (fun _ _ => ?_)
            refine ho_want rfl rfl rfl rfl rfl (ex_move rfl) ?_
            refine ho_want rfl rfl rfl rfl rfl (ex_eql_str (b := true) rfl rfl (eql_true_of_eq (rd_canon hr).2)) ?_
            refine ho_val rfl rfl (ex_pick_false rfl rfl) ?_
            refine ho_val rfl rfl (ex_assign rfl) ?_
            refine ho_nil ?_
            refine hk_then_code ?_
            refine hl_ret ?_
            exact hk_ret rfl rfl (fun w' hw' => ⟨rfl, hw'.below⟩)
          · skip
            refine hl_region ?_
            refine ho_val rfl rfl (ex_move rfl) ?_
            refine ho_do rfl rfl (exw_call_pure (v := .tuple #[.agg (vbs (List.replicate 32 0)), .int .i64 0, .int .i64 (e : Int), .int .i64 (p : Int)]) Try.func26 rfl (by kernel_rfl) rfl (fun w' hw' => by have h := read_any L (by omega) w'; rw [hr] at h; exact h)) (fun _ _ => ?_)
            refine ho_val rfl rfl (ex_move rfl) ?_
            refine ho_val rfl rfl (ex_extract rfl rfl) ?_
            refine ho_val rfl rfl (ex_extract rfl rfl) ?_
            refine ho_val rfl rfl (ex_extract rfl rfl) ?_
            refine ho_val rfl rfl (ex_extract rfl rfl) ?_
            refine ho_do rfl rfl (exw_store_row3 rfl rfl (by rw [size23]; simp [vbs_size, hy]) (by simp [vbs_size, hy]) (vbs_one _)) (fun _ _ => ?_)
            refine ho_val rfl rfl (ex_assign rfl) ?_
            refine ho_val rfl rfl (ex_assign rfl) ?_
            refine ho_nil ?_
            refine hk_then_code ?_
            refine hl_seq ?_
            refine hl_region ?_
            refine ho_val rfl rfl (ex_move rfl) ?_
            refine ho_val rfl rfl (ex_neq (b := true) rfl rfl (bne_iff_ne.2 (by have := rd_err hr; omega))) ?_
            refine ho_val rfl rfl (ex_move rfl) ?_
            refine ho_skip rfl rfl rfl rfl rfl rfl ?_
            refine ho_skip rfl rfl rfl rfl rfl rfl ?_
            refine ho_skip rfl rfl rfl rfl rfl rfl ?_
            refine ho_skip rfl rfl rfl rfl rfl rfl ?_
            refine ho_skip rfl rfl rfl rfl rfl rfl ?_
            refine ho_val rfl rfl (ex_pick_true rfl rfl) ?_
            refine ho_val rfl rfl (ex_assign rfl) ?_
            refine ho_nil ?_
            refine hk_then_code ?_
            refine hl_ret ?_
            exact hk_ret rfl rfl (fun w' hw' => ⟨rfl, hw'.below⟩)
        · refine hl_region ?_
          refine ho_val rfl rfl (ex_move rfl) ?_
          refine ho_do rfl rfl (exw_call_pure (v := .tuple #[.slice none 0 0, .int .i64 (e3 : Int), .int .i64 (p3 : Int)]) Try.func22 rfl (by kernel_rfl) rfl (fun w' hw' => by have h := unbase64_any L (by omega) w'; rw [hu3] at h; exact h)) (fun _ _ => ?_)
          refine ho_val rfl rfl (ex_move rfl) ?_
          refine ho_val rfl rfl (ex_extract rfl rfl) ?_
          refine ho_val rfl rfl (ex_extract rfl rfl) ?_
          refine ho_val rfl rfl (ex_extract rfl rfl) ?_
          refine ho_val rfl rfl (ex_assign rfl) ?_
          refine ho_val rfl rfl (ex_assign rfl) ?_
          refine ho_nil ?_
          refine hk_then_code ?_
          refine hl_seq ?_
          refine hl_seq ?_
          skip
          refine hl_region ?_
          refine ho_val rfl rfl (ex_move rfl) ?_
          refine ho_val rfl rfl (ex_eql (b := false) rfl rfl (beq_false_of_ne (by have := (un64_err hu3).1; omega))) ?_
          refine ho_val rfl rfl (ex_move rfl) ?_
          refine ho_skip rfl rfl rfl rfl rfl rfl ?_
          refine ho_skip rfl rfl rfl rfl rfl rfl ?_
          refine ho_skip rfl rfl rfl rfl rfl rfl ?_
          refine ho_skip rfl rfl rfl rfl rfl rfl ?_
          refine ho_val rfl rfl (ex_pick_false rfl rfl) ?_
          refine ho_nil ?_
          refine hk_then_code ?_
          refine hl_false rfl ?_
          refine hl_skip ?_
          refine hk_then_code ?_
          refine hl_seq ?_
          rcases hr : rdOf L with ⟨l, fm⟩ | ⟨e, p⟩
          · have hl32 := (rd_canon hr).1
            refine hl_region ?_
            refine ho_val rfl rfl (ex_move rfl) ?_
            refine ho_do rfl rfl (exw_call_pure (v := .tuple #[.agg (vbs l), .int .i64 (fm : Int), .int .i64 0, .int .i64 0]) Try.func26 rfl (by kernel_rfl) rfl (fun w' hw' => by have h := read_any L (by omega) w'; rw [hr] at h; exact h)) (fun _ _ => ?_)
            refine ho_val rfl rfl (ex_move rfl) ?_
            refine ho_val rfl rfl (ex_extract rfl rfl) ?_
            refine ho_val rfl rfl (ex_extract rfl rfl) ?_
            refine ho_val rfl rfl (ex_extract rfl rfl) ?_
            refine ho_val rfl rfl (ex_extract rfl rfl) ?_
            refine ho_do rfl rfl (exw_store_row2 rfl rfl (by rw [size23]; simp [vbs_size, hl32]) (by simp [vbs_size, hy, hl32]) (vbs_one _)) (fun _ _ => ?_)
            refine ho_val rfl rfl (ex_assign rfl) ?_
            refine ho_val rfl rfl (ex_assign rfl) ?_
            refine ho_nil ?_
            refine hk_then_code ?_
            refine hl_seq ?_
            refine hl_region ?_
            refine ho_val rfl rfl (ex_move rfl) ?_
            refine ho_val rfl rfl (ex_neq rfl rfl rfl) ?_
            refine ho_val rfl rfl (ex_move rfl) ?_
            refine ho_want rfl rfl rfl rfl rfl (ex_load_row rfl 2 rfl rfl Try.underlying23 rfl (by rw [show _ = _ from size23]; simp [vbs_size, vws_size, *])) ?_
            refine ho_want rfl rfl rfl rfl rfl (ex_move rfl) ?_
            refine ho_do_want rfl rfl rfl rfl rfl (exw_call_pure Try.func16 rfl (by kernel_rfl) rfl (fun w' hw' => show_any l hl32 fm w')) (fun _ _ => ?_)
            refine ho_want rfl rfl rfl rfl rfl (ex_move rfl) ?_
            refine ho_want rfl rfl rfl rfl rfl (ex_eql_str (b := true) rfl rfl (eql_true_of_eq (rd_canon hr).2)) ?_
            refine ho_val rfl rfl (ex_pick_false rfl rfl) ?_
            refine ho_val rfl rfl (ex_assign rfl) ?_
            refine ho_nil ?_
            refine hk_then_code ?_
            refine hl_ret ?_
            exact hk_ret rfl rfl (fun w' hw' => ⟨rfl, hw'.below⟩)
          · skip
            refine hl_region ?_
            refine ho_val rfl rfl (ex_move rfl) ?_
            refine ho_do rfl rfl (exw_call_pure (v := .tuple #[.agg (vbs (List.replicate 32 0)), .int .i64 0, .int .i64 (e : Int), .int .i64 (p : Int)]) Try.func26 rfl (by kernel_rfl) rfl (fun w' hw' => by have h := read_any L (by omega) w'; rw [hr] at h; exact h)) (fun _ _ => ?_)
            refine ho_val rfl rfl (ex_move rfl) ?_
            refine ho_val rfl rfl (ex_extract rfl rfl) ?_
            refine ho_val rfl rfl (ex_extract rfl rfl) ?_
            refine ho_val rfl rfl (ex_extract rfl rfl) ?_
            refine ho_val rfl rfl (ex_extract rfl rfl) ?_
            refine ho_do rfl rfl (exw_store_row2 rfl rfl (by rw [size23]; simp [vbs_size, hy]) (by simp [vbs_size, hy]) (vbs_one _)) (fun _ _ => ?_)
            refine ho_val rfl rfl (ex_assign rfl) ?_
            refine ho_val rfl rfl (ex_assign rfl) ?_
            refine ho_nil ?_
            refine hk_then_code ?_
            refine hl_seq ?_
            refine hl_region ?_
            refine ho_val rfl rfl (ex_move rfl) ?_
            refine ho_val rfl rfl (ex_neq (b := true) rfl rfl (bne_iff_ne.2 (by have := rd_err hr; omega))) ?_
            refine ho_val rfl rfl (ex_move rfl) ?_
            refine ho_skip rfl rfl rfl rfl rfl rfl ?_
            refine ho_skip rfl rfl rfl rfl rfl rfl ?_
            refine ho_skip rfl rfl rfl rfl rfl rfl ?_
            refine ho_skip rfl rfl rfl rfl rfl rfl ?_
            refine ho_skip rfl rfl rfl rfl rfl rfl ?_
            refine ho_val rfl rfl (ex_pick_true rfl rfl) ?_
            refine ho_val rfl rfl (ex_assign rfl) ?_
            refine ho_nil ?_
            refine hk_then_code ?_
            refine hl_ret ?_
            exact hk_ret rfl rfl (fun w' hw' => ⟨rfl, hw'.below⟩)
      · refine hl_region ?_
        refine ho_val rfl rfl (ex_move rfl) ?_
        refine ho_do rfl rfl (exw_call_pure (v := .tuple #[.slice none 0 0, .int .i64 (e2 : Int), .int .i64 (p2 : Int)]) Try.func21 rfl (by kernel_rfl) rfl (fun w' hw' => by have h := unbase32_any L (by omega) w'; rw [hu2] at h; exact h)) (fun _ _ => ?_)
        refine ho_val rfl rfl (ex_move rfl) ?_
        refine ho_val rfl rfl (ex_extract rfl rfl) ?_
        refine ho_val rfl rfl (ex_extract rfl rfl) ?_
        refine ho_val rfl rfl (ex_extract rfl rfl) ?_
        refine ho_val rfl rfl (ex_assign rfl) ?_
        refine ho_val rfl rfl (ex_assign rfl) ?_
        refine ho_nil ?_
        refine hk_then_code ?_
        refine hl_seq ?_
        refine hl_seq ?_
        skip
        refine hl_region ?_
        refine ho_val rfl rfl (ex_move rfl) ?_
        refine ho_val rfl rfl (ex_eql (b := false) rfl rfl (beq_false_of_ne (by have := (un32_err hu2).1; omega))) ?_
        refine ho_val rfl rfl (ex_move rfl) ?_
        refine ho_skip rfl rfl rfl rfl rfl rfl ?_
        refine ho_skip rfl rfl rfl rfl rfl rfl ?_
        refine ho_skip rfl rfl rfl rfl rfl rfl ?_
        refine ho_skip rfl rfl rfl rfl rfl rfl ?_
        refine ho_val rfl rfl (ex_pick_false rfl rfl) ?_
        refine ho_nil ?_
        refine hk_then_code ?_
        refine hl_false rfl ?_
        refine hl_skip ?_
        refine hk_then_code ?_
        refine hl_seq ?_
        rcases hu3 : un64 L with b3 | ⟨e3, p3⟩
        · refine hl_region ?_
          refine ho_val rfl rfl (ex_move rfl) ?_
          refine ho_do rfl rfl (exw_call Try.func22 rfl (by kernel_rfl) rfl (val := fun q : Nat × Nat × List Value => .tuple #[slv (some ⟨q.1, 0, none⟩) b3.length q.2.1, .int .i64 0, .int .i64 0]) (hs' := fun q => ⟨some q.1, vrow b3 q.2.2, 5, (0, 0)⟩ :: _) (pre := fun q => RowOk 1 (some q.1) b3.length q.2.1 (b3.map vb) q.2.2) (fun w' hw' => (unbase64_any L (by omega) w').mono fun e w2 h => by rw [hu3] at h; obtain ⟨g, c, r, h1, h2, h3⟩ := h; exact ⟨(g, c, r), h1, h2, hw'.comp (A := []) (by simp) h3⟩)) (fun y3 hk3 => ?_)
          refine ho_val rfl rfl (ex_move rfl) ?_
          refine ho_val rfl rfl (ex_extract rfl rfl) ?_
          refine ho_val rfl rfl (ex_extract rfl rfl) ?_
          refine ho_val rfl rfl (ex_extract rfl rfl) ?_
          refine ho_val rfl rfl (ex_assign rfl) ?_
          refine ho_val rfl rfl (ex_assign rfl) ?_
          refine ho_nil ?_
          refine hk_then_code ?_
          refine hl_seq ?_
          refine hl_seq ?_
          skip
          refine hl_region ?_
          refine ho_val rfl rfl (ex_move rfl) ?_
          refine ho_val rfl rfl (ex_eql rfl rfl rfl) ?_
          refine ho_val rfl rfl (ex_move rfl) ?_
          refine ho_want rfl rfl rfl rfl rfl (ex_move rfl) ?_
          refine ho_do_want rfl rfl rfl rfl rfl (exw_call_pure Try.func14 rfl (by kernel_rfl) rfl (fun w' hw' => base64_any b3 b3.length rfl (some ⟨y3.1, 0, none⟩) y3.2.1 (fun h => nomatch h) (fun h => nomatch h) hk3.le (by have := un64_le hu3; omega) w' (Sl.own hw' 0 rfl rfl (vrow_own _ _)))) (fun _ _ => ?_)
          refine ho_want rfl rfl rfl rfl rfl (ex_move rfl) ?_
          refine ho_want rfl rfl rfl rfl rfl (ex_neq_str (b := false) rfl rfl (neq_false_of_eq (b64_canon hu3))) ?_
          refine ho_val rfl rfl (ex_pick_true rfl rfl) ?_
          refine ho_nil ?_
          refine hk_then_code ?_
          refine hl_false rfl ?_
          refine hl_skip ?_
          refine hk_then_code ?_
          refine hl_seq ?_
          rcases hr : rdOf L with ⟨l, fm⟩ | ⟨e, p⟩
          · have hl32 := (rd_canon hr).1
            refine hl_region ?_
            refine ho_val rfl rfl (ex_move rfl) ?_
            refine ho_do rfl rfl (exw_call_pure (v := .tuple #[.agg (vbs l), .int .i64 (fm : Int), .int .i64 0, .int .i64 0]) Try.func26 rfl (by kernel_rfl) rfl (fun w' hw' => by have h := read_any L (by omega) w'; rw [hr] at h; exact h)) (fun _ _ => ?_)
            refine ho_val rfl rfl (ex_move rfl) ?_
            refine ho_val rfl rfl (ex_extract rfl rfl) ?_
            refine ho_val rfl rfl (ex_extract rfl rfl) ?_
            refine ho_val rfl rfl (ex_extract rfl rfl) ?_
            refine ho_val rfl rfl (ex_extract rfl rfl) ?_
            refine ho_do rfl rfl (exw_store_row2 rfl rfl (by rw [size23]; simp [vbs_size, hl32]) (by simp [vbs_size, hy, hl32]) (vbs_one _)) (fun _ _ => ?_)
            refine ho_val rfl rfl (ex_assign rfl) ?_
            refine ho_val rfl rfl (ex_assign rfl) ?_
            refine ho_nil ?_
            refine hk_then_code ?_
            refine hl_seq ?_
            refine hl_region ?_
            refine ho_val rfl rfl (ex_move rfl) ?_
            refine ho_val rfl rfl (ex_neq rfl rfl rfl) ?_
            refine ho_val rfl rfl (ex_move rfl) ?_
            refine ho_want rfl rfl rfl rfl rfl (ex_load_row rfl 2 rfl rfl Try.underlying23 rfl (by rw [show _ = _ from size23]; simp [vbs_size, vws_size, *])) ?_
            refine ho_want rfl rfl rfl rfl rfl (ex_move rfl) ?_
            refine ho_do_want rfl rfl rfl rfl rfl (exw_call_pure Try.func16 rfl (by kernel_rfl) rfl (fun w' hw' => show_any l hl32 fm w')) (fun _ _ => ?_)
            refine ho_want rfl rfl rfl rfl rfl (ex_move rfl) ?_
            refine ho_want rfl rfl rfl rfl rfl (ex_eql_str (b := true) rfl rfl (eql_true_of_eq (rd_canon hr).2)) ?_
            refine ho_val rfl rfl (ex_pick_false rfl rfl) ?_
            refine ho_val rfl rfl (ex_assign rfl) ?_
            refine ho_nil ?_
            refine hk_then_code ?_
            refine hl_ret ?_
            exact hk_ret rfl rfl (fun w' hw' => ⟨rfl, hw'.below⟩)
          · skip
            refine hl_region ?_
            refine ho_val rfl rfl (ex_move rfl) ?_
            refine ho_do rfl rfl (exw_call_pure (v := .tuple #[.agg (vbs (List.replicate 32 0)), .int .i64 0, .int .i64 (e : Int), .int .i64 (p : Int)]) Try.func26 rfl (by kernel_rfl) rfl (fun w' hw' => by have h := read_any L (by omega) w'; rw [hr] at h; exact h)) (fun _ _ => ?_)
            refine ho_val rfl rfl (ex_move rfl) ?_
            refine ho_val rfl rfl (ex_extract rfl rfl) ?_
            refine ho_val rfl rfl (ex_extract rfl rfl) ?_
            refine ho_val rfl rfl (ex_extract rfl rfl) ?_
            refine ho_val rfl rfl (ex_extract rfl rfl) ?_
            refine ho_do rfl rfl (exw_store_row2 rfl rfl (by rw [size23]; simp [vbs_size, hy]) (by simp [vbs_size, hy]) (vbs_one _)) (fun _ _ => ?_)
            refine ho_val rfl rfl (ex_assign rfl) ?_
            refine ho_val rfl rfl (ex_assign rfl) ?_
            refine ho_nil ?_
            refine hk_then_code ?_
            refine hl_seq ?_
            refine hl_region ?_
            refine ho_val rfl rfl (ex_move rfl) ?_
            refine ho_val rfl rfl (ex_neq (b := true) rfl rfl (bne_iff_ne.2 (by have := rd_err hr; omega))) ?_
            refine ho_val rfl rfl (ex_move rfl) ?_
            refine ho_skip rfl rfl rfl rfl rfl rfl ?_
            refine ho_skip rfl rfl rfl rfl rfl rfl ?_
            refine ho_skip rfl rfl rfl rfl rfl rfl ?_
            refine ho_skip rfl rfl rfl rfl rfl rfl ?_
            refine ho_skip rfl rfl rfl rfl rfl rfl ?_
            refine ho_val rfl rfl (ex_pick_true rfl rfl) ?_
            refine ho_val rfl rfl (ex_assign rfl) ?_
            refine ho_nil ?_
            refine hk_then_code ?_
            refine hl_ret ?_
            exact hk_ret rfl rfl (fun w' hw' => ⟨rfl, hw'.below⟩)
        · refine hl_region ?_
          refine ho_val rfl rfl (ex_move rfl) ?_
          refine ho_do rfl rfl (exw_call_pure (v := .tuple #[.slice none 0 0, .int .i64 (e3 : Int), .int .i64 (p3 : Int)]) Try.func22 rfl (by kernel_rfl) rfl (fun w' hw' => by have h := unbase64_any L (by omega) w'; rw [hu3] at h; exact h)) (fun _ _ => ?_)
          refine ho_val rfl rfl (ex_move rfl) ?_
          refine ho_val rfl rfl (ex_extract rfl rfl) ?_
          refine ho_val rfl rfl (ex_extract rfl rfl) ?_
          refine ho_val rfl rfl (ex_extract rfl rfl) ?_
          refine ho_val rfl rfl (ex_assign rfl) ?_
          refine ho_val rfl rfl (ex_assign rfl) ?_
          refine ho_nil ?_
          refine hk_then_code ?_
          refine hl_seq ?_
          refine hl_seq ?_
          skip
          refine hl_region ?_
          refine ho_val rfl rfl (ex_move rfl) ?_
          refine ho_val rfl rfl (ex_eql (b := false) rfl rfl (beq_false_of_ne (by have := (un64_err hu3).1; omega))) ?_
          refine ho_val rfl rfl (ex_move rfl) ?_
          refine ho_skip rfl rfl rfl rfl rfl rfl ?_
          refine ho_skip rfl rfl rfl rfl rfl rfl ?_
          refine ho_skip rfl rfl rfl rfl rfl rfl ?_
          refine ho_skip rfl rfl rfl rfl rfl rfl ?_
          refine ho_val rfl rfl (ex_pick_false rfl rfl) ?_
          refine ho_nil ?_
          refine hk_then_code ?_
          refine hl_false rfl ?_
          refine hl_skip ?_
          refine hk_then_code ?_
          refine hl_seq ?_
          rcases hr : rdOf L with ⟨l, fm⟩ | ⟨e, p⟩
          · have hl32 := (rd_canon hr).1
            refine hl_region ?_
            refine ho_val rfl rfl (ex_move rfl) ?_
            refine ho_do rfl rfl (exw_call_pure (v := .tuple #[.agg (vbs l), .int .i64 (fm : Int), .int .i64 0, .int .i64 0]) Try.func26 rfl (by kernel_rfl) rfl (fun w' hw' => by have h := read_any L (by omega) w'; rw [hr] at h; exact h)) (fun _ _ => ?_)
            refine ho_val rfl rfl (ex_move rfl) ?_
            refine ho_val rfl rfl (ex_extract rfl rfl) ?_
            refine ho_val rfl rfl (ex_extract rfl rfl) ?_
            refine ho_val rfl rfl (ex_extract rfl rfl) ?_
            refine ho_val rfl rfl (ex_extract rfl rfl) ?_
            refine ho_do rfl rfl (exw_store_row1 rfl rfl (by rw [size23]; simp [vbs_size, hl32]) (by simp [vbs_size, hy, hl32]) (vbs_one _)) (fun _ _ => ?_)
            refine ho_val rfl rfl (ex_assign rfl) ?_
            refine ho_val rfl rfl (ex_assign rfl) ?_
            refine ho_nil ?_
            refine hk_then_code ?_
            refine hl_seq ?_
            refine hl_region ?_
            refine ho_val rfl rfl (ex_move rfl) ?_
            refine ho_val rfl rfl (ex_neq rfl rfl rfl) ?_
            refine ho_val rfl rfl (ex_move rfl) ?_
            refine ho_want rfl rfl rfl rfl rfl (ex_load_row rfl 1 rfl rfl Try.underlying23 rfl (by rw [show _ = _ from size23]; simp [vbs_size, vws_size, *])) ?_
            refine ho_want rfl rfl rfl rfl rfl (ex_move rfl) ?_
            refine ho_do_want rfl rfl rfl rfl rfl (exw_call_pure Try.func16 rfl (by kernel_rfl) rfl (fun w' hw' => show_any l hl32 fm w')) (fun _ _ => ?_)
            refine ho_want rfl rfl rfl rfl rfl (ex_move rfl) ?_
            refine ho_want rfl rfl rfl rfl rfl (ex_eql_str (b := true) rfl rfl (eql_true_of_eq (rd_canon hr).2)) ?_
            refine ho_val rfl rfl (ex_pick_false rfl rfl) ?_
            refine ho_val rfl rfl (ex_assign rfl) ?_
            refine ho_nil ?_
            refine hk_then_code ?_
            refine hl_ret ?_
            exact hk_ret rfl rfl (fun w' hw' => ⟨rfl, hw'.below⟩)
          · skip
            refine hl_region ?_
            refine ho_val rfl rfl (ex_move rfl) ?_
            refine ho_do rfl rfl (exw_call_pure (v := .tuple #[.agg (vbs (List.replicate 32 0)), .int .i64 0, .int .i64 (e : Int), .int .i64 (p : Int)]) Try.func26 rfl (by kernel_rfl) rfl (fun w' hw' => by have h := read_any L (by omega) w'; rw [hr] at h; exact h)) (fun _ _ => ?_)
            refine ho_val rfl rfl (ex_move rfl) ?_
            refine ho_val rfl rfl (ex_extract rfl rfl) ?_
            refine ho_val rfl rfl (ex_extract rfl rfl) ?_
            refine ho_val rfl rfl (ex_extract rfl rfl) ?_
            refine ho_val rfl rfl (ex_extract rfl rfl) ?_
            refine ho_do rfl rfl (exw_store_row1 rfl rfl (by rw [size23]; simp [vbs_size, hy]) (by simp [vbs_size, hy]) (vbs_one _)) (fun _ _ => ?_)
            refine ho_val rfl rfl (ex_assign rfl) ?_
            refine ho_val rfl rfl (ex_assign rfl) ?_
            refine ho_nil ?_
            refine hk_then_code ?_
            refine hl_seq ?_
            refine hl_region ?_
            refine ho_val rfl rfl (ex_move rfl) ?_
            refine ho_val rfl rfl (ex_neq (b := true) rfl rfl (bne_iff_ne.2 (by have := rd_err hr; omega))) ?_
            refine ho_val rfl rfl (ex_move rfl) ?_
            refine ho_skip rfl rfl rfl rfl rfl rfl ?_
            refine ho_skip rfl rfl rfl rfl rfl rfl ?_
            refine ho_skip rfl rfl rfl rfl rfl rfl ?_
            refine ho_skip rfl rfl rfl rfl rfl rfl ?_
            refine ho_skip rfl rfl rfl rfl rfl rfl ?_
            refine ho_val rfl rfl (ex_pick_true rfl rfl) ?_
            refine ho_val rfl rfl (ex_assign rfl) ?_
            refine ho_nil ?_
            refine hk_then_code ?_
            refine hl_ret ?_
            exact hk_ret rfl rfl (fun w' hw' => ⟨rfl, hw'.below⟩)
    · refine hl_region ?_
      refine ho_val rfl rfl (ex_move rfl) ?_
      refine ho_do rfl rfl (exw_call_pure (v := .tuple #[.slice none 0 0, .int .i64 (e1 : Int), .int .i64 (p1 : Int)]) Try.func20 rfl (by kernel_rfl) rfl (fun w' hw' => by have h := unhex_any L (by omega) w'; rw [hu1] at h; exact h)) (fun _ _ => ?_)
      refine ho_val rfl rfl (ex_move rfl) ?_
      refine ho_val rfl rfl (ex_extract rfl rfl) ?_
      refine ho_val rfl rfl (ex_extract rfl rfl) ?_
      refine ho_val rfl rfl (ex_extract rfl rfl) ?_
      refine ho_val rfl rfl (ex_assign rfl) ?_
      refine ho_val rfl rfl (ex_assign rfl) ?_
      refine ho_val rfl rfl (ex_assign rfl) ?_
      refine ho_nil ?_
      refine hk_then_code ?_
      refine hl_seq ?_
      refine hl_seq ?_
      skip
      refine hl_region ?_
      refine ho_val rfl rfl (ex_move rfl) ?_
      refine ho_val rfl rfl (ex_eql (b := false) rfl rfl (beq_false_of_ne (by have := (un16_err hu1).1; omega))) ?_
      refine ho_val rfl rfl (ex_move rfl) ?_
      refine ho_skip rfl rfl rfl rfl rfl rfl ?_
      refine ho_skip rfl rfl rfl rfl rfl rfl ?_
      refine ho_skip rfl rfl rfl rfl rfl rfl ?_
      refine ho_skip rfl rfl rfl rfl rfl rfl ?_
      refine ho_val rfl rfl (ex_pick_false rfl rfl) ?_
      refine ho_nil ?_
      refine hk_then_code ?_
      refine hl_false rfl ?_
      refine hl_skip ?_
      refine hk_then_code ?_
      refine hl_seq ?_
      rcases hu2 : un32 L with b2 | ⟨e2, p2⟩
      · refine hl_region ?_
        refine ho_val rfl rfl (ex_move rfl) ?_
        refine ho_do rfl rfl (exw_call Try.func21 rfl (by kernel_rfl) rfl (val := fun q : Nat × Nat × List Value => .tuple #[slv (some ⟨q.1, 0, none⟩) b2.length q.2.1, .int .i64 0, .int .i64 0]) (hs' := fun q => ⟨some q.1, vrow b2 q.2.2, 5, (0, 0)⟩ :: _) (pre := fun q => RowOk 1 (some q.1) b2.length q.2.1 (b2.map vb) q.2.2) (fun w' hw' => (unbase32_any L (by omega) w').mono fun e w2 h => by rw [hu2] at h; obtain ⟨g, c, r, h1, h2, h3⟩ := h; exact ⟨(g, c, r), h1, h2, hw'.comp (A := []) (by simp) h3⟩)) (fun y2 hk2 => ?_)
        refine ho_val rfl rfl (ex_move rfl) ?_
        refine ho_val rfl rfl (ex_extract rfl rfl) ?_
        refine ho_val rfl rfl (ex_extract rfl rfl) ?_
        refine ho_val rfl rfl (ex_extract rfl rfl) ?_
        refine ho_val rfl rfl (ex_assign rfl) ?_
        refine ho_val rfl rfl (ex_assign rfl) ?_
        refine ho_nil ?_
        refine hk_then_code ?_
        refine hl_seq ?_
        refine hl_seq ?_
        skip
        refine hl_region ?_
        refine ho_val rfl rfl (ex_move rfl) ?_
        refine ho_val rfl rfl (ex_eql rfl rfl rfl) ?_
        refine ho_val rfl rfl (ex_move rfl) ?_
        refine ho_want rfl rfl rfl rfl rfl (ex_move rfl) ?_
        refine ho_do_want rfl rfl rfl rfl rfl (exw_call_pure Try.func12 rfl (by kernel_rfl) rfl (fun w' hw' => base32_any b2 b2.length rfl (some ⟨y2.1, 0, none⟩) y2.2.1 (fun h => nomatch h) (by have := un32_le hu2; omega) w' (Sl.own hw' 0 rfl rfl (vrow_own _ _)))) (fun _ _ => ?_)
        refine ho_want rfl rfl rfl rfl rfl (ex_move rfl) ?_
        refine ho_want rfl rfl rfl rfl rfl (ex_neq_str (b := false) rfl rfl (neq_false_of_eq (b32_canon hu2))) ?_
        refine ho_val rfl rfl (ex_pick_true rfl rfl) ?_
        refine ho_nil ?_
        refine hk_then_code ?_
        refine hl_false rfl ?_
        refine hl_skip ?_
        refine hk_then_code ?_
        refine hl_seq ?_
        rcases hu3 : un64 L with b3 | ⟨e3, p3⟩
        · refine hl_region ?_
          refine ho_val rfl rfl (ex_move rfl) ?_
          refine ho_do rfl rfl (exw_call Try.func22 rfl (by kernel_rfl) rfl (val := fun q : Nat × Nat × List Value => .tuple #[slv (some ⟨q.1, 0, none⟩) b3.length q.2.1, .int .i64 0, .int .i64 0]) (hs' := fun q => ⟨some q.1, vrow b3 q.2.2, 5, (0, 0)⟩ :: _) (pre := fun q => RowOk 1 (some q.1) b3.length q.2.1 (b3.map vb) q.2.2) (fun w' hw' => (unbase64_any L (by omega) w').mono fun e w2 h => by rw [hu3] at h; obtain ⟨g, c, r, h1, h2, h3⟩ := h; exact ⟨(g, c, r), h1, h2, hw'.comp (A := []) (by simp) h3⟩)) (fun y3 hk3 => ?_)
          refine ho_val rfl rfl (ex_move rfl) ?_
          refine ho_val rfl rfl (ex_extract rfl rfl) ?_
          refine ho_val rfl rfl (ex_extract rfl rfl) ?_
          refine ho_val rfl rfl (ex_extract rfl rfl) ?_
          refine ho_val rfl rfl (ex_assign rfl) ?_
          refine ho_val rfl rfl (ex_assign rfl) ?_
          refine ho_nil ?_
          refine hk_then_code ?_
          refine hl_seq ?_
          refine hl_seq ?_
          skip
          refine hl_region ?_
          refine ho_val rfl rfl (ex_move rfl) ?_
          refine ho_val rfl rfl (ex_eql rfl rfl rfl) ?_
          refine ho_val rfl rfl (ex_move rfl) ?_
          refine ho_want rfl rfl rfl rfl rfl (ex_move rfl) ?_
          refine ho_do_want rfl rfl rfl rfl rfl (exw_call_pure Try.func14 rfl (by kernel_rfl) rfl (fun w' hw' => base64_any b3 b3.length rfl (some ⟨y3.1, 0, none⟩) y3.2.1 (fun h => nomatch h) (fun h => nomatch h) hk3.le (by have := un64_le hu3; omega) w' (Sl.own hw' 0 rfl rfl (vrow_own _ _)))) (fun _ _ => ?_)
          refine ho_want rfl rfl rfl rfl rfl (ex_move rfl) ?_
          refine ho_want rfl rfl rfl rfl rfl (ex_neq_str (b := false) rfl rfl (neq_false_of_eq (b64_canon hu3))) ?_
          refine ho_val rfl rfl (ex_pick_true rfl rfl) ?_
          refine ho_nil ?_
          refine hk_then_code ?_
          refine hl_false rfl ?_
          refine hl_skip ?_
          refine hk_then_code ?_
          refine hl_seq ?_
          rcases hr : rdOf L with ⟨l, fm⟩ | ⟨e, p⟩
          · have hl32 := (rd_canon hr).1
            refine hl_region ?_
            refine ho_val rfl rfl (ex_move rfl) ?_
            refine ho_do rfl rfl (exw_call_pure (v := .tuple #[.agg (vbs l), .int .i64 (fm : Int), .int .i64 0, .int .i64 0]) Try.func26 rfl (by kernel_rfl) rfl (fun w' hw' => by have h := read_any L (by omega) w'; rw [hr] at h; exact h)) (fun _ _ => ?_)
            refine ho_val rfl rfl (ex_move rfl) ?_
            refine ho_val rfl rfl (ex_extract rfl rfl) ?_
            refine ho_val rfl rfl (ex_extract rfl rfl) ?_
            refine ho_val rfl rfl (ex_extract rfl rfl) ?_
            refine ho_val rfl rfl (ex_extract rfl rfl) ?_
            refine ho_do rfl rfl (exw_store_row2 rfl rfl (by rw [size23]; simp [vbs_size, hl32]) (by simp [vbs_size, hy, hl32]) (vbs_one _)) (fun _ _ => ?_)
            refine ho_val rfl rfl (ex_assign rfl) ?_
            refine ho_val rfl rfl (ex_assign rfl) ?_
            refine ho_nil ?_
            refine hk_then_code ?_
            refine hl_seq ?_
            refine hl_region ?_
            refine ho_val rfl rfl (ex_move rfl) ?_
            refine ho_val rfl rfl (ex_neq rfl rfl rfl) ?_
            refine ho_val rfl rfl (ex_move rfl) ?_
            refine ho_want rfl rfl rfl rfl rfl (ex_load_row rfl 2 rfl rfl Try.underlying23 rfl (by rw [show _ = _ from size23]; simp [vbs_size, vws_size, *])) ?_
            refine ho_want rfl rfl rfl rfl rfl (ex_move rfl) ?_
            refine ho_do_want rfl rfl rfl rfl rfl (exw_call_pure Try.func16 rfl (by kernel_rfl) rfl (fun w' hw' => show_any l hl32 fm w')) (fun _ _ => ?_)
            refine ho_want rfl rfl rfl rfl rfl (ex_move rfl) ?_
            refine ho_want rfl rfl rfl rfl rfl (ex_eql_str (b := true) rfl rfl (eql_true_of_eq (rd_canon hr).2)) ?_
            refine ho_val rfl rfl (ex_pick_false rfl rfl) ?_
            refine ho_val rfl rfl (ex_assign rfl) ?_
            refine ho_nil ?_
            refine hk_then_code ?_
            refine hl_ret ?_
            exact hk_ret rfl rfl (fun w' hw' => ⟨rfl, hw'.below⟩)
          · skip
            refine hl_region ?_
            refine ho_val rfl rfl (ex_move rfl) ?_
            refine ho_do rfl rfl (exw_call_pure (v := .tuple #[.agg (vbs (List.replicate 32 0)), .int .i64 0, .int .i64 (e : Int), .int .i64 (p : Int)]) Try.func26 rfl (by kernel_rfl) rfl (fun w' hw' => by have h := read_any L (by omega) w'; rw [hr] at h; exact h)) (fun _ _ => ?_)
            refine ho_val rfl rfl (ex_move rfl) ?_
            refine ho_val rfl rfl (ex_extract rfl rfl) ?_
            refine ho_val rfl rfl (ex_extract rfl rfl) ?_
            refine ho_val rfl rfl (ex_extract rfl rfl) ?_
            refine ho_val rfl rfl (ex_extract rfl rfl) ?_
            refine ho_do rfl rfl (exw_store_row2 rfl rfl (by rw [size23]; simp [vbs_size, hy]) (by simp [vbs_size, hy]) (vbs_one _)) (fun _ _ => ?_)
            refine ho_val rfl rfl (ex_assign rfl) ?_
            refine ho_val rfl rfl (ex_assign rfl) ?_
            refine ho_nil ?_
            refine hk_then_code ?_
            refine hl_seq ?_
            refine hl_region ?_
            refine ho_val rfl rfl (ex_move rfl) ?_
            refine ho_val rfl rfl (ex_neq (b := true) rfl rfl (bne_iff_ne.2 (by have := rd_err hr; omega))) ?_
            refine ho_val rfl rfl (ex_move rfl) ?_
            refine ho_skip rfl rfl rfl rfl rfl rfl ?_
            refine ho_skip rfl rfl rfl rfl rfl rfl ?_
            refine ho_skip rfl rfl rfl rfl rfl rfl ?_
            refine ho_skip rfl rfl rfl rfl rfl rfl ?_
            refine ho_skip rfl rfl rfl rfl rfl rfl ?_
            refine ho_val rfl rfl (ex_pick_true rfl rfl) ?_
            refine ho_val rfl rfl (ex_assign rfl) ?_
            refine ho_nil ?_
            refine hk_then_code ?_
            refine hl_ret ?_
            exact hk_ret rfl rfl (fun w' hw' => ⟨rfl, hw'.below⟩)
        · refine hl_region ?_
          refine ho_val rfl rfl (ex_move rfl) ?_
          refine ho_do rfl rfl (exw_call_pure (v := .tuple #[.slice none 0 0, .int .i64 (e3 : Int), .int .i64 (p3 : Int)]) Try.func22 rfl (by kernel_rfl) rfl (fun w' hw' => by have h := unbase64_any L (by omega) w'; rw [hu3] at h; exact h)) (fun _ _ => ?_)
          refine ho_val rfl rfl (ex_move rfl) ?_
          refine ho_val rfl rfl (ex_extract rfl rfl) ?_
          refine ho_val rfl rfl (ex_extract rfl rfl) ?_
          refine ho_val rfl rfl (ex_extract rfl rfl) ?_
          refine ho_val rfl rfl (ex_assign rfl) ?_
          refine ho_val rfl rfl (ex_assign rfl) ?_
          refine ho_nil ?_
          refine hk_then_code ?_
          refine hl_seq ?_
          refine hl_seq ?_
          skip
          refine hl_region ?_
          refine ho_val rfl rfl (ex_move rfl) ?_
          refine ho_val rfl rfl (ex_eql (b := false) rfl rfl (beq_false_of_ne (by have := (un64_err hu3).1; omega))) ?_
          refine ho_val rfl rfl (ex_move rfl) ?_
          refine ho_skip rfl rfl rfl rfl rfl rfl ?_
          refine ho_skip rfl rfl rfl rfl rfl rfl ?_
          refine ho_skip rfl rfl rfl rfl rfl rfl ?_
          refine ho_skip rfl rfl rfl rfl rfl rfl ?_
          refine ho_val rfl rfl (ex_pick_false rfl rfl) ?_
          refine ho_nil ?_
          refine hk_then_code ?_
          refine hl_false rfl ?_
          refine hl_skip ?_
          refine hk_then_code ?_
          refine hl_seq ?_
          rcases hr : rdOf L with ⟨l, fm⟩ | ⟨e, p⟩
          · have hl32 := (rd_canon hr).1
            refine hl_region ?_
            refine ho_val rfl rfl (ex_move rfl) ?_
            refine ho_do rfl rfl (exw_call_pure (v := .tuple #[.agg (vbs l), .int .i64 (fm : Int), .int .i64 0, .int .i64 0]) Try.func26 rfl (by kernel_rfl) rfl (fun w' hw' => by have h := read_any L (by omega) w'; rw [hr] at h; exact h)) (fun _ _ => ?_)
            refine ho_val rfl rfl (ex_move rfl) ?_
            refine ho_val rfl rfl (ex_extract rfl rfl) ?_
            refine ho_val rfl rfl (ex_extract rfl rfl) ?_
            refine ho_val rfl rfl (ex_extract rfl rfl) ?_
            refine ho_val rfl rfl (ex_extract rfl rfl) ?_
            refine ho_do rfl rfl (exw_store_row1 rfl rfl (by rw [size23]; simp [vbs_size, hl32]) (by simp [vbs_size, hy, hl32]) (vbs_one _)) (fun _ _ => ?_)
            refine ho_val rfl rfl (ex_assign rfl) ?_
            refine ho_val rfl rfl (ex_assign rfl) ?_
            refine ho_nil ?_
            refine hk_then_code ?_
            refine hl_seq ?_
            refine hl_region ?_
            refine ho_val rfl rfl (ex_move rfl) ?_
            refine ho_val rfl rfl (ex_neq rfl rfl rfl) ?_
            refine ho_val rfl rfl (ex_move rfl) ?_
            refine ho_want rfl rfl rfl rfl rfl (ex_load_row rfl 1 rfl rfl Try.underlying23 rfl (by rw [show _ = _ from size23]; simp [vbs_size, vws_size, *])) ?_
            refine ho_want rfl rfl rfl rfl rfl (ex_move rfl) ?_
            refine ho_do_want rfl rfl rfl rfl rfl (exw_call_pure Try.func16 rfl (by kernel_rfl) rfl (fun w' hw' => show_any l hl32 fm w')) (fun _ _ => ?_)
            refine ho_want rfl rfl rfl rfl rfl (ex_move rfl) ?_
            refine ho_want rfl rfl rfl rfl rfl (ex_eql_str (b := true) rfl rfl (eql_true_of_eq (rd_canon hr).2)) ?_
            refine ho_val rfl rfl (ex_pick_false rfl rfl) ?_
            refine ho_val rfl rfl (ex_assign rfl) ?_
            refine ho_nil ?_
            refine hk_then_code ?_
            refine hl_ret ?_
            exact hk_ret rfl rfl (fun w' hw' => ⟨rfl, hw'.below⟩)
          · skip
            refine hl_region ?_
            refine ho_val rfl rfl (ex_move rfl) ?_
            refine ho_do rfl rfl (exw_call_pure (v := .tuple #[.agg (vbs (List.replicate 32 0)), .int .i64 0, .int .i64 (e : Int), .int .i64 (p : Int)]) Try.func26 rfl (by kernel_rfl) rfl (fun w' hw' => by have h := read_any L (by omega) w'; rw [hr] at h; exact h)) (fun _ _ => ?_)
            refine ho_val rfl rfl (ex_move rfl) ?_
            refine ho_val rfl rfl (ex_extract rfl rfl) ?_
            refine ho_val rfl rfl (ex_extract rfl rfl) ?_
            refine ho_val rfl rfl (ex_extract rfl rfl) ?_
            refine ho_val rfl rfl (ex_extract rfl rfl) ?_
            refine ho_do rfl rfl (exw_store_row1 rfl rfl (by rw [size23]; simp [vbs_size, hy]) (by simp [vbs_size, hy]) (vbs_one _)) (fun _ _ => ?_)
            refine ho_val rfl rfl (ex_assign rfl) ?_
            refine ho_val rfl rfl (ex_assign rfl) ?_
            refine ho_nil ?_
            refine hk_then_code ?_
            refine hl_seq ?_
            refine hl_region ?_
            refine ho_val rfl rfl (ex_move rfl) ?_
            refine ho_val rfl rfl (ex_neq (b := true) rfl rfl (bne_iff_ne.2 (by have := rd_err hr; omega))) ?_
            refine ho_val rfl rfl (ex_move rfl) ?_
            refine ho_skip rfl rfl rfl rfl rfl rfl ?_
            refine ho_skip rfl rfl rfl rfl rfl rfl ?_
            refine ho_skip rfl rfl rfl rfl rfl rfl ?_
            refine ho_skip rfl rfl rfl rfl rfl rfl ?_
            refine ho_skip rfl rfl rfl rfl rfl rfl ?_
            refine ho_val rfl rfl (ex_pick_true rfl rfl) ?_
            refine ho_val rfl rfl (ex_assign rfl) ?_
            refine ho_nil ?_
            refine hk_then_code ?_
            refine hl_ret ?_
            exact hk_ret rfl rfl (fun w' hw' => ⟨rfl, hw'.below⟩)
      · refine hl_region ?_
        refine ho_val rfl rfl (ex_move rfl) ?_
        refine ho_do rfl rfl (exw_call_pure (v := .tuple #[.slice none 0 0, .int .i64 (e2 : Int), .int .i64 (p2 : Int)]) Try.func21 rfl (by kernel_rfl) rfl (fun w' hw' => by have h := unbase32_any L (by omega) w'; rw [hu2] at h; exact h)) (fun _ _ => ?_)
        refine ho_val rfl rfl (ex_move rfl) ?_
        refine ho_val rfl rfl (ex_extract rfl rfl) ?_
        refine ho_val rfl rfl (ex_extract rfl rfl) ?_
        refine ho_val rfl rfl (ex_extract rfl rfl) ?_
        refine ho_val rfl rfl (ex_assign rfl) ?_
        refine ho_val rfl rfl (ex_assign rfl) ?_
        refine ho_nil ?_
        refine hk_then_code ?_
        refine hl_seq ?_
        refine hl_seq ?_
        skip
        refine hl_region ?_
        refine ho_val rfl rfl (ex_move rfl) ?_
        refine ho_val rfl rfl (ex_eql (b := false) rfl rfl (beq_false_of_ne (by have := (un32_err hu2).1; omega))) ?_
        refine ho_val rfl rfl (ex_move rfl) ?_
        refine ho_skip rfl rfl rfl rfl rfl rfl ?_
        refine ho_skip rfl rfl rfl rfl rfl rfl ?_
        refine ho_skip rfl rfl rfl rfl rfl rfl ?_
        refine ho_skip rfl rfl rfl rfl rfl rfl ?_
        refine ho_val rfl rfl (ex_pick_false rfl rfl) ?_
        refine ho_nil ?_
        refine hk_then_code ?_
        refine hl_false rfl ?_
        refine hl_skip ?_
        refine hk_then_code ?_
        refine hl_seq ?_
        rcases hu3 : un64 L with b3 | ⟨e3, p3⟩
        · refine hl_region ?_
          refine ho_val rfl rfl (ex_move rfl) ?_
          refine ho_do rfl rfl (exw_call Try.func22 rfl (by kernel_rfl) rfl (val := fun q : Nat × Nat × List Value => .tuple #[slv (some ⟨q.1, 0, none⟩) b3.length q.2.1, .int .i64 0, .int .i64 0]) (hs' := fun q => ⟨some q.1, vrow b3 q.2.2, 5, (0, 0)⟩ :: _) (pre := fun q => RowOk 1 (some q.1) b3.length q.2.1 (b3.map vb) q.2.2) (fun w' hw' => (unbase64_any L (by omega) w').mono fun e w2 h => by rw [hu3] at h; obtain ⟨g, c, r, h1, h2, h3⟩ := h; exact ⟨(g, c, r), h1, h2, hw'.comp (A := []) (by simp) h3⟩)) (fun y3 hk3 => ?_)
          refine ho_val rfl rfl (ex_move rfl) ?_
          refine ho_val rfl rfl (ex_extract rfl rfl) ?_
          refine ho_val rfl rfl (ex_extract rfl rfl) ?_
          refine ho_val rfl rfl (ex_extract rfl rfl) ?_
          refine ho_val rfl rfl (ex_assign rfl) ?_
          refine ho_val rfl rfl (ex_assign rfl) ?_
          refine ho_nil ?_
          refine hk_then_code ?_
          refine hl_seq ?_
          refine hl_seq ?_
          skip
          refine hl_region ?_
          refine ho_val rfl rfl (ex_move rfl) ?_
          refine ho_val rfl rfl (ex_eql rfl rfl rfl) ?_
          refine ho_val rfl rfl (ex_move rfl) ?_
          refine ho_want rfl rfl rfl rfl rfl (ex_move rfl) ?_
          refine ho_do_want rfl rfl rfl rfl rfl (exw_call_pure Try.func14 rfl (by kernel_rfl) rfl (fun w' hw' => base64_any b3 b3.length rfl (some ⟨y3.1, 0, none⟩) y3.2.1 (fun h => nomatch h) (fun h => nomatch h) hk3.le (by have := un64_le hu3; omega) w' (Sl.own hw' 0 rfl rfl (vrow_own _ _)))) (fun _ _ => ?_)
          refine ho_want rfl rfl rfl rfl rfl (ex_move rfl) ?_
          refine ho_want rfl rfl rfl rfl rfl (ex_neq_str (b := false) rfl rfl (neq_false_of_eq (b64_canon hu3))) ?_
          refine ho_val rfl rfl (ex_pick_true rfl rfl) ?_
          refine ho_nil ?_
          refine hk_then_code ?_
          refine hl_false rfl ?_
          refine hl_skip ?_
          refine hk_then_code ?_
          refine hl_seq ?_
          rcases hr : rdOf L with ⟨l, fm⟩ | ⟨e, p⟩
          · have hl32 := (rd_canon hr).1
            refine hl_region ?_
            refine ho_val rfl rfl (ex_move rfl) ?_
            refine ho_do rfl rfl (exw_call_pure (v := .tuple #[.agg (vbs l), .int .i64 (fm : Int), .int .i64 0, .int .i64 0]) Try.func26 rfl (by kernel_rfl) rfl (fun w' hw' => by have h := read_any L (by omega) w'; rw [hr] at h; exact h)) (fun _ _ => ?_)
            refine ho_val rfl rfl (ex_move rfl) ?_
            refine ho_val rfl rfl (ex_extract rfl rfl) ?_
            refine ho_val rfl rfl (ex_extract rfl rfl) ?_
            refine ho_val rfl rfl (ex_extract rfl rfl) ?_
            refine ho_val rfl rfl (ex_extract rfl rfl) ?_
            refine ho_do rfl rfl (exw_store_row1 rfl rfl (by rw [size23]; simp [vbs_size, hl32]) (by simp [vbs_size, hy, hl32]) (vbs_one _)) (fun _ _ => ?_)
            refine ho_val rfl rfl (ex_assign rfl) ?_
            refine ho_val rfl rfl (ex_assign rfl) ?_
            refine ho_nil ?_
            refine hk_then_code ?_
            refine hl_seq ?_
            refine hl_region ?_
            refine ho_val rfl rfl (ex_move rfl) ?_
            refine ho_val rfl rfl (ex_neq rfl rfl rfl) ?_
            refine ho_val rfl rfl (ex_move rfl) ?_
            refine ho_want rfl rfl rfl rfl rfl (ex_load_row rfl 1 rfl rfl Try.underlying23 rfl (by rw [show _ = _ from size23]; simp [vbs_size, vws_size, *])) ?_
            refine ho_want rfl rfl rfl rfl rfl (ex_move rfl) ?_
            refine ho_do_want rfl rfl rfl rfl rfl (exw_call_pure Try.func16 rfl (by kernel_rfl) rfl (fun w' hw' => show_any l hl32 fm w')) (fun _ _ => ?_)
            refine ho_want rfl rfl rfl rfl rfl (ex_move rfl) ?_
            refine ho_want rfl rfl rfl rfl rfl (ex_eql_str (b := true) rfl rfl (eql_true_of_eq (rd_canon hr).2)) ?_
            refine ho_val rfl rfl (ex_pick_false rfl rfl) ?_
            refine ho_val rfl rfl (ex_assign rfl) ?_
            refine ho_nil ?_
            refine hk_then_code ?_
            refine hl_ret ?_
            exact hk_ret rfl rfl (fun w' hw' => ⟨rfl, hw'.below⟩)
          · skip
            refine hl_region ?_
            refine ho_val rfl rfl (ex_move rfl) ?_
            refine ho_do rfl rfl (exw_call_pure (v := .tuple #[.agg (vbs (List.replicate 32 0)), .int .i64 0, .int .i64 (e : Int), .int .i64 (p : Int)]) Try.func26 rfl (by kernel_rfl) rfl (fun w' hw' => by have h := read_any L (by omega) w'; rw [hr] at h; exact h)) (fun _ _ => ?_)
            refine ho_val rfl rfl (ex_move rfl) ?_
            refine ho_val rfl rfl (ex_extract rfl rfl) ?_
            refine ho_val rfl rfl (ex_extract rfl rfl) ?_
            refine ho_val rfl rfl (ex_extract rfl rfl) ?_
            refine ho_val rfl rfl (ex_extract rfl rfl) ?_
            refine ho_do rfl rfl (exw_store_row1 rfl rfl (by rw [size23]; simp [vbs_size, hy]) (by simp [vbs_size, hy]) (vbs_one _)) (fun _ _ => ?_)
            refine ho_val rfl rfl (ex_assign rfl) ?_
            refine ho_val rfl rfl (ex_assign rfl) ?_
            refine ho_nil ?_
            refine hk_then_code ?_
            refine hl_seq ?_
            refine hl_region ?_
            refine ho_val rfl rfl (ex_move rfl) ?_
            refine ho_val rfl rfl (ex_neq (b := true) rfl rfl (bne_iff_ne.2 (by have := rd_err hr; omega))) ?_
            refine ho_val rfl rfl (ex_move rfl) ?_
            refine ho_skip rfl rfl rfl rfl rfl rfl ?_
            refine ho_skip rfl rfl rfl rfl rfl rfl ?_
            refine ho_skip rfl rfl rfl rfl rfl rfl ?_
            refine ho_skip rfl rfl rfl rfl rfl rfl ?_
            refine ho_skip rfl rfl rfl rfl rfl rfl ?_
            refine ho_val rfl rfl (ex_pick_true rfl rfl) ?_
            refine ho_val rfl rfl (ex_assign rfl) ?_
            refine ho_nil ?_
            refine hk_then_code ?_
            refine hl_ret ?_
            exact hk_ret rfl rfl (fun w' hw' => ⟨rfl, hw'.below⟩)
        · refine hl_region ?_
          refine ho_val rfl rfl (ex_move rfl) ?_
          refine ho_do rfl rfl (exw_call_pure (v := .tuple #[.slice none 0 0, .int .i64 (e3 : Int), .int .i64 (p3 : Int)]) Try.func22 rfl (by kernel_rfl) rfl (fun w' hw' => by have h := unbase64_any L (by omega) w'; rw [hu3] at h; exact h)) (fun _ _ => ?_)
          refine ho_val rfl rfl (ex_move rfl) ?_
          refine ho_val rfl rfl (ex_extract rfl rfl) ?_
          refine ho_val rfl rfl (ex_extract rfl rfl) ?_
          refine ho_val rfl rfl (ex_extract rfl rfl) ?_
          refine ho_val rfl rfl (ex_assign rfl) ?_
          refine ho_val rfl rfl (ex_assign rfl) ?_
          refine ho_nil ?_
          refine hk_then_code ?_
          refine hl_seq ?_
          refine hl_seq ?_
          skip
          refine hl_region ?_
          refine ho_val rfl rfl (ex_move rfl) ?_
          refine ho_val rfl rfl (ex_eql (b := false) rfl rfl (beq_false_of_ne (by have := (un64_err hu3).1; omega))) ?_
          refine ho_val rfl rfl (ex_move rfl) ?_
          refine ho_skip rfl rfl rfl rfl rfl rfl ?_
          refine ho_skip rfl rfl rfl rfl rfl rfl ?_
          refine ho_skip rfl rfl rfl rfl rfl rfl ?_
          refine ho_skip rfl rfl rfl rfl rfl rfl ?_
          refine ho_val rfl rfl (ex_pick_false rfl rfl) ?_
          refine ho_nil ?_
          refine hk_then_code ?_
          refine hl_false rfl ?_
          refine hl_skip ?_
          refine hk_then_code ?_
          refine hl_seq ?_
          rcases hr : rdOf L with ⟨l, fm⟩ | ⟨e, p⟩
          · have hl32 := (rd_canon hr).1
            refine hl_region ?_
            refine ho_val rfl rfl (ex_move rfl) ?_
            refine ho_do rfl rfl (exw_call_pure (v := .tuple #[.agg (vbs l), .int .i64 (fm : Int), .int .i64 0, .int .i64 0]) Try.func26 rfl (by kernel_rfl) rfl (fun w' hw' => by have h := read_any L (by omega) w'; rw [hr] at h; exact h)) (fun _ _ => ?_)
            refine ho_val rfl rfl (ex_move rfl) ?_
            refine ho_val rfl rfl (ex_extract rfl rfl) ?_
            refine ho_val rfl rfl (ex_extract rfl rfl) ?_
            refine ho_val rfl rfl (ex_extract rfl rfl) ?_
            refine ho_val rfl rfl (ex_extract rfl rfl) ?_
            refine ho_do rfl rfl (exw_store_row0 rfl rfl (by rw [size23]; simp [vbs_size, hl32]) (by simp [vbs_size, hy, hl32]) (vbs_one _)) (fun _ _ => ?_)
            refine ho_val rfl rfl (ex_assign rfl) ?_
            refine ho_val rfl rfl (ex_assign rfl) ?_
            refine ho_nil ?_
            refine hk_then_code ?_
            refine hl_seq ?_
            refine hl_region ?_
            refine ho_val rfl rfl (ex_move rfl) ?_
            refine ho_val rfl rfl (ex_neq rfl rfl rfl) ?_
            refine ho_val rfl rfl (ex_move rfl) ?_
            refine ho_want rfl rfl rfl rfl rfl (ex_load_row rfl 0 rfl rfl Try.underlying23 rfl (by rw [show _ = _ from size23]; simp [vbs_size, vws_size, *])) ?_
            refine ho_want rfl rfl rfl rfl rfl (ex_move rfl) ?_
            refine ho_do_want rfl rfl rfl rfl rfl (exw_call_pure Try.func16 rfl (by kernel_rfl) rfl (fun w' hw' => show_any l hl32 fm w')) (fun _ _ => ?_)
            refine ho_want rfl rfl rfl rfl rfl (ex_move rfl) ?_
            refine ho_want rfl rfl rfl rfl rfl (ex_eql_str (b := true) rfl rfl (eql_true_of_eq (rd_canon hr).2)) ?_
            refine ho_val rfl rfl (ex_pick_false rfl rfl) ?_
            refine ho_val rfl rfl (ex_assign rfl) ?_
            refine ho_nil ?_
            refine hk_then_code ?_
            refine hl_ret ?_
            exact hk_ret rfl rfl (fun w' hw' => ⟨rfl, hw'.below⟩)
          · skip
            refine hl_region ?_
            refine ho_val rfl rfl (ex_move rfl) ?_
            refine ho_do rfl rfl (exw_call_pure (v := .tuple #[.agg (vbs (List.replicate 32 0)), .int .i64 0, .int .i64 (e : Int), .int .i64 (p : Int)]) Try.func26 rfl (by kernel_rfl) rfl (fun w' hw' => by have h := read_any L (by omega) w'; rw [hr] at h; exact h)) (fun _ _ => ?_)
            refine ho_val rfl rfl (ex_move rfl) ?_
            refine ho_val rfl rfl (ex_extract rfl rfl) ?_
            refine ho_val rfl rfl (ex_extract rfl rfl) ?_
            refine ho_val rfl rfl (ex_extract rfl rfl) ?_
            refine ho_val rfl rfl (ex_extract rfl rfl) ?_
            refine ho_do rfl rfl (exw_store_row0 rfl rfl (by rw [size23]; simp [vbs_size, hy]) (by simp [vbs_size, hy]) (vbs_one _)) (fun _ _ => ?_)
            refine ho_val rfl rfl (ex_assign rfl) ?_
            refine ho_val rfl rfl (ex_assign rfl) ?_
            refine ho_nil ?_
            refine hk_then_code ?_
            refine hl_seq ?_
            refine hl_region ?_
            refine ho_val rfl rfl (ex_move rfl) ?_
            refine ho_val rfl rfl (ex_neq (b := true) rfl rfl (bne_iff_ne.2 (by have := rd_err hr; omega))) ?_
            refine ho_val rfl rfl (ex_move rfl) ?_
            refine ho_skip rfl rfl rfl rfl rfl rfl ?_
            refine ho_skip rfl rfl rfl rfl rfl rfl ?_
            refine ho_skip rfl rfl rfl rfl rfl rfl ?_
            refine ho_skip rfl rfl rfl rfl rfl rfl ?_
            refine ho_skip rfl rfl rfl rfl rfl rfl ?_
            refine ho_val rfl rfl (ex_pick_true rfl rfl) ?_
            refine ho_val rfl rfl (ex_assign rfl) ?_
            refine ho_nil ?_
            refine hk_then_code ?_
            refine hl_ret ?_
            exact hk_ret rfl rfl (fun w' hw' => ⟨rfl, hw'.below⟩)

end Go.Proofs.Ytdmagjelmhcemaa
