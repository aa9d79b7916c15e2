/- The law DigestBack, walked. -/
import Derived.Test.YtdmagjelmhcemaaRows
import Derived.Test.YtdmagjelmhcemaaFacts
import Derived.Test.YtdmagjelmhcemaaB
import Derived.Test.YtdmagjelmhcemaaTwo
import Derived.Test.YtdmagjelmhcemaaRange
import Derived.Test.YtdmagjelmhcemaaApart
import Derived.KernelRfl
import Derived.Test.YtdmagjelmhcemaaBack
import Derived.Test.YtdmagjelmhcemaaUnHex
import Derived.Test.YtdmagjelmhcemaaUnBase32
import Derived.Test.YtdmagjelmhcemaaUnBase64
import Derived.Test.YtdmagjelmhcemaaTexts1
import Derived.Test.YtdmagjelmhcemaaTexts2
import Derived.Test.YtdmagjelmhcemaaTexts3
import Derived.Test.YtdmagjelmhcemaaApartWalk
namespace Go.Proofs.Ytdmagjelmhcemaa
open Go.RowKit
set_option linter.unusedVariables false
set_option linter.unusedSimpArgs false

theorem bytes_yes (x : List UInt8) (p q : Option Addr) (c c' : Nat) (hp : p = none → x.length = 0) (hq : q = none → x.length = 0) (hx : x.length ≤ 4194304) (w : World) (hS : Sl w p (x.map vb)) (hT : Sl w q (x.map vb)) :
    Calls Try.prog 18 #[slv p x.length c, slv q x.length c'] w fun e w' => e = .returned (.bool true) ∧ Below w.heap.size w w' := by
  have h := bytes_any x x x.length x.length rfl rfl p q c c' hp hq hx hx w hS hT
  rw [beq_self_eq_true] at h
  exact h

set_option maxHeartbeats 800000 in
set_option maxRecDepth 8000 in
theorem back_law (x : List UInt8) (p : Option Addr) (c : Nat) (hne : p = none → x.length = 0 ∧ c = 0) (hlc : x.length ≤ c) (hl : x.length ≤ 1048576) (w : World) (hS : Sl w p (x.map vb)) :
    Calls Try.prog 5 #[slv p x.length c] w fun e w' => e = .returned (.bool true) ∧ Below w.heap.size w w' := by
  refine calls_enter (n := 213) (hs := []) (M := []) (vs := [slv p x.length c]) Try.func5 rfl rfl rfl (Hp.start w) ?_
  refine hl_seq ?_
  refine hl_region ?_
  refine ho_val rfl rfl (ex_assign rfl) ?_
  refine ho_nil ?_
  refine hk_then_code ?_
  refine hl_seq ?_
  refine hl_region ?_
  refine ho_val rfl rfl (ex_move rfl) ?_
  refine ho_do rfl rfl (exw_call_pure Try.func10 rfl (by kernel_rfl) rfl (fun w' hw' => hex_any x x.length rfl p c (fun h => (hne h).1) hl w' (hS.old0 hw'))) (fun _ _ => ?_)
  refine ho_val rfl rfl (ex_assign rfl) ?_
  refine ho_nil ?_
  refine hk_then_code ?_
  refine hl_seq ?_
  refine hl_region ?_
  refine ho_val rfl rfl (ex_move rfl) ?_
  refine ho_do rfl rfl (exw_call_pure Try.func12 rfl (by kernel_rfl) rfl (fun w' hw' => base32_any x x.length rfl p c (fun h => (hne h).1) hl w' (hS.old0 hw'))) (fun _ _ => ?_)
  refine ho_val rfl rfl (ex_assign rfl) ?_
  refine ho_nil ?_
  refine hk_then_code ?_
  refine hl_seq ?_
  refine hl_region ?_
  refine ho_val rfl rfl (ex_move rfl) ?_
  refine ho_do rfl rfl (exw_call_pure Try.func14 rfl (by kernel_rfl) rfl (fun w' hw' => base64_any x x.length rfl p c (fun h => (hne h).1) (fun h => (hne h).2) hlc hl w' (hS.old0 hw'))) (fun _ _ => ?_)
  refine ho_val rfl rfl (ex_assign rfl) ?_
  refine ho_nil ?_
  refine hk_then_code ?_
  refine hl_seq ?_
  refine hl_seq ?_
  have l16 := hexOf_length x
  have l32 := base32Of_length x
  have l64 := base64Of_length x
  refine hl_region ?_
  refine ho_val rfl rfl (ex_move rfl) ?_
  refine ho_val rfl rfl (ex_len_str rfl Try.underlying9) ?_
  refine ho_val rfl rfl (ex_move rfl) ?_
  refine ho_val rfl rfl (ex_len_slice rfl Try.underlying28) ?_
  refine ho_val rfl rfl (ex_mulN (p := 2) rfl rfl (by omega)) ?_
  refine ho_val rfl rfl (ex_neq rfl rfl (bne_eq_false_iff_eq.2 (by omega))) ?_
  refine ho_val rfl rfl (ex_move rfl) ?_
  refine ho_want rfl rfl rfl rfl rfl (ex_move rfl) ?_
  refine ho_want rfl rfl rfl rfl rfl (ex_len_str rfl Try.underlying9) ?_
  refine ho_want rfl rfl rfl rfl rfl (ex_move rfl) ?_
  refine ho_want rfl rfl rfl rfl rfl (ex_len_slice rfl Try.underlying28) ?_
  refine ho_want rfl rfl rfl rfl rfl (ex_mulN (p := 8) rfl rfl (by omega)) ?_
  refine ho_want rfl rfl rfl rfl rfl (ex_addN (q := 4) rfl rfl (by omega)) ?_
  refine ho_want rfl rfl rfl rfl rfl (ex_quoN (q := 5) rfl rfl (by omega) (by omega)) ?_
  refine ho_want rfl rfl rfl rfl rfl (ex_neq rfl rfl (bne_eq_false_iff_eq.2 (by omega))) ?_
  refine ho_val rfl rfl (ex_pick_false rfl rfl) ?_
  refine ho_val rfl rfl (ex_move rfl) ?_
  refine ho_want rfl rfl rfl rfl rfl (ex_move rfl) ?_
  refine ho_want rfl rfl rfl rfl rfl (ex_len_str rfl Try.underlying9) ?_
  refine ho_want rfl rfl rfl rfl rfl (ex_move rfl) ?_
  refine ho_want rfl rfl rfl rfl rfl (ex_len_slice rfl Try.underlying28) ?_
  refine ho_want rfl rfl rfl rfl rfl (ex_addN (q := 2) rfl rfl (by omega)) ?_
  refine ho_want rfl rfl rfl rfl rfl (ex_quoN (q := 3) rfl rfl (by omega) (by omega)) ?_
  refine ho_want rfl rfl rfl rfl rfl (ex_mulN (q := 4) rfl rfl (by omega)) ?_
  refine ho_want rfl rfl rfl rfl rfl (ex_neq rfl rfl (bne_eq_false_iff_eq.2 (by omega))) ?_
  refine ho_val rfl rfl (ex_pick_false rfl rfl) ?_
  refine ho_nil ?_
  refine hk_then_code ?_
  refine hl_false rfl ?_
  refine hl_skip ?_
  refine hk_then_code ?_
  refine hl_seq ?_
  refine hl_region ?_
  refine ho_val rfl rfl (ex_move rfl) ?_
  refine ho_do rfl rfl (exw_call Try.func20 rfl (by kernel_rfl) rfl (val := fun q : Nat × Nat × List Value => .tuple #[slv (some ⟨q.1, 0, none⟩) x.length q.2.1, .int .i64 0, .int .i64 0]) (hs' := fun q => ⟨some q.1, vrow x q.2.2, 5, (0, 0)⟩ :: _) (pre := fun q => RowOk 1 (some q.1) x.length q.2.1 (x.map vb) q.2.2) (fun w' hw' => (unhex_any (hexOf x) (by rw [hexOf_length]; omega) w').mono fun e w2 h => by rw [un16_hex] at h; obtain ⟨g, c, r, h1, h2, h3⟩ := h; exact ⟨(g, c, r), h1, h2, hw'.comp (A := []) (by simp) h3⟩)) (fun y62 hk62 => ?_)
  refine ho_val rfl rfl (ex_move rfl) ?_
  refine ho_val rfl rfl (ex_extract rfl rfl) ?_
  refine ho_val rfl rfl (ex_extract rfl rfl) ?_
  refine ho_val rfl rfl (ex_extract rfl rfl) ?_
  refine ho_val rfl rfl (ex_assign rfl) ?_
  refine ho_val rfl rfl (ex_assign rfl) ?_
  refine ho_val rfl rfl (ex_assign rfl) ?_
  refine ho_nil ?_
  refine hk_then_code ?_
  refine hl_seq ?_
  refine hl_region ?_
  refine ho_val rfl rfl (ex_move rfl) ?_
  refine ho_do rfl rfl (exw_call Try.func21 rfl (by kernel_rfl) rfl (val := fun q : Nat × Nat × List Value => .tuple #[slv (some ⟨q.1, 0, none⟩) x.length q.2.1, .int .i64 0, .int .i64 0]) (hs' := fun q => ⟨some q.1, vrow x q.2.2, 5, (0, 0)⟩ :: _) (pre := fun q => RowOk 1 (some q.1) x.length q.2.1 (x.map vb) q.2.2) (fun w' hw' => (unbase32_any (base32Of x) (by rw [base32Of_length]; omega) w').mono fun e w2 h => by rw [un32_base32] at h; obtain ⟨g, c, r, h1, h2, h3⟩ := h; exact ⟨(g, c, r), h1, h2, hw'.comp (A := []) (by simp) h3⟩)) (fun y68 hk68 => ?_)
  refine ho_val rfl rfl (ex_move rfl) ?_
  refine ho_val rfl rfl (ex_extract rfl rfl) ?_
  refine ho_val rfl rfl (ex_extract rfl rfl) ?_
  refine ho_val rfl rfl (ex_extract rfl rfl) ?_
  refine ho_val rfl rfl (ex_assign rfl) ?_
  refine ho_val rfl rfl (ex_assign rfl) ?_
  refine ho_val rfl rfl (ex_assign rfl) ?_
  refine ho_nil ?_
  refine hk_then_code ?_
  refine hl_seq ?_
  refine hl_region ?_
  refine ho_val rfl rfl (ex_move rfl) ?_
  refine ho_do rfl rfl (exw_call Try.func22 rfl (by kernel_rfl) rfl (val := fun q : Nat × Nat × List Value => .tuple #[slv (some ⟨q.1, 0, none⟩) x.length q.2.1, .int .i64 0, .int .i64 0]) (hs' := fun q => ⟨some q.1, vrow x q.2.2, 5, (0, 0)⟩ :: _) (pre := fun q => RowOk 1 (some q.1) x.length q.2.1 (x.map vb) q.2.2) (fun w' hw' => (unbase64_any (base64Of x) (by rw [base64Of_length]; omega) w').mono fun e w2 h => by rw [un64_base64] at h; obtain ⟨g, c, r, h1, h2, h3⟩ := h; exact ⟨(g, c, r), h1, h2, hw'.comp (A := []) (by simp) h3⟩)) (fun y74 hk74 => ?_)
  refine ho_val rfl rfl (ex_move rfl) ?_
  refine ho_val rfl rfl (ex_extract rfl rfl) ?_
  refine ho_val rfl rfl (ex_extract rfl rfl) ?_
  refine ho_val rfl rfl (ex_extract rfl rfl) ?_
  refine ho_val rfl rfl (ex_assign rfl) ?_
  refine ho_val rfl rfl (ex_assign rfl) ?_
  refine ho_val rfl rfl (ex_assign rfl) ?_
  refine ho_nil ?_
  refine hk_then_code ?_
  refine hl_seq ?_
  refine hl_seq ?_
  refine hl_region ?_
  refine ho_val rfl rfl (ex_move rfl) ?_
  refine ho_val rfl rfl (ex_neq rfl rfl rfl) ?_
  refine ho_val rfl rfl (ex_move rfl) ?_
  refine ho_want rfl rfl rfl rfl rfl (ex_move rfl) ?_
  refine ho_want rfl rfl rfl rfl rfl (ex_neq rfl rfl rfl) ?_
  refine ho_val rfl rfl (ex_pick_false rfl rfl) ?_
  refine ho_val rfl rfl (ex_move rfl) ?_
  refine ho_want rfl rfl rfl rfl rfl (ex_move rfl) ?_
  refine ho_want rfl rfl rfl rfl rfl (ex_neq rfl rfl rfl) ?_
  refine ho_val rfl rfl (ex_pick_false rfl rfl) ?_
  refine ho_val rfl rfl (ex_move rfl) ?_
  refine ho_want rfl rfl rfl rfl rfl (ex_move rfl) ?_
  refine ho_want rfl rfl rfl rfl rfl (ex_move rfl) ?_
  refine ho_do_want rfl rfl rfl rfl rfl (exw_call_pure (v := .bool true) Try.func18 rfl (by kernel_rfl) rfl (fun w' hw' => bytes_yes x (some ⟨y62.1, 0, none⟩) p y62.2.1 c (fun h => nomatch h) (fun h => (hne h).1) (by omega) w' (Sl.own hw' 2 rfl rfl (vrow_own _ _)) (hS.old0 hw'))) (fun _ _ => ?_)
  refine ho_want rfl rfl rfl rfl rfl (ex_not rfl) ?_
  refine ho_val rfl rfl (ex_pick_false rfl rfl) ?_
  refine ho_val rfl rfl (ex_move rfl) ?_
  refine ho_want rfl rfl rfl rfl rfl (ex_move rfl) ?_
  refine ho_want rfl rfl rfl rfl rfl (ex_move rfl) ?_
  refine ho_do_want rfl rfl rfl rfl rfl (exw_call_pure (v := .bool true) Try.func18 rfl (by kernel_rfl) rfl (fun w' hw' => bytes_yes x (some ⟨y68.1, 0, none⟩) p y68.2.1 c (fun h => nomatch h) (fun h => (hne h).1) (by omega) w' (Sl.own hw' 1 rfl rfl (vrow_own _ _)) (hS.old0 hw'))) (fun _ _ => ?_)
  refine ho_want rfl rfl rfl rfl rfl (ex_not rfl) ?_
  refine ho_val rfl rfl (ex_pick_false rfl rfl) ?_
  refine ho_val rfl rfl (ex_move rfl) ?_
  refine ho_want rfl rfl rfl rfl rfl (ex_move rfl) ?_
  refine ho_want rfl rfl rfl rfl rfl (ex_move rfl) ?_
  refine ho_do_want rfl rfl rfl rfl rfl (exw_call_pure (v := .bool true) Try.func18 rfl (by kernel_rfl) rfl (fun w' hw' => bytes_yes x (some ⟨y74.1, 0, none⟩) p y74.2.1 c (fun h => nomatch h) (fun h => (hne h).1) (by omega) w' (Sl.own hw' 0 rfl rfl (vrow_own _ _)) (hS.old0 hw'))) (fun _ _ => ?_)
  refine ho_want rfl rfl rfl rfl rfl (ex_not rfl) ?_
  refine ho_val rfl rfl (ex_pick_false rfl rfl) ?_
  refine ho_nil ?_
  refine hk_then_code ?_
  refine hl_false rfl ?_
  refine hl_skip ?_
  refine hk_then_code ?_
  refine hl_seq ?_
  refine hl_seq ?_
  refine hl_region ?_
  refine ho_val rfl rfl (ex_move rfl) ?_
  refine ho_val rfl rfl (ex_move rfl) ?_
  refine ho_val rfl rfl (ex_move rfl) ?_
  refine ho_do rfl rfl (exw_call Try.func23 rfl (by kernel_rfl) rfl (val := fun _ : Unit => .bool true) (hs' := fun _ => []) (pre := fun _ => True) (fun w' hw' => (apart_any x x x y62.2.2 y68.2.2 y74.2.2 y62.1 y68.1 y74.1 y62.2.1 y68.2.1 y74.2.1 (by omega) (by omega) (by omega) hk62 hk68 hk74 w' (hw'.seen (is := [2, 1, 0]) (by decide) (.cons 2 rfl (.cons 1 rfl (.cons 0 rfl .nil))) (in3 rfl rfl rfl))).mono fun e w2 ⟨h1, h2⟩ => ⟨(), trivial, h1, hw'.comp (A := [_, _, _]) (B := []) (of3 rfl rfl rfl) h2⟩)) (fun _ _ => ?_)
  refine ho_val rfl rfl (ex_not rfl) ?_
  refine ho_nil ?_
  refine hk_then_code ?_
  refine hl_false rfl ?_
  refine hl_skip ?_
  refine hk_then_code ?_
  refine hl_seq ?_
  refine hl_region ?_
  refine ho_val rfl rfl (ex_move rfl) ?_
  refine ho_do rfl rfl (exw_call Try.func20 rfl (by kernel_rfl) rfl (val := fun q : Nat × Nat × List Value => .tuple #[slv (some ⟨q.1, 0, none⟩) x.length q.2.1, .int .i64 0, .int .i64 0]) (hs' := fun q => ⟨some q.1, vrow x q.2.2, 5, (0, 0)⟩ :: _) (pre := fun q => RowOk 1 (some q.1) x.length q.2.1 (x.map vb) q.2.2) (fun w' hw' => (unhex_any (hexOf x) (by rw [hexOf_length]; omega) w').mono fun e w2 h => by rw [un16_hex] at h; obtain ⟨g, c, r, h1, h2, h3⟩ := h; exact ⟨(g, c, r), h1, h2, hw'.comp (A := []) (by simp) h3⟩)) (fun y113 hk113 => ?_)
  refine ho_val rfl rfl (ex_move rfl) ?_
  refine ho_val rfl rfl (ex_extract rfl rfl) ?_
  refine ho_val rfl rfl (ex_extract rfl rfl) ?_
  refine ho_val rfl rfl (ex_extract rfl rfl) ?_
  refine ho_val rfl rfl (ex_assign rfl) ?_
  refine ho_val rfl rfl (ex_assign rfl) ?_
  refine ho_val rfl rfl (ex_assign rfl) ?_
  refine ho_nil ?_
  refine hk_then_code ?_
  refine hl_seq ?_
  refine hl_region ?_
  refine ho_val rfl rfl (ex_move rfl) ?_
  refine ho_do rfl rfl (exw_call Try.func21 rfl (by kernel_rfl) rfl (val := fun q : Nat × Nat × List Value => .tuple #[slv (some ⟨q.1, 0, none⟩) x.length q.2.1, .int .i64 0, .int .i64 0]) (hs' := fun q => ⟨some q.1, vrow x q.2.2, 5, (0, 0)⟩ :: _) (pre := fun q => RowOk 1 (some q.1) x.length q.2.1 (x.map vb) q.2.2) (fun w' hw' => (unbase32_any (base32Of x) (by rw [base32Of_length]; omega) w').mono fun e w2 h => by rw [un32_base32] at h; obtain ⟨g, c, r, h1, h2, h3⟩ := h; exact ⟨(g, c, r), h1, h2, hw'.comp (A := []) (by simp) h3⟩)) (fun y119 hk119 => ?_)
  refine ho_val rfl rfl (ex_move rfl) ?_
  refine ho_val rfl rfl (ex_extract rfl rfl) ?_
  refine ho_val rfl rfl (ex_extract rfl rfl) ?_
  refine ho_val rfl rfl (ex_extract rfl rfl) ?_
  refine ho_val rfl rfl (ex_assign rfl) ?_
  refine ho_val rfl rfl (ex_assign rfl) ?_
  refine ho_val rfl rfl (ex_assign rfl) ?_
  refine ho_nil ?_
  refine hk_then_code ?_
  refine hl_seq ?_
  refine hl_region ?_
  refine ho_val rfl rfl (ex_move rfl) ?_
  refine ho_do rfl rfl (exw_call Try.func22 rfl (by kernel_rfl) rfl (val := fun q : Nat × Nat × List Value => .tuple #[slv (some ⟨q.1, 0, none⟩) x.length q.2.1, .int .i64 0, .int .i64 0]) (hs' := fun q => ⟨some q.1, vrow x q.2.2, 5, (0, 0)⟩ :: _) (pre := fun q => RowOk 1 (some q.1) x.length q.2.1 (x.map vb) q.2.2) (fun w' hw' => (unbase64_any (base64Of x) (by rw [base64Of_length]; omega) w').mono fun e w2 h => by rw [un64_base64] at h; obtain ⟨g, c, r, h1, h2, h3⟩ := h; exact ⟨(g, c, r), h1, h2, hw'.comp (A := []) (by simp) h3⟩)) (fun y125 hk125 => ?_)
  refine ho_val rfl rfl (ex_move rfl) ?_
  refine ho_val rfl rfl (ex_extract rfl rfl) ?_
  refine ho_val rfl rfl (ex_extract rfl rfl) ?_
  refine ho_val rfl rfl (ex_extract rfl rfl) ?_
  refine ho_val rfl rfl (ex_assign rfl) ?_
  refine ho_val rfl rfl (ex_assign rfl) ?_
  refine ho_val rfl rfl (ex_assign rfl) ?_
  refine ho_nil ?_
  refine hk_then_code ?_
  refine hl_seq ?_
  refine hl_seq ?_
  refine hl_region ?_
  refine ho_val rfl rfl (ex_move rfl) ?_
  refine ho_val rfl rfl (ex_move rfl) ?_
  refine ho_do rfl rfl (exw_call_pure (v := .bool true) Try.func18 rfl (by kernel_rfl) rfl (fun w' hw' => bytes_yes x (some ⟨y113.1, 0, none⟩) p y113.2.1 c (fun h => nomatch h) (fun h => (hne h).1) (by omega) w' (Sl.own hw' 2 rfl rfl (vrow_own _ _)) (hS.old0 hw'))) (fun _ _ => ?_)
  refine ho_val rfl rfl (ex_not rfl) ?_
  refine ho_val rfl rfl (ex_move rfl) ?_
  refine ho_want rfl rfl rfl rfl rfl (ex_move rfl) ?_
  refine ho_want rfl rfl rfl rfl rfl (ex_move rfl) ?_
  refine ho_do_want rfl rfl rfl rfl rfl (exw_call_pure (v := .bool true) Try.func18 rfl (by kernel_rfl) rfl (fun w' hw' => bytes_yes x (some ⟨y119.1, 0, none⟩) p y119.2.1 c (fun h => nomatch h) (fun h => (hne h).1) (by omega) w' (Sl.own hw' 1 rfl rfl (vrow_own _ _)) (hS.old0 hw'))) (fun _ _ => ?_)
  refine ho_want rfl rfl rfl rfl rfl (ex_not rfl) ?_
  refine ho_val rfl rfl (ex_pick_false rfl rfl) ?_
  refine ho_val rfl rfl (ex_move rfl) ?_
  refine ho_want rfl rfl rfl rfl rfl (ex_move rfl) ?_
  refine ho_want rfl rfl rfl rfl rfl (ex_move rfl) ?_
  refine ho_do_want rfl rfl rfl rfl rfl (exw_call_pure (v := .bool true) Try.func18 rfl (by kernel_rfl) rfl (fun w' hw' => bytes_yes x (some ⟨y125.1, 0, none⟩) p y125.2.1 c (fun h => nomatch h) (fun h => (hne h).1) (by omega) w' (Sl.own hw' 0 rfl rfl (vrow_own _ _)) (hS.old0 hw'))) (fun _ _ => ?_)
  refine ho_want rfl rfl rfl rfl rfl (ex_not rfl) ?_
  refine ho_val rfl rfl (ex_pick_false rfl rfl) ?_
  refine ho_val rfl rfl (ex_move rfl) ?_
  refine ho_want rfl rfl rfl rfl rfl (ex_move rfl) ?_
  refine ho_want rfl rfl rfl rfl rfl (ex_move rfl) ?_
  refine ho_want rfl rfl rfl rfl rfl (ex_move rfl) ?_
  refine ho_do_want rfl rfl rfl rfl rfl (exw_call Try.func23 rfl (by kernel_rfl) rfl (val := fun _ : Unit => .bool true) (hs' := fun _ => []) (pre := fun _ => True) (fun w' hw' => (apart_any x x x y113.2.2 y119.2.2 y125.2.2 y113.1 y119.1 y125.1 y113.2.1 y119.2.1 y125.2.1 (by omega) (by omega) (by omega) hk113 hk119 hk125 w' (hw'.seen (is := [2, 1, 0]) (by decide) (.cons 2 rfl (.cons 1 rfl (.cons 0 rfl .nil))) (in3 rfl rfl rfl))).mono fun e w2 ⟨h1, h2⟩ => ⟨(), trivial, h1, hw'.comp (A := [_, _, _]) (B := []) (of3 rfl rfl rfl) h2⟩)) (fun _ _ => ?_)
  refine ho_want rfl rfl rfl rfl rfl (ex_not rfl) ?_
  refine ho_val rfl rfl (ex_pick_false rfl rfl) ?_
  refine ho_nil ?_
  refine hk_then_code ?_
  refine hl_false rfl ?_
  refine hl_skip ?_
  refine hk_then_code ?_
  refine hl_seq ?_
  refine hl_seq ?_
  refine hl_region ?_
  refine ho_val rfl rfl (ex_move rfl) ?_
  refine ho_val rfl rfl (ex_len_slice rfl Try.underlying28) ?_
  refine ho_val rfl rfl (ex_eql rfl rfl rfl) ?_
  refine ho_val rfl rfl (ex_move rfl) ?_
  refine ho_bool 155 rfl (fun hb18_3 => ?_) (fun hb18_3 => ?_)
  · try simp only [decide_eq_true_eq, decide_eq_false_iff_not, beq_iff_eq, beq_eq_false_iff_ne, bne_iff_ne, bne_eq_false_iff_eq, ne_eq, Int.not_lt, Int.not_le, gt_iff_lt, ge_iff_le, Bool.not_eq_true', Bool.not_eq_false'] at hb18_3
    refine ho_skip rfl rfl rfl rfl rfl rfl ?_
    refine ho_skip rfl rfl rfl rfl rfl rfl ?_
    refine ho_skip rfl rfl rfl rfl rfl rfl ?_
    refine ho_skip rfl rfl rfl rfl rfl rfl ?_
    refine ho_skip rfl rfl rfl rfl rfl rfl ?_
    refine ho_val rfl rfl (ex_pick_true rfl rfl) ?_
    refine ho_nil ?_
    refine hk_then_code ?_
    refine hl_true rfl ?_
    refine hl_seq ?_
    refine hl_region ?_
    refine ho_val rfl rfl (ex_assign rfl) ?_
    refine ho_nil ?_
    refine hk_then_code ?_
    refine hl_ret ?_
    refine hk_then_ret ?_
    exact hk_ret rfl rfl (fun w' hw' => ⟨rfl, hw'.below⟩)
  · try simp only [decide_eq_true_eq, decide_eq_false_iff_not, beq_iff_eq, beq_eq_false_iff_ne, bne_iff_ne, bne_eq_false_iff_eq, ne_eq, Int.not_lt, Int.not_le, gt_iff_lt, ge_iff_le, Bool.not_eq_true', Bool.not_eq_false'] at hb18_3
    refine ho_want rfl rfl rfl rfl rfl (ex_move rfl) ?_
    refine ho_want rfl rfl rfl rfl rfl (ex_addr_sl1 (k := 0) rfl rfl Try.underlying28 size5 (by omega) (fun h => (hne h).1)) ?_
    refine ho_want rfl rfl rfl rfl rfl (ex_load_sl rfl (fun w' hw' => hS.old0 hw') (map_vb_get _ _ (by omega)) Try.underlying5 rfl) ?_
    refine ho_want rfl rfl rfl rfl rfl (ex_andN (q := 31) rfl rfl (UInt8.toNat_lt _) (by decide)) ?_
    refine ho_want rfl rfl rfl rfl rfl (ex_eql rfl rfl rfl) ?_
    refine ho_val rfl rfl (ex_pick_false rfl rfl) ?_
    refine ho_nil ?_
    refine hk_then_code ?_
    refine hl_ifb rfl (fun hc4 => ?_) (fun hc4 => ?_)
    · try simp only [decide_eq_true_eq, decide_eq_false_iff_not, beq_iff_eq, beq_eq_false_iff_ne, bne_iff_ne, bne_eq_false_iff_eq, ne_eq, Int.not_lt, Int.not_le, gt_iff_lt, ge_iff_le, Bool.not_eq_true', Bool.not_eq_false'] at hc4
      refine hl_seq ?_
      refine hl_region ?_
      refine ho_val rfl rfl (ex_assign rfl) ?_
      refine ho_nil ?_
      refine hk_then_code ?_
      refine hl_ret ?_
      refine hk_then_ret ?_
      exact hk_ret rfl rfl (fun w' hw' => ⟨rfl, hw'.below⟩)
    · try simp only [decide_eq_true_eq, decide_eq_false_iff_not, beq_iff_eq, beq_eq_false_iff_ne, bne_iff_ne, bne_eq_false_iff_eq, ne_eq, Int.not_lt, Int.not_le, gt_iff_lt, ge_iff_le, Bool.not_eq_true', Bool.not_eq_false'] at hc4
      refine hl_skip ?_
      refine hk_then_code ?_
      refine hl_seq ?_
      have h31 : ¬ (x.getD 0 0).toNat &&& 31 = 31 := by omega
      have h255 := small31 (x.getD 0 0).toNat_lt h31
      have hx0 : 0 < x.length := by omega
      refine hl_region ?_
      refine ho_val rfl rfl (ex_assign rfl) ?_
      refine ho_nil ?_
      refine hk_then_code ?_
      refine hl_seq ?_
      refine hl_region ?_
      refine ho_val rfl rfl (ex_move rfl) ?_
      refine ho_val rfl rfl (ex_move rfl) ?_
      refine ho_nil_block 5 ?_
      refine ho_do rfl rfl (exw_append0 (o := none) (m := 0) (c := 0) (xs := []) (rest := []) rfl rfl rfl (RowOk.start _) (fun w' hw' => hS.old0 hw') (by simp) (map_vb_one _) Try.underlying28 info5 rfl (by decide) (by omega) (by simp only [maxLen]; omega) hne) (fun y164 hk164 => ?_)
      refine ho_val rfl rfl (ex_assign rfl) ?_
      refine ho_nil ?_
      refine hk_then_code ?_
      refine hl_seq ?_
      rcases y164 with ⟨_ | q24, c24, r24⟩
      · have h1 := hk164.nil rfl; have h2 := hk164.le; dsimp only at h1 h2; omega
      refine hl_pick (H := [⟨some q24, vrow x r24, 5, (0, 0)⟩]) [0] (by decide) (.cons 0 rfl .nil) ?_
      refine hl_region ?_
      refine ho_val rfl rfl (ex_move rfl) ?_
      refine ho_val rfl rfl (ex_addr_own (k := 0) rfl rfl Try.underlying28 size5 (by omega)) ?_
      refine ho_val rfl rfl (ex_load rfl 0 rfl rfl (vrow_get _ _ _ hx0) Try.underlying5 rfl) ?_
      refine ho_val rfl rfl (ex_addK (q := 1) rfl rfl (by simp only [cap]; omega)) ?_
      refine ho_val rfl rfl (ex_addr_own (k := 0) rfl rfl Try.underlying28 size5 (by omega)) ?_
      refine ho_do rfl rfl (exw_store0 rfl rfl (vrow_get _ _ _ hx0) rfl size5 (more_set x r24 hx0 h255)) (fun _ _ => ?_)
      refine ho_nil ?_
      refine hk_then_code ?_
      refine hl_seq ?_
      refine hl_region ?_
      refine ho_val rfl rfl (ex_move rfl) ?_
      refine ho_do rfl rfl (exw_call_pure Try.func12 rfl (by kernel_rfl) rfl (fun w' hw' => base32_any (moreOf x) (0 + x.length) (by rw [moreOf_length, Nat.zero_add]) (some ⟨q24, 0, none⟩) c24 (fun h => nomatch h) (by rw [moreOf_length]; omega) w' (Sl.own hw' 0 rfl rfl (vrow_own _ _)))) (fun _ _ => ?_)
      refine ho_val rfl rfl (ex_assign rfl) ?_
      refine ho_nil ?_
      refine hk_then_code ?_
      refine hl_seq ?_
      refine hl_region ?_
      refine ho_val rfl rfl (ex_move rfl) ?_
      refine ho_val rfl rfl (ex_len_str rfl Try.underlying9) ?_
      refine ho_val rfl rfl (ex_subN (q := 1) rfl rfl (by omega) (by omega)) ?_
      refine ho_val rfl rfl (ex_assign rfl) ?_
      refine ho_nil ?_
      refine hk_then_code ?_
      refine hl_seq ?_
      refine hl_region ?_
      refine ho_val rfl rfl (ex_assign rfl) ?_
      refine ho_nil ?_
      refine hk_then_code ?_
      refine hl_seq ?_
      have l32' := base32Of_length (moreOf x)
      rw [moreOf_length] at l32'
      obtain ⟨hm1, hm2, hm3⟩ := num_more hx0 h255
      refine hl_still 38 (by kernel_rfl) (by kernel_rfl) ?_
      refine hs_val rfl rfl (ex_move rfl) ?_
      refine hs_val rfl rfl (ex_len_str rfl Try.underlying9) ?_
      refine hs_val rfl rfl (ex_move rfl) ?_
      refine hs_val rfl rfl (ex_addN (q := 1) rfl rfl (by omega)) ?_
      refine hs_val rfl rfl (ex_eql rfl rfl (eql_true_of_eq (by omega))) ?_
      refine hs_val rfl rfl (ex_move rfl) ?_
      refine hs_want rfl rfl rfl rfl rfl (ex_move rfl) ?_
      refine hs_want rfl rfl rfl rfl rfl (ex_move rfl) ?_
      refine hs_want rfl rfl rfl rfl rfl (ex_str_hi rfl rfl Try.underlying9 (by omega)) ?_
      refine hs_want rfl rfl rfl rfl rfl (ex_move rfl) ?_
      refine hs_want rfl rfl rfl rfl rfl (ex_move rfl) ?_
      refine hs_want rfl rfl rfl rfl rfl (ex_str_hi rfl rfl Try.underlying9 (by omega)) ?_
      refine hs_want rfl rfl rfl rfl rfl (ex_eql_str (b := true) rfl rfl (eql_true_of_eq (base32_init hx0 h255 h31 _ (by omega)))) ?_
      refine hs_val rfl rfl (ex_pick_true rfl rfl) ?_
      refine hs_val rfl rfl (ex_move rfl) ?_
      refine hs_want rfl rfl rfl rfl rfl (ex_move rfl) ?_
      refine hs_want rfl rfl rfl rfl rfl (ex_move rfl) ?_
      refine hs_want rfl rfl rfl rfl rfl (ex_index_str rfl rfl Try.underlying9 (by omega)) ?_
      refine hs_want rfl rfl rfl rfl rfl (ex_move rfl) ?_
      refine hs_want rfl rfl rfl rfl rfl (ex_move rfl) ?_
      refine hs_want rfl rfl rfl rfl rfl (ex_addr_sl1 (k := 0) rfl rfl Try.underlying28 size5 (by omega) (fun h => (hne h).1)) ?_
      refine hs_want rfl rfl rfl rfl rfl (ex_load_sl rfl (fun w' hw' => hS.old0 hw') (map_vb_get _ _ (by omega)) Try.underlying5 rfl) ?_
      refine hs_want rfl rfl rfl rfl rfl (ex_andN (q := 31) rfl rfl (UInt8.toNat_lt _) (by decide)) ?_
      refine hs_want rfl rfl rfl rfl rfl (ex_index_str rfl rfl Try.underlying9 (by rw [and31]; exact Nat.mod_lt _ (by decide))) ?_
      refine hs_want rfl rfl rfl rfl rfl (ex_eql8 (c := true) rfl rfl (eql_true_of_eq (by rw [l32]; exact base32_lastdig hx0 rfl))) ?_
      refine hs_val rfl rfl (ex_pick_true rfl rfl) ?_
      refine hs_val rfl rfl (ex_move rfl) ?_
      refine hs_want rfl rfl rfl rfl rfl (ex_move rfl) ?_
      refine hs_want rfl rfl rfl rfl rfl (ex_move rfl) ?_
      refine hs_want rfl rfl rfl rfl rfl (ex_index_str rfl rfl Try.underlying9 (by omega)) ?_
      refine hs_want rfl rfl rfl rfl rfl (ex_move rfl) ?_
      refine hs_want rfl rfl rfl rfl rfl (ex_move rfl) ?_
      refine hs_want rfl rfl rfl rfl rfl (ex_addr_own (k := 0) rfl rfl Try.underlying28 size5 (by omega)) ?_
      refine hs_want rfl rfl rfl rfl rfl (ex_load rfl 0 rfl rfl (vrow_get _ _ _ (by rw [moreOf_length]; omega)) Try.underlying5 rfl) ?_
      refine hs_want rfl rfl rfl rfl rfl (ex_andN (q := 31) rfl rfl (UInt8.toNat_lt _) (by decide)) ?_
      refine hs_want rfl rfl rfl rfl rfl (ex_index_str rfl rfl Try.underlying9 (by rw [and31]; exact Nat.mod_lt _ (by decide))) ?_
      refine hs_want rfl rfl rfl rfl rfl (ex_eql8 (c := true) rfl rfl (eql_true_of_eq (by rw [l32]; exact base32_lastdig (by rw [moreOf_length]; exact hx0) (moreOf_length x)))) ?_
      refine hs_val rfl rfl (ex_pick_true rfl rfl) ?_
      refine hs_nil ?_
      refine ho_val rfl rfl (ex_assign rfl) ?_
      refine ho_nil ?_
      refine hk_then_code ?_
      refine hl_ret ?_
      exact hk_ret rfl rfl (fun w' hw' => ⟨rfl, hw'.below⟩)

end Go.Proofs.Ytdmagjelmhcemaa
