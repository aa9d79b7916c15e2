/- A range over a string; a test on a guard that is not known. Nothing of a program. -/
import Derived.Test.YtdmagjelmhcemaaD
import Derived.Laws.RangeAny
import Derived.Lib.OthersKept
namespace Go.Proofs.Ytdmagjelmhcemaa
open Go.RowKit
set_option linter.unusedVariables false
set_option linter.unusedSimpArgs false

theorem Below.comp {w0 wb w' : World} (h1 : Below w0.heap.size w0 wb) (h2 : Below wb.heap.size wb w') : Below w0.heap.size w0 w' :=
  ⟨h2.os.trans h1.os, h2.tape.trans h1.tape, h2.output.trans h1.output, Nat.le_trans h1.size h2.size, fun k hk => (h2.block k (Nat.lt_of_lt_of_le hk h1.size)).trans (h1.block k hk)⟩
section
variable {P : Program} {n : Nat} {w0 wb : World} {M : List Nat} {Q : Exit → Act → World → Prop} {l : List (Nat × Value)} {hs : List HB}
variable {d : Option Tmp} {ty : TypeId} {pos : String} {af : Array Edge}
theorem ho_bool {ops : Array Oper} {rest : List Oper} (s : Nat) {b : Bool} (hl : look l s = some (.bool b)) (h1 : b = true → HO P n w0 M Q ops rest ((s, .bool true) :: l) hs) (h2 : b = false → HO P n w0 M Q ops rest ((s, .bool false) :: l) hs) : HO P n w0 M Q ops rest l hs := fun a w ha hw => by
  have up : ∀ v, look l s = some v → Agree n ((s, v) :: l) a := fun v hv => ⟨ha.size, ha.defers, fun t u ht => by
    by_cases e : s = t
    · subst e
      rw [look_hit] at ht
      obtain rfl := Option.some.inj ht
      exact ha.vals s v hv
    · rw [look_miss _ _ _ _ e] at ht
      exact ha.vals t u ht⟩
  cases b with
  | true => exact h1 rfl a w (up _ hl) hw
  | false => exact h2 rfl a w (up _ hl) hw
/-- the range begins: from here on the walk's base is the world as it is -/
theorem ho_range {ops : Array Oper} {rest : List Oper} {t : TypeId} {x : Operand} {L : List UInt8} (hx : ev l x = some (.string (bs L))) (hT : P.underlying t = some .string) (hd : dstOk n d = true)
    (h : ∀ wb k, Below w0.heap.size w0 wb → wb.heap[k]? = some (.stringIter (bs L) 0) → w0.heap.size ≤ k → HO P n wb [] Q ops rest (putl l d (.pointer (some ⟨k, 0, none⟩))) []) :
    HO P n w0 [] Q ops (⟨d, .range t x, ty, pos, af, none⟩ :: rest) l hs := fun a w ha hw =>
  wpList_plain rfl fun K hK => by
    unfold Oper.wp
    have hr : (execOp a.eval ⟨d, .range t x, ty, pos, af, none⟩).run P w = .ok (.value (.pointer (some ⟨w.heap.size, 0, none⟩))) (w.iter (bs L) 0) := by
      show Sem.run P (do pure (Next.value (← Instr.range t (a.eval x)))) w = _
      rw [ha.ev hx]
      exact run_v (run_range_string w t (bs L) hT)
    rw [hr, Oper.upon_value]
    exact hK _ _ (h (w.iter (bs L) 0) w.heap.size ((hw.below).alloc hw.size _) (World.iter_heap w (bs L) 0) hw.size _ _ (ha.putl hd _) (Hp.start _))

def RQ (n : Nat) (w0 : World) (s : ByteArray) (k : Nat) (I : Nat → Prop) (L : List (Nat × Value)) (p : Nat) (a : Act) (w : World) : Prop :=
  ∃ p', I p' ∧ p < p' ∧ Agree n L a ∧ Below w0.heap.size w0 w ∧ w.heap[k]? = some (.stringIter s p')
theorem hl_range_loop {rest : Code} {id : Nat} {d1 d2 it : Nat} {ty1 ty2 : TypeId} {pos1 pos2 : String} {af1 af2 : Array Edge} {s : ByteArray} {k p0 : Nat} (hb : Below w0.heap.size w0 wb) (hk0 : w0.heap.size ≤ k) (hk : wb.heap[k]? = some (.stringIter s p0)) (I : Nat → Prop) (hI : I p0) (L : List (Nat × Value)) (hsub : Sub L l)
    (hit : look L it = some (.pointer (some ⟨k, 0, none⟩))) (hd1 : Nat.blt d1 n = true) (hd2 : Nat.blt d2 n = true)
    (hend : ∀ w1 p, I p → s.size ≤ p → Below w0.heap.size w0 w1 → HL P n w1 [] (Exit.then (fun _ _ => False) Q) rest ((d2, .bool false) :: (d1, .tuple #[.bool false]) :: L) [])
    (hround : ∀ w1 p, I p → p < s.size → Below w0.heap.size w0 w1 → w1.heap[k]? = some (.stringIter s (p + (Utf8.decode s p).2)) →
      HL P n w1 [] (Exit.then (RQ n w0 s k I L p) Q) rest ((d2, .bool true) :: (d1, .tuple #[.bool true, .int .i64 (p : Nat), .int .i32 ((Utf8.decode s p).1 : Nat)]) :: L) []) :
    HL P n wb [] Q (.loop (.seq (.region id #[⟨some d1, .next (.tmp it) true, ty1, pos1, af1, none⟩, ⟨some d2, .extract (.tmp d1) 0, ty2, pos2, af2, none⟩] false) rest)) l hs := by
  intro a w ha hw
  have hw0 : Below w0.heap.size w0 w := Below.comp hb hw.below
  have hkw : w.heap[k]? = some (.stringIter s p0) := by rw [hw.block k (Array.getElem?_eq_some_iff.1 hk).1 (by simp)]; exact hk
  refine wp_loop_ghost (fun m a w => ∃ p, I p ∧ s.size - p = m ∧ Agree n L a ∧ Below w0.heap.size w0 w ∧ w.heap[k]? = some (.stringIter s p)) (s.size - p0) ⟨p0, hI, rfl, ha.sub hsub, hw0, hkw⟩ ?_
  rintro m a w ⟨p, hp, rfl, ha, hw, hk⟩
  by_cases hlt : p < s.size
  · -- a round
    have hr := Go.Lib.run_next_any_at (P := P) w k s p ty1 hk hlt
    have hW : Below w0.heap.size w0 (w.iterAt k s (p + (Utf8.decode s p).2)) := ⟨hw.os, hw.tape, hw.output, by simp [World.iterAt, hw.size], fun i hi => by
      have hne : i ≠ k := by omega
      simp only [World.iterAt]
      rw [Array.getElem?_setIfInBounds_ne (by omega)]
      exact hw.block i hi⟩
    have hk' := Go.Lib.iterAt_heap w k s p (p + (Utf8.decode s p).2) hk
    have hbody := hround (w.iterAt k s (p + (Utf8.decode s p).2)) p hp hlt hW hk'
    refine wp_mono (wp_seq (wp_region_lit (wpList_plain rfl fun K hK => ?_))) (Q := Exit.then (RQ n w0 s k I L p) Q) ?_
    · unfold Oper.wp
      have h1 : (execOp a.eval ⟨some d1, .next (.tmp it) true, ty1, pos1, af1, none⟩).run P w = .ok (.value (.tuple #[.bool true, .int .i64 (p : Nat), .int .i32 ((Utf8.decode s p).1 : Nat)])) (w.iterAt k s (p + (Utf8.decode s p).2)) := by
        show Sem.run P (do pure (Next.value (← Instr.next (a.eval (.tmp it)) true ty1))) w = _
        rw [ha.ev (x := .tmp it) hit]
        exact run_v hr
      rw [h1, Oper.upon_value]
      refine hK _ _ (wpList_plain rfl fun K2 hK2 => ?_)
      unfold Oper.wp
      have ha1 := ha.put hd1 (.tuple #[.bool true, .int .i64 (p : Nat), .int .i32 ((Utf8.decode s p).1 : Nat)])
      have h2 : (execOp (a.put (some d1) (.tuple #[.bool true, .int .i64 (p : Nat), .int .i32 ((Utf8.decode s p).1 : Nat)])).eval ⟨some d2, .extract (.tmp d1) 0, ty2, pos2, af2, none⟩).run P (w.iterAt k s (p + (Utf8.decode s p).2)) = .ok (.value (.bool true)) (w.iterAt k s (p + (Utf8.decode s p).2)) := by
        simp only [execOp, ha1.ev (x := .tmp d1) (look_hit _ _ _)]; rfl
      rw [h2, Oper.upon_value]
      exact hK2 _ _ (hbody _ _ (ha1.put hd2 (.bool true)) (Hp.start _))
    · intro e a' w' hq
      cases e with
      | normal => obtain ⟨p', h1, h2, h3, h4, h5⟩ := hq; exact ⟨s.size - p', by omega, p', h1, rfl, h3, h4, h5⟩
      | exit id => exact hq
      | goto l => exact hq
      | ret => exact hq
      | panic ch => exact hq
      | outgrown => exact hq
  · have hr := Go.Lib.run_next_end_at (P := P) w k s p ty1 hk hlt
    have hbody := hend w p hp (by omega) hw
    refine wp_mono (wp_seq (wp_region_lit (wpList_plain rfl fun K hK => ?_))) (Q := Exit.then (fun _ _ => False) Q) ?_
    · unfold Oper.wp
      have h1 : (execOp a.eval ⟨some d1, .next (.tmp it) true, ty1, pos1, af1, none⟩).run P w = .ok (.value (.tuple #[.bool false])) w := by
        show Sem.run P (do pure (Next.value (← Instr.next (a.eval (.tmp it)) true ty1))) w = _
        rw [ha.ev (x := .tmp it) hit]
        exact run_v hr
      rw [h1, Oper.upon_value]
      refine hK _ _ (wpList_plain rfl fun K2 hK2 => ?_)
      unfold Oper.wp
      have ha1 := ha.put hd1 (.tuple #[.bool false])
      have h2 : (execOp (a.put (some d1) (.tuple #[.bool false])).eval ⟨some d2, .extract (.tmp d1) 0, ty2, pos2, af2, none⟩).run P w = .ok (.value (.bool false)) w := by
        simp only [execOp, ha1.ev (x := .tmp d1) (look_hit _ _ _)]; rfl
      rw [h2, Oper.upon_value]
      exact hK2 _ _ (hbody _ _ (ha1.put hd2 (.bool false)) (Hp.start _))
    · intro e a' w' hq
      cases e with
      | normal => exact hq.elim
      | exit id => exact hq
      | goto l => exact hq
      | ret => exact hq
      | panic ch => exact hq
      | outgrown => exact hq
theorem hk_range_round {s : ByteArray} {k p : Nat} {I : Nat → Prop} {L : List (Nat × Value)} {w1 : World} (p' : Nat) (h1 : I p') (h2 : p < p') (hb : Below w0.heap.size w0 w1) (hk : w1.heap[k]? = some (.stringIter s p')) (h3 : Sub L l) :
    HK n w1 [] (fun a w => RQ n w0 s k I L p a w) l hs := fun a w ha hw =>
  ⟨p', h1, h2, ha.sub h3, Below.comp hb hw.below, by rw [hw.block k (Array.getElem?_eq_some_iff.1 hk).1 (by simp)]; exact hk⟩
theorem decode_low {L : List UInt8} {p : Nat} (hp : p < L.length) (h : (L.getD p 0).toNat < 128) : Utf8.decode (bs L) p = ((L.getD p 0).toNat, 1) := by
  have hs : p < (bs L).size := by rw [bs_size]; exact hp
  have e : (bs L)[p]'hs = L.getD p 0 := by
    have := bs_get L p hp
    rw [getElem?_pos (bs L) p hs] at this
    exact Option.some.inj this
  rw [decode_ascii (bs L) p hs (by rw [e]; exact h), e]
theorem decode_up {L : List UInt8} {p : Nat} (hp : p < L.length) (h : 128 ≤ (L.getD p 0).toNat) : 128 ≤ (Utf8.decode (bs L) p).1 := by
  have hs : p < (bs L).size := by rw [bs_size]; exact hp
  have e : (bs L)[p]'hs = L.getD p 0 := by
    have := bs_get L p hp
    rw [getElem?_pos (bs L) p hs] at this
    exact Option.some.inj this
  exact (decode_high (bs L) p hs (by rw [e]; exact h)).1
theorem ex_extract {x : Operand} {vs : Array Value} {i : Nat} {v : Value} {gd : Option (Nat × Bool)} (hx : ev l x = some (.tuple vs)) (hv : vs[i]? = some v) : Ex P n w0 M l hs ⟨d, .extract x i, ty, pos, af, gd⟩ v := fun a w ha _ => by
  show Sem.run P (do pure (Next.value (← Instr.extract (a.eval x) i))) w = _
  rw [ha.ev hx]
  exact run_v (by simp [Instr.extract, hv])
theorem ret_bool {b c : Bool} (h : b = c) : Ending.returned (.bool b) = .returned (.bool c) := by rw [h]
end
end Go.Proofs.Ytdmagjelmhcemaa
