/- Regions whose order is drawn, with calls and reads, and ONE last operation 't' that waits for all: behind it the class of worlds need not hold. (The proof of Derived/OrdersHeld.lean, turned.) Nothing of a program. -/
import Derived.Test.YtdmagjelmhcemaaDoorZ
namespace Go.Proofs.YtdmagjelmhcemaaDoor
open Go.RowKit
set_option linter.unusedVariables false
set_option linter.unusedSimpArgs false

section
variable {P : Program} {md : Region.Mode} {ops : Array Oper} {Q : Exit → Act → World → Prop} {S : World → Prop} {t : Nat}
def wpAnyG (P : Program) (md : Region.Mode) (ops : Array Oper) (Q : Exit → Act → World → Prop) (S : World → Prop) (t : Nat) : Nat → Array Bool → Act → World → Prop
  | 0, listed, a, w => Region.ready md ops listed = [] ∧ Q .normal a w
  | fuel + 1, listed, a, w =>
    (Region.ready md ops listed = [] → Q .normal a w) ∧
    ∀ i ∈ Region.ready md ops listed, wpOp P ops Q i (fun a' w' => (i ≠ t → S w') ∧ wpAnyG P md ops Q S t fuel (listed.setIfInBounds i true) a' w') a w
theorem wpAny_of_G : ∀ (fuel : Nat) (listed : Array Bool) (a : Act) (w : World), wpAnyG P md ops Q S t fuel listed a w → wpAny P md ops Q fuel listed a w
  | 0, _, _, _, h => h
  | fuel + 1, _, _, _, h => ⟨h.1, fun i hi => wpOp_mono (fun a' w' h' => wpAny_of_G fuel _ a' w' h'.2) (h.2 i hi)⟩
theorem wpAnyG_first {i : Nat} {oi : Oper} {v : Value} (hi : ops[i]? = some oi) (hsel : ∀ (j : Nat) (o : Oper) cs b, ops[j]? = some o → o.op ≠ .select cs b)
    (hQ : ∀ c a w, Q (.panic c) (a.put oi.dst v) w → Q (.panic c) a w) (ht : ∀ ot, ops[t]? = some ot → ∃ e ∈ ot.after, Region.binds md e = true ∧ e.on = i) :
    ∀ (fuel : Nat) (listed : Array Bool) (a : Act) (w : World),
      (∀ j oj, ops[j]? = some oj → j ≠ i → listed.getD j true = false → (∀ e ∈ oj.after, Region.binds md e = true → e.on ≠ i) → oi.apart ops oj = true) →
      i ∈ Region.ready md ops listed → YieldsIf P ops S oi v a → S w →
      wpAnyG P md ops Q S t fuel (listed.setIfInBounds i true) (a.put oi.dst v) w → wpAnyG P md ops Q S t (fuel + 1) listed a w := by
  intro fuel
  induction fuel with
  | zero =>
    intro listed a w _ hr hy hS H
    refine ⟨fun h => (by rw [h] at hr; cases hr), fun j hj => ?_⟩
    by_cases hji : j = i
    · subst hji; exact hy.wpOp hi hS ⟨fun _ => hS, H⟩
    · have := ready_mono hj hji
      rw [H.1] at this
      cases this
  | succ fuel ih =>
    intro listed a w hfree hr hy hS H
    refine ⟨fun h => (by rw [h] at hr; cases hr), fun j hj => ?_⟩
    by_cases hji : j = i
    · subst hji; exact hy.wpOp hi hS ⟨fun _ => hS, H⟩
    · have h1 := H.2 j (ready_mono hj hji)
      obtain ⟨hjun, oj, hoj, hall⟩ := mem_ready.1 hj
      have hnot : ∀ e ∈ oj.after, Region.binds md e = true → e.on ≠ i := fun e he hb heq => by
        have h1 := hall e he hb
        have h0 := (mem_ready.1 hr).1
        rw [heq] at h1
        rcases Nat.lt_or_ge i listed.size with h' | h'
        · simp [h'] at h0 h1; rw [h0] at h1; cases h1
        · simp [Array.getElem?_eq_none h'] at h1
      have hjt : j ≠ t := fun e => by
        subst e
        obtain ⟨e, he, hb, heq⟩ := ht oj hoj
        exact hnot e he hb heq
      have h2 := wpOp_putIf hoj (hfree j oj hoj hji hjun hnot) (fun cs b => hsel i oi cs b hi) (fun cs b => hsel j oj cs b hoj) hQ hy h1
      have hfree' : ∀ k ok, ops[k]? = some ok → k ≠ i → (listed.setIfInBounds j true).getD k true = false →
          (∀ e ∈ ok.after, Region.binds md e = true → e.on ≠ i) → oi.apart ops ok = true := fun k ok hk hki hun hno => by
        refine hfree k ok hk hki ?_ hno
        by_cases hjk : j = k
        · subst hjk; exact hjun
        · rw [getD_set_ne true hjk] at hun; exact hun
      refine wpOp_mono (fun a' w' h3 => ⟨fun _ => h3.2.1 hjt, ih (listed.setIfInBounds j true) a' w' hfree' (ready_mono hr (Ne.symm hji)) h3.1 (h3.2.1 hjt) ?_⟩) h2
      rw [Array.setIfInBounds_comm _ _ hji]
      exact h3.2.2
def waitsB (ops : Array Oper) (t i : Nat) : Bool := match ops[t]? with
  | some ot => ot.after.any fun e => Region.binds .any e && e.on == i
  | none => true
theorem waits_spec {ops : Array Oper} {t i : Nat} (h : waitsB ops t i = true) : ∀ ot, ops[t]? = some ot → ∃ e ∈ ot.after, Region.binds .any e = true ∧ e.on = i := fun ot ho => by
  unfold waitsB at h
  rw [ho] at h
  simp only [Array.any_eq_true'] at h
  obtain ⟨e, he, hb⟩ := h
  simp only [Bool.and_eq_true, beq_iff_eq] at hb
  exact ⟨e, he, hb.1, hb.2⟩
end
section
variable (P : Program) (n : Nat) (w0 : World) (M : List Nat)
def HG (Q : Exit → Act → World → Prop) (ops : Array Oper) (S : List HB) (t : Nat) (fuel : Nat) (listed : Array Bool) (l : List (Nat × Value)) (hs : List HB) : Prop :=
  ∀ a w, Agree n l a → Hp w0 M hs w → Hp w0 M S w → wpAnyG P .any ops Q (Hp w0 M S) t fuel listed a w
end
section
variable {P : Program} {n : Nat} {w0 : World} {M : List Nat} {Q : Exit → Act → World → Prop} {l : List (Nat × Value)} {hs S : List HB} {os : List Oper} {t : Nat}
theorem hl_heldg (S : List HB) (t : Nat) {id : Nat} (hm : P.follows .mixedOrders = true) {is : List Nat} (hn : is.Nodup) (hS : At is S hs) (h : HG P n w0 M Q os.toArray S t os.length (Array.replicate os.length false) l hs) : HL P n w0 M Q (.region id os.toArray true) l hs :=
  fun a w ha hw => wp_region_any hm (wpAny_of_G _ _ _ _ (by simpa using h a w.drew ha hw.drew (hw.drew.pick hn hS)))
theorem hg_take (i : Nat) {ops : Array Oper} {fuel : Nat} {listed : Array Bool} {o : Oper} {v : Value} (hi : ops[i]? = some o) (hs' : Region.noSelect ops = true) (hf : Region.free .any ops listed i = true) (hr : (Region.ready .any ops listed).contains i = true) (hw' : waitsB ops t i = true)
    (hQ : ∀ c a w, Q (.panic c) (a.put o.dst v) w → Q (.panic c) a w) (hg : o.guard = none) (hd : dstOk n o.dst = true) (hx : Ex P n w0 M l S o v) (h : HG P n w0 M Q ops S t fuel (listed.setIfInBounds i true) (putl l o.dst v) hs) : HG P n w0 M Q ops S t (fuel + 1) listed l hs :=
  fun a w ha hw hS => wpAnyG_first hi (Region.noSelect_spec hs') hQ (waits_spec hw') fuel listed a w (Region.free_spec hi hf) (by simpa using hr) (.inl ⟨wanted_none hg a, fun w' hw' => hx a w' ha hw'⟩) hS (h _ _ (ha.putl hd v) hw hS)
theorem hg_do (i : Nat) {ops : Array Oper} {fuel : Nat} {listed : Array Bool} {o : Oper} {X : Type} {val : X → Value} {hs' : X → List HB} {pre : X → Prop} (hi : ops[i]? = some o) (hr : Region.ready .any ops listed = [i])
    (hw : ∀ a, Agree n l a → Region.wanted o (yielded ops a.tmps) = true) (hd : dstOk n o.dst = true) (hx : ExW P n w0 M l hs o val hs' pre) {is : List Nat} (hn : is.Nodup) (hS : ∀ x, pre x → At is S (hs' x))
    (h : ∀ x, pre x → HG P n w0 M Q ops S t fuel (listed.setIfInBounds i true) (putl l o.dst (val x)) (hs' x)) : HG P n w0 M Q ops S t (fuel + 1) listed l hs :=
  fun a w ha hw' _ => by
    refine ⟨fun h0 => absurd (hr.symm.trans h0) (by simp), fun j hj => ?_⟩
    rw [hr] at hj
    obtain rfl : j = i := by simpa using hj
    unfold wpOp
    simp only [hi, hw a ha, if_true]
    exact .inl (hx a w ha hw' _ _ fun x w2 hp h2 => ⟨fun _ => h2.pick hn (hS x hp), h x hp _ _ (ha.putl hd _) h2 (h2.pick hn (hS x hp))⟩)
theorem hg_last {ops : Array Oper} {fuel : Nat} {listed : Array Bool} {o : Oper} {X : Type} {val : X → Value} {hs' : X → List HB} {pre : X → Prop} (hi : ops[t]? = some o) (hr : Region.ready .any ops listed = [t]) (hr2 : Region.ready .any ops (listed.setIfInBounds t true) = [])
    (hw : ∀ a, Agree n l a → Region.wanted o (yielded ops a.tmps) = true) (hd : dstOk n o.dst = true) (hx : ExW P n w0 M l hs o val hs' pre)
    (h : ∀ x, pre x → HK n w0 M (fun a w => Q .normal a w) (putl l o.dst (val x)) (hs' x)) : HG P n w0 M Q ops S t (fuel + 1) listed l hs :=
  fun a w ha hw' _ => by
    refine ⟨fun h0 => absurd (hr.symm.trans h0) (by simp), fun j hj => ?_⟩
    rw [hr] at hj
    obtain rfl : j = t := by simpa using hj
    unfold wpOp
    simp only [hi, hw a ha, if_true]
    refine .inl (hx a w ha hw' _ _ fun x w2 hp h2 => ⟨fun hne => absurd rfl hne, ?_⟩)
    have hk := h x hp _ _ (ha.putl hd _) h2
    cases fuel with
    | zero => exact ⟨hr2, hk⟩
    | succ f => exact ⟨fun _ => hk, by rw [hr2]; simp⟩
end
end Go.Proofs.YtdmagjelmhcemaaDoor
