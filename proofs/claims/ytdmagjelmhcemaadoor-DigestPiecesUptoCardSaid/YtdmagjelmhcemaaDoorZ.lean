/- Regions whose order is drawn, with calls beside reads of a block that the region writes at its end: the class of worlds is a family of heaps. Nothing of a program. -/
import Derived.Test.YtdmagjelmhcemaaDoorP
namespace Go.Proofs.YtdmagjelmhcemaaDoor
open Go.RowKit
set_option linter.unusedVariables false
set_option linter.unusedSimpArgs false

section
variable (P : Program) (n : Nat) (w0 : World) (M : List Nat)
def SZ {Z : Type} (Sf : Z → List HB) (w : World) : Prop := ∃ z, Hp w0 M (Sf z) w
def HZ {Z : Type} (Q : Exit → Act → World → Prop) (ops : Array Oper) (Sf : Z → List HB) (fuel : Nat) (listed : Array Bool) (l : List (Nat × Value)) (hs : List HB) : Prop :=
  ∀ a w, Agree n l a → Hp w0 M hs w → SZ w0 M Sf w → wpAnyH P .any ops Q (SZ w0 M Sf) fuel listed a w
end
section
variable {P : Program} {n : Nat} {w0 : World} {M : List Nat} {Q : Exit → Act → World → Prop} {l : List (Nat × Value)} {hs : List HB} {os : List Oper} {Z : Type} {Sf : Z → List HB}

theorem hl_heldz (Sf : Z → List HB) {id : Nat} (hm : P.follows .mixedOrders = true) (z : Z) {is : List Nat} (hn : is.Nodup) (hS : At is (Sf z) hs) (h : HZ P n w0 M Q os.toArray Sf os.length (Array.replicate os.length false) l hs) : HL P n w0 M Q (.region id os.toArray true) l hs :=
  fun a w ha hw => wp_region_held hm (by simpa using h a w.drew ha hw.drew ⟨z, hw.drew.pick hn hS⟩)
theorem hz_take (i : Nat) {ops : Array Oper} {fuel : Nat} {listed : Array Bool} {o : Oper} {v : Value} (hi : ops[i]? = some o) (hs' : Region.noSelect ops = true) (hf : Region.free .any ops listed i = true) (hr : (Region.ready .any ops listed).contains i = true)
    (hQ : ∀ c a w, Q (.panic c) (a.put o.dst v) w → Q (.panic c) a w) (hg : o.guard = none) (hd : dstOk n o.dst = true) (hx : ∀ z, Ex P n w0 M l (Sf z) o v) (h : HZ P n w0 M Q ops Sf fuel (listed.setIfInBounds i true) (putl l o.dst v) hs) : HZ P n w0 M Q ops Sf (fuel + 1) listed l hs :=
  fun a w ha hw hS => wpAnyH_take hi hs' hf hr hQ (.inl ⟨wanted_none hg a, fun w' ⟨z, hw'⟩ => hx z a w' ha hw'⟩) hS (h _ _ (ha.putl hd v) hw hS)
theorem hz_do (i : Nat) {ops : Array Oper} {fuel : Nat} {listed : Array Bool} {o : Oper} {X : Type} {val : X → Value} {hs' : X → List HB} {pre : X → Prop} (hi : ops[i]? = some o) (hr : Region.ready .any ops listed = [i])
    (hw : ∀ a, Agree n l a → Region.wanted o (yielded ops a.tmps) = true) (hd : dstOk n o.dst = true) (hx : ExW P n w0 M l hs o val hs' pre) (z : X → Z) {is : List Nat} (hn : is.Nodup) (hS : ∀ x, pre x → At is (Sf (z x)) (hs' x))
    (h : ∀ x, pre x → HZ P n w0 M Q ops Sf fuel (listed.setIfInBounds i true) (putl l o.dst (val x)) (hs' x)) : HZ P n w0 M Q ops Sf (fuel + 1) listed l hs :=
  fun a w ha hw' _ => wpAnyH_all hr (by simp) fun j hj => by
    obtain rfl : j = i := by simpa using hj
    unfold wpOp
    simp only [hi, hw a ha, if_true]
    exact .inl (hx a w ha hw' _ _ fun x w2 hp h2 => ⟨⟨z x, h2.pick hn (hS x hp)⟩, h x hp _ _ (ha.putl hd _) h2 ⟨z x, h2.pick hn (hS x hp)⟩⟩)
theorem hz_done {ops : Array Oper} {fuel : Nat} {listed : Array Bool} (hr : Region.ready .any ops listed = []) (h : HK n w0 M (fun a w => Q .normal a w) l hs) : HZ P n w0 M Q ops Sf fuel listed l hs :=
  fun a w ha hw _ => wpAnyH_done hr (h a w ha hw) fuel
theorem hz_pick {ops : Array Oper} {fuel : Nat} {listed : Array Bool} {H : List HB} (is : List Nat) (hn : is.Nodup) (h2 : At is H hs) (h : HZ P n w0 M Q ops Sf fuel listed l H) : HZ P n w0 M Q ops Sf fuel listed l hs := fun a w ha hw hS => h a w ha (hw.pick hn h2) hS
end
theorem vws_get_set (W : List UInt32) (t j : Nat) (z : UInt32) (h : j < W.length) (hne : t ≠ j) : (vws (W.set t z))[j]? = some (vw (W.getD j 0)) := by
  have h' : j < (W.set t z).length := by simpa using h
  rw [vws_get _ _ h']
  simp [List.getD, List.getElem?_set, hne]
theorem set_self (W : List UInt32) (t : Nat) : W.set t (W.getD t 0) = W := by
  apply List.ext_getElem?
  intro i
  by_cases h : t = i
  · subst h
    by_cases hl : t < W.length
    · simp [List.getD, hl]
    · simp [List.getElem?_eq_none (Nat.le_of_not_lt hl), hl]
  · simp [List.getElem?_set, h]
end Go.Proofs.YtdmagjelmhcemaaDoor
