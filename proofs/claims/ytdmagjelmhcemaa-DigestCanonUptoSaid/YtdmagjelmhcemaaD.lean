/- Regions whose order is drawn, where two operations that turn the world are ready at once: both roads are walked. Nothing of a program. -/
import Derived.Test.YtdmagjelmhcemaaS
namespace Go.Proofs.Ytdmagjelmhcemaa
open Go.RowKit
set_option linter.unusedVariables false
set_option linter.unusedSimpArgs false
section
variable (P : Program) (n : Nat) (w0 : World) (M : List Nat)
def HB1 (Q : Exit → Act → World → Prop) (ops : Array Oper) (S : List HB) (fuel : Nat) (listed : Array Bool) (i : Nat) (l : List (Nat × Value)) (hs : List HB) : Prop :=
  ∀ a w, Agree n l a → Hp w0 M hs w → Hp w0 M S w → wpOp P ops Q i (fun a' w' => Hp w0 M S w' ∧ wpAnyH P .any ops Q (Hp w0 M S) fuel (listed.setIfInBounds i true) a' w') a w
end
section
variable {P : Program} {n : Nat} {w0 : World} {M : List Nat} {Q : Exit → Act → World → Prop} {l : List (Nat × Value)} {hs S : List HB}
theorem ha_split (i j : Nat) {ops : Array Oper} {fuel : Nat} {listed : Array Bool} (hr : Region.ready .any ops listed = [i, j]) (h1 : HB1 P n w0 M Q ops S fuel listed i l hs) (h2 : HB1 P n w0 M Q ops S fuel listed j l hs) : HA P n w0 M Q ops S (fuel + 1) listed l hs :=
  fun a w ha hw hS => wpAnyH_all hr (by simp) fun k hk => by
    rcases List.mem_cons.1 hk with rfl | hk
    · exact h1 a w ha hw hS
    · obtain rfl := List.mem_singleton.1 hk
      exact h2 a w ha hw hS
theorem ha_split3 (i j k : Nat) {ops : Array Oper} {fuel : Nat} {listed : Array Bool} (hr : Region.ready .any ops listed = [i, j, k]) (h1 : HB1 P n w0 M Q ops S fuel listed i l hs) (h2 : HB1 P n w0 M Q ops S fuel listed j l hs) (h3 : HB1 P n w0 M Q ops S fuel listed k l hs) : HA P n w0 M Q ops S (fuel + 1) listed l hs :=
  fun a w ha hw hS => wpAnyH_all hr (by simp) fun m hm => by
    simp only [List.mem_cons, List.not_mem_nil, or_false] at hm
    rcases hm with rfl | rfl | rfl
    · exact h1 a w ha hw hS
    · exact h2 a w ha hw hS
    · exact h3 a w ha hw hS
theorem hb_do (i : Nat) {ops : Array Oper} {fuel : Nat} {listed : Array Bool} {o : Oper} {X : Type} {val : X → Value} {hs' : X → List HB} {pre : X → Prop} (hi : ops[i]? = some o)
    (hw : ∀ a, Agree n l a → Region.wanted o (yielded ops a.tmps) = true) (hd : dstOk n o.dst = true) (hx : ExW P n w0 M l hs o val hs' pre) {is : List Nat} (hn : is.Nodup) (hS : ∀ x, pre x → At is S (hs' x))
    (h : ∀ x, pre x → HA P n w0 M Q ops S fuel (listed.setIfInBounds i true) (putl l o.dst (val x)) (hs' x)) : HB1 P n w0 M Q ops S fuel listed i l hs :=
  fun a w ha hw' _ => by
    unfold wpOp
    simp only [hi, hw a ha, if_true]
    exact .inl (hx a w ha hw' _ _ fun x w2 hp h2 => ⟨h2.pick hn (hS x hp), h x hp _ _ (ha.putl hd _) h2 (h2.pick hn (hS x hp))⟩)
theorem hb_pick {ops : Array Oper} {fuel : Nat} {listed : Array Bool} {i : Nat} {H : List HB} (is : List Nat) (hn : is.Nodup) (h2 : At is H hs) (h : HB1 P n w0 M Q ops S fuel listed i l H) : HB1 P n w0 M Q ops S fuel listed i l hs := fun a w ha hw hS => h a w ha (hw.pick hn h2) hS
theorem yielded_undef {ops : Array Oper} {a : Act} (ha : Agree n l a) {j s : Nat} (hj : (ops[j]?).bind (·.dst) = some s) (hl : look l s = some undef) (hn : Nat.blt s n = true) : yielded ops a.tmps j = none := by
  have hs : s < a.tmps.size := by rw [ha.size]; exact Nat.le_of_ble_eq_true hn
  have hv := ha.vals s undef hl
  unfold yielded
  rw [hj]
  simp only [Option.bind_some, Array.getElem?_eq_getElem hs]
  have e : a.tmps[s] = undef := by simpa [Array.getD, hs] using hv
  rw [e]; rfl
theorem ho_skipu {ops : Array Oper} {rest : List Oper} {o : Oper} {j s : Nat} {c : Bool} (hg : o.guard = some (j, c)) (hd : dstOk n o.dst = true) (hj : (ops[j]?).bind (·.dst) = some s) (hl : look l s = some undef) (hn : Nat.blt s n = true)
    (h : HO P n w0 M Q ops rest (putl l o.dst undef) hs) : HO P n w0 M Q ops (o :: rest) l hs := fun a w ha hw => by
  refine wpList_skip (by unfold Region.wanted; rw [hg]; simp only; rw [yielded_undef ha hj hl hn]; cases c <;> simp_all) ?_
  exact h _ _ (ha.putl hd undef) hw
theorem ha_skipu (i : Nat) {ops : Array Oper} {fuel : Nat} {listed : Array Bool} {o : Oper} {j s : Nat} {c : Bool} (hi : ops[i]? = some o) (hs' : Region.noSelect ops = true) (hf : Region.free .any ops listed i = true) (hr : (Region.ready .any ops listed).contains i = true)
    (hQ : ∀ c a w, Q (.panic c) (a.put o.dst undef) w → Q (.panic c) a w) (hg : o.guard = some (j, c)) (hd : dstOk n o.dst = true) (hj : (ops[j]?).bind (·.dst) = some s) (hl : look l s = some undef) (hn : Nat.blt s n = true)
    (h : HA P n w0 M Q ops S fuel (listed.setIfInBounds i true) (putl l o.dst undef) hs) : HA P n w0 M Q ops S (fuel + 1) listed l hs :=
  fun a w ha hw hS => wpAnyH_take hi hs' hf hr hQ (.inr ⟨by unfold Region.wanted; rw [hg]; simp only; rw [yielded_undef ha hj hl hn]; cases c <;> simp_all, rfl⟩) hS (h _ _ (ha.putl hd undef) hw hS)
theorem Hp.noneBlock {w : World} (h : Hp w0 M hs w) (cs : Array Value) (t : TypeId) : Hp w0 M (⟨none, cs, t, (0, 0)⟩ :: hs) w :=
  ⟨h.os, h.tape, h.output, h.size, h.block, fun x hx g hg => by
      rcases List.mem_cons.1 hx with rfl | hx
      · cases hg
      · exact h.own x hx g hg, fun x hx g hg => by
      rcases List.mem_cons.1 hx with rfl | hx
      · cases hg
      · exact h.new x hx g hg, .cons (fun x hx g hg => by cases hg) h.dis⟩
theorem hl_none_block {c : Code} (cs : Array Value) (t : TypeId) (h : HL P n w0 M Q c l (⟨none, cs, t, (0, 0)⟩ :: hs)) : HL P n w0 M Q c l hs := fun a w ha hw => h a w ha (hw.noneBlock cs t)
end
end Go.Proofs.Ytdmagjelmhcemaa
