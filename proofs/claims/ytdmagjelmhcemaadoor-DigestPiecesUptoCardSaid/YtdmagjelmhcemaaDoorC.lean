/- A literal list of bytes, turned to its own type: its block is marked. Nothing of a program. -/
import Derived.Test.YtdmagjelmhcemaaDoorS
namespace Go.Proofs.YtdmagjelmhcemaaDoor
open Go.RowKit
set_option linter.unusedVariables false
set_option linter.unusedSimpArgs false
theorem freeze_row (w : World) (g : Nat) (cs : Array Value) (t : TypeId) (k : Nat) (h : w.heap[g]? = some (.cells cs t (0, 0))) : (w.freeze ⟨g, k, none⟩ 1).heap[g]? = some (.cells cs t (k, k + 1)) := by
  unfold World.freeze
  rw [if_neg (by decide)]
  simp [Array.getElem?_modify, h]
theorem freeze_other (w : World) (g k i : Nat) (h : i ≠ g) : (w.freeze ⟨g, k, none⟩ 1).heap[i]? = w.heap[i]? := by
  unfold World.freeze
  rw [if_neg (by decide)]
  simp [Array.getElem?_modify, Ne.symm h]
theorem freeze_hp (w : World) (g : Nat) (cs : Array Value) (t : TypeId) (k : Nat) (h : w.heap[g]? = some (.cells cs t (0, 0))) : Hp w [g] [⟨some g, cs, t, (k, k + 1)⟩] (w.freeze ⟨g, k, none⟩ 1) :=
  ⟨by unfold World.freeze; rw [if_neg (by decide)], by unfold World.freeze; rw [if_neg (by decide)], by unfold World.freeze; rw [if_neg (by decide)], by unfold World.freeze; rw [if_neg (by decide)]; simp, fun i _ hi => freeze_other w g k i (by simpa using hi), fun x hx q hq => by
      obtain rfl := List.mem_singleton.1 hx; obtain rfl := Option.some.inj hq; exact freeze_row w g cs t k h, fun x hx q hq => by
      obtain rfl := List.mem_singleton.1 hx; obtain rfl := Option.some.inj hq; exact .inr (by simp), List.pairwise_singleton _ _⟩
section
variable {P : Program} {n : Nat} {w0 : World} {M : List Nat} {l : List (Nat × Value)} {hs2 : List HB}
variable {d : Option Tmp} {ty : TypeId} {pos : String} {af : Array Edge} {gd : Option (Nat × Bool)}
theorem exw_conv_lit {t e et : TypeId} {x : Operand} {g m c : Nat} {cs : Array Value} (hx : ev l x = some (slv (some ⟨g, 0, none⟩) m c)) (ht : P.underlying t = some (.slice e)) (he : P.underlying e = some (.int .u8)) :
    ExW P n w0 M l (⟨some g, cs, et, (0, 0)⟩ :: hs2) ⟨d, .convert t t x, ty, pos, af, gd⟩ (fun _ : Unit => slv (some ⟨g, 0, none⟩) m c) (fun _ => ⟨some g, cs, et, (cs.size, cs.size + 1)⟩ :: hs2) (fun _ => True) := exw_new fun a w ha hw => by
  have hg : w.heap[g]? = some (.cells cs et (0, 0)) := hw.own ⟨some g, cs, et, (0, 0)⟩ (by simp) g rfl
  refine ⟨(), w.freeze ⟨g, cs.size, none⟩ 1, trivial, hw.comp (A := [_]) (Mc := [g]) (fun k hk => ⟨_, List.mem_cons_self, by rw [List.mem_singleton.1 hk]⟩) (freeze_hp w g cs et cs.size hg), ?_⟩
  show Sem.run P (do pure (Next.value (← convert t t (a.eval x)))) w = _
  rw [ha.ev hx]
  refine run_v ?_
  have hsh : w.shape? g = some (et, cs.size) := by unfold World.shape?; rw [hg]
  simp [convert, slv, run_underlying ht w, run_underlying he w, markStringish, hsh]
end
theorem all_get {vs : List Value} : ∀ j v, vs[j]? = some v → vs.toArray[0 + j]? = some v := fun j v h => by simpa using h
end Go.Proofs.YtdmagjelmhcemaaDoor
