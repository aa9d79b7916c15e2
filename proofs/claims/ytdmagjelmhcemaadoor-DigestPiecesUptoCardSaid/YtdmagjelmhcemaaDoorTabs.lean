/- A package-level table of words that a row lists: its cells. Nothing of a program. -/
import Derived.Test.YtdmagjelmhcemaaDoorSha
import Derived.Lib.LaidTab
import Derived.Stop.LaidErr
namespace Go.Proofs.YtdmagjelmhcemaaDoor
open Go.RowKit
set_option linter.unusedVariables false
set_option linter.unusedSimpArgs false
theorem tab_sl {P : Program} {W : World} {name : String} {l : List UInt32} {g : Nat} (h : Lib.TabIs P W name .u32 (l.map fun x => (x.toNat : Int))) (hg : P.globalNamed name = some g) : Sl W (some ⟨g, 0, none⟩) (l.map vw) := fun i v hv => by
  have hi : i < l.length := by have := (List.getElem?_eq_some_iff.1 hv).1; simpa using this
  refine ⟨⟨g, 0, none⟩, rfl, ?_⟩
  have hc := h.cell hg i (by simpa using hi)
  rw [add_plain', Nat.zero_add, hc, ← hv]
  simp [vw, hi, List.getD]
end Go.Proofs.YtdmagjelmhcemaaDoor
