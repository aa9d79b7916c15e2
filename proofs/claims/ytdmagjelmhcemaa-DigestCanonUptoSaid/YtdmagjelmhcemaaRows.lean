/-
  No cell of these rows narrows 'for every input' (looked for: loops, veiled, ifaces, maps, wideKeys, modest, calm, conditions, laid).
  DERIVED. THE GIVEN ROWS OF THIS SEAT. 5 by the template 'for every input the law returns true; each argument reads behind the call as it read before'; 0 by the template 'total and deterministic' (their statements: YtdmagjelmhcemaaTotals.lean).
  GIVEN WITH THE SEED: the statements are not yours to turn. If you find one false, say at which input.
  Laid BY PROGRAM, IN A SANDBOX (cutbox-rows.mjs): the forced cells as the released guide's own fill.sh prints them over the translation 3591b2f600203c99… (all of the seat's roots in one cut). By AI agents, Wed Nov 11 2026. No macro, syntax, notation, axiom, sorry.
-/
import Derived.Test.YtdmagjelmhcemaaChecked
import GoSem.Claim
import GoSem.ClaimJoined
import GoSem.ClaimMapViews
import Derived.JoinedTies
import Derived.KernelRfl
namespace Go.Proofs.Ytdmagjelmhcemaa
/- THE CELL 'sum', in the pinned program and in every row, IS THE sha256 OF THE DUMP (.gsa) THAT YtdmagjelmhcemaaProg.lean LOADS. Nothing in Lean hashes anything: it is a label: what it is worth is what the hold of that sum in a sandbox is worth. -/
noncomputable def Try.pinned : Pinned := { name := "ytdmagjelmhcemaa", sum := "3591b2f600203c999a4c5bd2086c08cb37f1b6ab6f62a35f47f591fbd55e3a73", checked := Try.checked }
namespace Rows
def none {H : Type} : Left H := { results := [], args := [] }

/-- 'graftlaw1.DigestFolds': WHATEVER THE INPUT: true; the input reads as it did. -/
def digestFoldsSpec : ChangeSpec := { name := "digestFolds", fn := fun _ => fun
  | [d1, d2] => { results := [.lit (.bool true)], args := [d1, d2] }
  | _ => none }
def digestFoldsRow : OpenClaim := { program := "ytdmagjelmhcemaa", sum := "3591b2f600203c999a4c5bd2086c08cb37f1b6ab6f62a35f47f591fbd55e3a73", func := "graft/graftlaw1.DigestFolds", spec := "digestFolds", apart := false }
def DigestFoldsSaid : Prop := digestFoldsRow.holds Try.pinned (OpenSpec.ofChange digestFoldsSpec)

/-- ITS FALSE NEIGHBOUR: 'it returns false'. Refute it at one input. -/
def digestFoldsWrong : ChangeSpec := { name := "digestFolds", fn := fun _ => fun
  | [d1, d2] => { results := [.lit (.bool false)], args := [d1, d2] }
  | _ => none }
def DigestFoldsWrongFalsely : Prop := digestFoldsRow.holds Try.pinned (OpenSpec.ofChange digestFoldsWrong)

/-- 'graftlaw1.DigestTexts': WHATEVER THE INPUT: true; the input reads as it did. -/
def digestTextsSpec : ChangeSpec := { name := "digestTexts", fn := fun _ => fun
  | [d1, d2, d3] => { results := [.lit (.bool true)], args := [d1, d2, d3] }
  | _ => none }
def digestTextsRow : OpenClaim := { program := "ytdmagjelmhcemaa", sum := "3591b2f600203c999a4c5bd2086c08cb37f1b6ab6f62a35f47f591fbd55e3a73", func := "graft/graftlaw1.DigestTexts", spec := "digestTexts", apart := false }
def DigestTextsSaid : Prop := digestTextsRow.holds Try.pinned (OpenSpec.ofChange digestTextsSpec)

/-- ITS FALSE NEIGHBOUR: 'it returns false'. Refute it at one input. -/
def digestTextsWrong : ChangeSpec := { name := "digestTexts", fn := fun _ => fun
  | [d1, d2, d3] => { results := [.lit (.bool false)], args := [d1, d2, d3] }
  | _ => none }
def DigestTextsWrongFalsely : Prop := digestTextsRow.holds Try.pinned (OpenSpec.ofChange digestTextsWrong)

/-- 'graftlaw1.DigestBack': WHATEVER THE INPUT: true; the input reads as it did. -/
def digestBackSpec : ChangeSpec := { name := "digestBack", fn := fun _ => fun
  | [d] => { results := [.lit (.bool true)], args := [d] }
  | _ => none }
def digestBackRow : OpenClaim := { program := "ytdmagjelmhcemaa", sum := "3591b2f600203c999a4c5bd2086c08cb37f1b6ab6f62a35f47f591fbd55e3a73", func := "graft/graftlaw1.DigestBack", spec := "digestBack", inPlace := ["internal/bytealg.IndexByteString"], apart := false }
def DigestBackSaid : Prop := digestBackRow.holds Try.pinned (OpenSpec.ofChange digestBackSpec)

/-- ITS FALSE NEIGHBOUR: 'it returns false'. Refute it at one input. -/
def digestBackWrong : ChangeSpec := { name := "digestBack", fn := fun _ => fun
  | [d] => { results := [.lit (.bool false)], args := [d] }
  | _ => none }
def DigestBackWrongFalsely : Prop := digestBackRow.holds Try.pinned (OpenSpec.ofChange digestBackWrong)

/-- 'graftlaw1.DigestReads': WHATEVER THE INPUT: true; the input reads as it did. -/
def digestReadsSpec : ChangeSpec := { name := "digestReads", fn := fun _ => fun
  | [d] => { results := [.lit (.bool true)], args := [d] }
  | _ => none }
def digestReadsRow : OpenClaim := { program := "ytdmagjelmhcemaa", sum := "3591b2f600203c999a4c5bd2086c08cb37f1b6ab6f62a35f47f591fbd55e3a73", func := "graft/graftlaw1.DigestReads", spec := "digestReads", inPlace := ["internal/bytealg.IndexByteString"], apart := false }
def DigestReadsSaid : Prop := digestReadsRow.holds Try.pinned (OpenSpec.ofChange digestReadsSpec)

/-- ITS FALSE NEIGHBOUR: 'it returns false'. Refute it at one input. -/
def digestReadsWrong : ChangeSpec := { name := "digestReads", fn := fun _ => fun
  | [d] => { results := [.lit (.bool false)], args := [d] }
  | _ => none }
def DigestReadsWrongFalsely : Prop := digestReadsRow.holds Try.pinned (OpenSpec.ofChange digestReadsWrong)

/-- 'graftlaw1.DigestCanon': WHATEVER THE INPUT: true; the input reads as it did. -/
def digestCanonSpec : ChangeSpec := { name := "digestCanon", fn := fun _ => fun
  | [d1, d2, d3] => { results := [.lit (.bool true)], args := [d1, d2, d3] }
  | _ => none }
def digestCanonRow : OpenClaim := { program := "ytdmagjelmhcemaa", sum := "3591b2f600203c999a4c5bd2086c08cb37f1b6ab6f62a35f47f591fbd55e3a73", func := "graft/graftlaw1.DigestCanon", spec := "digestCanon", inPlace := ["internal/bytealg.IndexByteString"], apart := false }
def DigestCanonSaid : Prop := digestCanonRow.holds Try.pinned (OpenSpec.ofChange digestCanonSpec)

/-- ITS FALSE NEIGHBOUR: 'it returns false'. Refute it at one input. -/
def digestCanonWrong : ChangeSpec := { name := "digestCanon", fn := fun _ => fun
  | [d1, d2, d3] => { results := [.lit (.bool false)], args := [d1, d2, d3] }
  | _ => none }
def DigestCanonWrongFalsely : Prop := digestCanonRow.holds Try.pinned (OpenSpec.ofChange digestCanonWrong)

/- THE SECOND FORM. 'bulk': how many values and letters a reading holds, each counted each time it is reached (what is shared counts as often as it is met; a slice's spare places count too). A statement '..UptoSaid' is the law's where the arguments, and the package variables that the reading takes, are together of bulk at most 1048576: NARROWER than '..Said'. Prove '..Said' where nothing that the law and all that it calls make is longer than what came in: it says more and counts as full. Else prove '..UptoSaid'. A law counts once. -/
mutual
def uptoBulk {H : Type} : DataW H → Nat
  | .lit (.string bytes) => bytes.length + 1
  | .lit _ => 1
  | .nil => 1
  | .ptr d => uptoBulk d + 1
  | .slice elems spare => uptoBulkAll elems + uptoBulkAll spare + 1
  | .agg parts => uptoBulkAll parts + 1
  | .iface _ d => uptoBulk d + 1
  | .map entries => uptoBulkEntries entries + 1
  | .held _ => 1
def uptoBulkAll {H : Type} : List (DataW H) → Nat
  | [] => 0
  | d :: r => uptoBulk d + uptoBulkAll r
def uptoBulkEntries {H : Type} : List (Lit × DataW H) → Nat
  | [] => 0
  | x :: r => uptoBulkEntry x + uptoBulkEntries r
def uptoBulkEntry {H : Type} : Lit × DataW H → Nat
  | (.string bytes, d) => bytes.length + uptoBulk d + 1
  | (_, d) => uptoBulk d + 1
 end
def uptoSmall : (H : Type) → List (DataW H) → Bool := fun _ ds => decide (uptoBulkAll ds ≤ 1048576)
def OpenSpec.upto (s : _root_.Go.ChangeSpec) : _root_.Go.OpenSpec := { _root_.Go.OpenSpec.ofChange s with cond := some uptoSmall }

/-- 'graftlaw1.DigestFolds', WHERE WHAT IT READS IS OF BULK AT MOST 1048576: true; the input reads as it did. -/
def digestFoldsUptoRow : OpenClaim := { program := "ytdmagjelmhcemaa", sum := "3591b2f600203c999a4c5bd2086c08cb37f1b6ab6f62a35f47f591fbd55e3a73", func := "graft/graftlaw1.DigestFolds", spec := "digestFolds", apart := false, narrowed := true }
def DigestFoldsUptoSaid : Prop := digestFoldsUptoRow.holds Try.pinned (OpenSpec.upto digestFoldsSpec)

/-- 'graftlaw1.DigestTexts', WHERE WHAT IT READS IS OF BULK AT MOST 1048576: true; the input reads as it did. -/
def digestTextsUptoRow : OpenClaim := { program := "ytdmagjelmhcemaa", sum := "3591b2f600203c999a4c5bd2086c08cb37f1b6ab6f62a35f47f591fbd55e3a73", func := "graft/graftlaw1.DigestTexts", spec := "digestTexts", apart := false, narrowed := true }
def DigestTextsUptoSaid : Prop := digestTextsUptoRow.holds Try.pinned (OpenSpec.upto digestTextsSpec)

/-- 'graftlaw1.DigestBack', WHERE WHAT IT READS IS OF BULK AT MOST 1048576: true; the input reads as it did. -/
def digestBackUptoRow : OpenClaim := { program := "ytdmagjelmhcemaa", sum := "3591b2f600203c999a4c5bd2086c08cb37f1b6ab6f62a35f47f591fbd55e3a73", func := "graft/graftlaw1.DigestBack", spec := "digestBack", inPlace := ["internal/bytealg.IndexByteString"], apart := false, narrowed := true }
def DigestBackUptoSaid : Prop := digestBackUptoRow.holds Try.pinned (OpenSpec.upto digestBackSpec)

/-- 'graftlaw1.DigestReads', WHERE WHAT IT READS IS OF BULK AT MOST 1048576: true; the input reads as it did. -/
def digestReadsUptoRow : OpenClaim := { program := "ytdmagjelmhcemaa", sum := "3591b2f600203c999a4c5bd2086c08cb37f1b6ab6f62a35f47f591fbd55e3a73", func := "graft/graftlaw1.DigestReads", spec := "digestReads", inPlace := ["internal/bytealg.IndexByteString"], apart := false, narrowed := true }
def DigestReadsUptoSaid : Prop := digestReadsUptoRow.holds Try.pinned (OpenSpec.upto digestReadsSpec)

/-- 'graftlaw1.DigestCanon', WHERE WHAT IT READS IS OF BULK AT MOST 1048576: true; the input reads as it did. -/
def digestCanonUptoRow : OpenClaim := { program := "ytdmagjelmhcemaa", sum := "3591b2f600203c999a4c5bd2086c08cb37f1b6ab6f62a35f47f591fbd55e3a73", func := "graft/graftlaw1.DigestCanon", spec := "digestCanon", inPlace := ["internal/bytealg.IndexByteString"], apart := false, narrowed := true }
def DigestCanonUptoSaid : Prop := digestCanonUptoRow.holds Try.pinned (OpenSpec.upto digestCanonSpec)

end Rows
end Go.Proofs.Ytdmagjelmhcemaa
