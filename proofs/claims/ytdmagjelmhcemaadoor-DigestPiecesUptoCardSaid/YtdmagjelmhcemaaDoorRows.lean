/-
  NARROWER THAN 'FOR EVERY INPUT', by the rows' own cells (each row's printed sentence says how): DigestSums: laid · DigestHashers: laid · DigestNil: laid · DigestPieces: laid · DigestApart: laid · DigestMacs: laid · DigestKnown: laid · DigestKeyed: laid · DigestLabels: laid.
  DERIVED. THE GIVEN ROWS OF THIS SEAT. 9 by the template 'for every input the law returns true; each argument reads behind the call as it read before'; 0 by the template 'total and deterministic' (their statements: YtdmagjelmhcemaaDoorTotals.lean).
  GIVEN WITH THE SEED: the statements are not yours to turn. If you find one false, say at which input.
  Laid BY PROGRAM, IN A SANDBOX (cutbox-rows.mjs): the forced cells as the released guide's own fill.sh prints them over the translation 5ad9fe3323c9c14a… (all of the seat's roots in one cut). By AI agents, Wed Nov 11 2026. No macro, syntax, notation, axiom, sorry.
-/
import Derived.Test.YtdmagjelmhcemaaDoorChecked
import GoSem.Claim
import GoSem.ClaimJoined
import GoSem.ClaimMapViews
import Derived.JoinedTies
import Derived.KernelRfl
namespace Go.Proofs.YtdmagjelmhcemaaDoor
/- THE CELL 'sum', in the pinned program and in every row, IS THE sha256 OF THE DUMP (.gsa) THAT YtdmagjelmhcemaaDoorProg.lean LOADS. Nothing in Lean hashes anything: it is a label: what it is worth is what the hold of that sum in a sandbox is worth. -/
noncomputable def Tryd.pinned : Pinned := { name := "ytdmagjelmhcemaadoor", sum := "5ad9fe3323c9c14a024c7bb454fe992c97112189393ced6157123e26c63a8902", checked := Tryd.checked }
namespace Rows
def none {H : Type} : Left H := { results := [], args := [] }

/- WHAT THE LISTED PACKAGE-LEVEL VARIABLES READ AS WHEN THE CALL BEGINS. Each datum BY PROGRAM (the guide's laid-datum.mjs) off the statement by which the dump's own 'gosem.cut.vars' lays the variable. In a bare row this is a premise. The card (YtdmagjelmhcemaaDoorCards.lean) ties it to the program's text. -/
def laid_graft_graftref1_tableK {H : Type} : DataW H := .agg [.lit (.int .u32 1116352408), .lit (.int .u32 1899447441), .lit (.int .u32 3049323471), .lit (.int .u32 3921009573), .lit (.int .u32 961987163), .lit (.int .u32 1508970993), .lit (.int .u32 2453635748), .lit (.int .u32 2870763221), .lit (.int .u32 3624381080), .lit (.int .u32 310598401), .lit (.int .u32 607225278), .lit (.int .u32 1426881987), .lit (.int .u32 1925078388), .lit (.int .u32 2162078206), .lit (.int .u32 2614888103), .lit (.int .u32 3248222580), .lit (.int .u32 3835390401), .lit (.int .u32 4022224774), .lit (.int .u32 264347078), .lit (.int .u32 604807628), .lit (.int .u32 770255983), .lit (.int .u32 1249150122), .lit (.int .u32 1555081692), .lit (.int .u32 1996064986), .lit (.int .u32 2554220882), .lit (.int .u32 2821834349), .lit (.int .u32 2952996808), .lit (.int .u32 3210313671), .lit (.int .u32 3336571891), .lit (.int .u32 3584528711), .lit (.int .u32 113926993), .lit (.int .u32 338241895), .lit (.int .u32 666307205), .lit (.int .u32 773529912), .lit (.int .u32 1294757372), .lit (.int .u32 1396182291), .lit (.int .u32 1695183700), .lit (.int .u32 1986661051), .lit (.int .u32 2177026350), .lit (.int .u32 2456956037), .lit (.int .u32 2730485921), .lit (.int .u32 2820302411), .lit (.int .u32 3259730800), .lit (.int .u32 3345764771), .lit (.int .u32 3516065817), .lit (.int .u32 3600352804), .lit (.int .u32 4094571909), .lit (.int .u32 275423344), .lit (.int .u32 430227734), .lit (.int .u32 506948616), .lit (.int .u32 659060556), .lit (.int .u32 883997877), .lit (.int .u32 958139571), .lit (.int .u32 1322822218), .lit (.int .u32 1537002063), .lit (.int .u32 1747873779), .lit (.int .u32 1955562222), .lit (.int .u32 2024104815), .lit (.int .u32 2227730452), .lit (.int .u32 2361852424), .lit (.int .u32 2428436474), .lit (.int .u32 2756734187), .lit (.int .u32 3204031479), .lit (.int .u32 3329325298)]
def laid_graft_graftref1_tableH {H : Type} : DataW H := .agg [.lit (.int .u32 1779033703), .lit (.int .u32 3144134277), .lit (.int .u32 1013904242), .lit (.int .u32 2773480762), .lit (.int .u32 1359893119), .lit (.int .u32 2600822924), .lit (.int .u32 528734635), .lit (.int .u32 1541459225)]
def laid_graft_digest_rounds {H : Type} : DataW H := .agg [.lit (.int .u32 1116352408), .lit (.int .u32 1899447441), .lit (.int .u32 3049323471), .lit (.int .u32 3921009573), .lit (.int .u32 961987163), .lit (.int .u32 1508970993), .lit (.int .u32 2453635748), .lit (.int .u32 2870763221), .lit (.int .u32 3624381080), .lit (.int .u32 310598401), .lit (.int .u32 607225278), .lit (.int .u32 1426881987), .lit (.int .u32 1925078388), .lit (.int .u32 2162078206), .lit (.int .u32 2614888103), .lit (.int .u32 3248222580), .lit (.int .u32 3835390401), .lit (.int .u32 4022224774), .lit (.int .u32 264347078), .lit (.int .u32 604807628), .lit (.int .u32 770255983), .lit (.int .u32 1249150122), .lit (.int .u32 1555081692), .lit (.int .u32 1996064986), .lit (.int .u32 2554220882), .lit (.int .u32 2821834349), .lit (.int .u32 2952996808), .lit (.int .u32 3210313671), .lit (.int .u32 3336571891), .lit (.int .u32 3584528711), .lit (.int .u32 113926993), .lit (.int .u32 338241895), .lit (.int .u32 666307205), .lit (.int .u32 773529912), .lit (.int .u32 1294757372), .lit (.int .u32 1396182291), .lit (.int .u32 1695183700), .lit (.int .u32 1986661051), .lit (.int .u32 2177026350), .lit (.int .u32 2456956037), .lit (.int .u32 2730485921), .lit (.int .u32 2820302411), .lit (.int .u32 3259730800), .lit (.int .u32 3345764771), .lit (.int .u32 3516065817), .lit (.int .u32 3600352804), .lit (.int .u32 4094571909), .lit (.int .u32 275423344), .lit (.int .u32 430227734), .lit (.int .u32 506948616), .lit (.int .u32 659060556), .lit (.int .u32 883997877), .lit (.int .u32 958139571), .lit (.int .u32 1322822218), .lit (.int .u32 1537002063), .lit (.int .u32 1747873779), .lit (.int .u32 1955562222), .lit (.int .u32 2024104815), .lit (.int .u32 2227730452), .lit (.int .u32 2361852424), .lit (.int .u32 2428436474), .lit (.int .u32 2756734187), .lit (.int .u32 3204031479), .lit (.int .u32 3329325298)]
def laid_graft_digest_begin {H : Type} : DataW H := .agg [.lit (.int .u32 1779033703), .lit (.int .u32 3144134277), .lit (.int .u32 1013904242), .lit (.int .u32 2773480762), .lit (.int .u32 1359893119), .lit (.int .u32 2600822924), .lit (.int .u32 528734635), .lit (.int .u32 1541459225)]

/-- 'graftlaw1.DigestSums': WHATEVER THE INPUT: true; the input reads as it did. -/
def digestSumsSpec : ChangeSpec := { name := "digestSums", fn := fun _ => fun
  | [d] => { results := [.lit (.bool true)], args := [d] }
  | _ => none }
def digestSumsRow : OpenClaim := { program := "ytdmagjelmhcemaadoor", sum := "5ad9fe3323c9c14a024c7bb454fe992c97112189393ced6157123e26c63a8902", func := "graft/graftlaw1.DigestSums", spec := "digestSums", named := ["graft/digest.begin", "graft/digest.rounds", "graft/graftref1.tableH", "graft/graftref1.tableK"], apart := false, laid := [("graft/graftref1.tableK", laid_graft_graftref1_tableK), ("graft/graftref1.tableH", laid_graft_graftref1_tableH), ("graft/digest.rounds", laid_graft_digest_rounds), ("graft/digest.begin", laid_graft_digest_begin)] }
def DigestSumsSaid : Prop := digestSumsRow.holds Tryd.pinned (OpenSpec.ofChange digestSumsSpec)

/-- ITS FALSE NEIGHBOUR: 'it returns false'. Refute it at one input. -/
def digestSumsWrong : ChangeSpec := { name := "digestSums", fn := fun _ => fun
  | [d] => { results := [.lit (.bool false)], args := [d] }
  | _ => none }
def DigestSumsWrongFalsely : Prop := digestSumsRow.holds Tryd.pinned (OpenSpec.ofChange digestSumsWrong)

/-- 'graftlaw1.DigestHashers': WHATEVER THE INPUT: true; the input reads as it did. -/
def digestHashersSpec : ChangeSpec := { name := "digestHashers", fn := fun _ => fun
  | [d] => { results := [.lit (.bool true)], args := [d] }
  | _ => none }
def digestHashersRow : OpenClaim := { program := "ytdmagjelmhcemaadoor", sum := "5ad9fe3323c9c14a024c7bb454fe992c97112189393ced6157123e26c63a8902", func := "graft/graftlaw1.DigestHashers", spec := "digestHashers", named := ["graft/digest.begin", "graft/digest.rounds", "graft/graftref1.tableH", "graft/graftref1.tableK"], apart := false, laid := [("graft/graftref1.tableK", laid_graft_graftref1_tableK), ("graft/graftref1.tableH", laid_graft_graftref1_tableH), ("graft/digest.rounds", laid_graft_digest_rounds), ("graft/digest.begin", laid_graft_digest_begin)] }
def DigestHashersSaid : Prop := digestHashersRow.holds Tryd.pinned (OpenSpec.ofChange digestHashersSpec)

/-- ITS FALSE NEIGHBOUR: 'it returns false'. Refute it at one input. -/
def digestHashersWrong : ChangeSpec := { name := "digestHashers", fn := fun _ => fun
  | [d] => { results := [.lit (.bool false)], args := [d] }
  | _ => none }
def DigestHashersWrongFalsely : Prop := digestHashersRow.holds Tryd.pinned (OpenSpec.ofChange digestHashersWrong)

/-- 'graftlaw1.DigestNil': WHATEVER THE INPUT: true; the input reads as it did. -/
def digestNilSpec : ChangeSpec := { name := "digestNil", fn := fun _ => fun
  | [] => { results := [.lit (.bool true)], args := [] }
  | _ => none }
def digestNilRow : OpenClaim := { program := "ytdmagjelmhcemaadoor", sum := "5ad9fe3323c9c14a024c7bb454fe992c97112189393ced6157123e26c63a8902", func := "graft/graftlaw1.DigestNil", spec := "digestNil", named := ["graft/digest.begin", "graft/digest.rounds"], apart := false, laid := [("graft/digest.rounds", laid_graft_digest_rounds), ("graft/digest.begin", laid_graft_digest_begin)] }
def DigestNilSaid : Prop := digestNilRow.holds Tryd.pinned (OpenSpec.ofChange digestNilSpec)

/-- ITS FALSE NEIGHBOUR: 'it returns false'. Refute it at one input. -/
def digestNilWrong : ChangeSpec := { name := "digestNil", fn := fun _ => fun
  | [] => { results := [.lit (.bool false)], args := [] }
  | _ => none }
def DigestNilWrongFalsely : Prop := digestNilRow.holds Tryd.pinned (OpenSpec.ofChange digestNilWrong)

/-- 'graftlaw1.DigestPieces': WHATEVER THE INPUT: true; the input reads as it did. -/
def digestPiecesSpec : ChangeSpec := { name := "digestPieces", fn := fun _ => fun
  | [d1, d2] => { results := [.lit (.bool true)], args := [d1, d2] }
  | _ => none }
def digestPiecesRow : OpenClaim := { program := "ytdmagjelmhcemaadoor", sum := "5ad9fe3323c9c14a024c7bb454fe992c97112189393ced6157123e26c63a8902", func := "graft/graftlaw1.DigestPieces", spec := "digestPieces", named := ["graft/digest.begin", "graft/digest.rounds"], apart := false, laid := [("graft/digest.rounds", laid_graft_digest_rounds), ("graft/digest.begin", laid_graft_digest_begin)] }
def DigestPiecesSaid : Prop := digestPiecesRow.holds Tryd.pinned (OpenSpec.ofChange digestPiecesSpec)

/-- ITS FALSE NEIGHBOUR: 'it returns false'. Refute it at one input. -/
def digestPiecesWrong : ChangeSpec := { name := "digestPieces", fn := fun _ => fun
  | [d1, d2] => { results := [.lit (.bool false)], args := [d1, d2] }
  | _ => none }
def DigestPiecesWrongFalsely : Prop := digestPiecesRow.holds Tryd.pinned (OpenSpec.ofChange digestPiecesWrong)

/-- 'graftlaw1.DigestApart': WHATEVER THE INPUT: true; the input reads as it did. -/
def digestApartSpec : ChangeSpec := { name := "digestApart", fn := fun _ => fun
  | [d1, d2, d3] => { results := [.lit (.bool true)], args := [d1, d2, d3] }
  | _ => none }
def digestApartRow : OpenClaim := { program := "ytdmagjelmhcemaadoor", sum := "5ad9fe3323c9c14a024c7bb454fe992c97112189393ced6157123e26c63a8902", func := "graft/graftlaw1.DigestApart", spec := "digestApart", named := ["graft/digest.begin", "graft/digest.rounds"], apart := false, laid := [("graft/digest.rounds", laid_graft_digest_rounds), ("graft/digest.begin", laid_graft_digest_begin)] }
def DigestApartSaid : Prop := digestApartRow.holds Tryd.pinned (OpenSpec.ofChange digestApartSpec)

/-- ITS FALSE NEIGHBOUR: 'it returns false'. Refute it at one input. -/
def digestApartWrong : ChangeSpec := { name := "digestApart", fn := fun _ => fun
  | [d1, d2, d3] => { results := [.lit (.bool false)], args := [d1, d2, d3] }
  | _ => none }
def DigestApartWrongFalsely : Prop := digestApartRow.holds Tryd.pinned (OpenSpec.ofChange digestApartWrong)

/-- 'graftlaw1.DigestMacs': WHATEVER THE INPUT: true; the input reads as it did. -/
def digestMacsSpec : ChangeSpec := { name := "digestMacs", fn := fun _ => fun
  | [d1, d2] => { results := [.lit (.bool true)], args := [d1, d2] }
  | _ => none }
def digestMacsRow : OpenClaim := { program := "ytdmagjelmhcemaadoor", sum := "5ad9fe3323c9c14a024c7bb454fe992c97112189393ced6157123e26c63a8902", func := "graft/graftlaw1.DigestMacs", spec := "digestMacs", named := ["graft/digest.begin", "graft/digest.rounds", "graft/graftref1.tableH", "graft/graftref1.tableK"], apart := false, laid := [("graft/graftref1.tableK", laid_graft_graftref1_tableK), ("graft/graftref1.tableH", laid_graft_graftref1_tableH), ("graft/digest.rounds", laid_graft_digest_rounds), ("graft/digest.begin", laid_graft_digest_begin)] }
def DigestMacsSaid : Prop := digestMacsRow.holds Tryd.pinned (OpenSpec.ofChange digestMacsSpec)

/-- ITS FALSE NEIGHBOUR: 'it returns false'. Refute it at one input. -/
def digestMacsWrong : ChangeSpec := { name := "digestMacs", fn := fun _ => fun
  | [d1, d2] => { results := [.lit (.bool false)], args := [d1, d2] }
  | _ => none }
def DigestMacsWrongFalsely : Prop := digestMacsRow.holds Tryd.pinned (OpenSpec.ofChange digestMacsWrong)

/-- 'graftlaw1.DigestKnown': WHATEVER THE INPUT: true; the input reads as it did. -/
def digestKnownSpec : ChangeSpec := { name := "digestKnown", fn := fun _ => fun
  | [] => { results := [.lit (.bool true)], args := [] }
  | _ => none }
def digestKnownRow : OpenClaim := { program := "ytdmagjelmhcemaadoor", sum := "5ad9fe3323c9c14a024c7bb454fe992c97112189393ced6157123e26c63a8902", func := "graft/graftlaw1.DigestKnown", spec := "digestKnown", named := ["graft/digest.begin", "graft/digest.rounds"], apart := false, laid := [("graft/digest.rounds", laid_graft_digest_rounds), ("graft/digest.begin", laid_graft_digest_begin)] }
def DigestKnownSaid : Prop := digestKnownRow.holds Tryd.pinned (OpenSpec.ofChange digestKnownSpec)

/-- ITS FALSE NEIGHBOUR: 'it returns false'. Refute it at one input. -/
def digestKnownWrong : ChangeSpec := { name := "digestKnown", fn := fun _ => fun
  | [] => { results := [.lit (.bool false)], args := [] }
  | _ => none }
def DigestKnownWrongFalsely : Prop := digestKnownRow.holds Tryd.pinned (OpenSpec.ofChange digestKnownWrong)

/-- 'graftlaw1.DigestKeyed': WHATEVER THE INPUT: true; the input reads as it did. -/
def digestKeyedSpec : ChangeSpec := { name := "digestKeyed", fn := fun _ => fun
  | [d1, d2] => { results := [.lit (.bool true)], args := [d1, d2] }
  | _ => none }
def digestKeyedRow : OpenClaim := { program := "ytdmagjelmhcemaadoor", sum := "5ad9fe3323c9c14a024c7bb454fe992c97112189393ced6157123e26c63a8902", func := "graft/graftlaw1.DigestKeyed", spec := "digestKeyed", named := ["graft/digest.begin", "graft/digest.rounds"], apart := false, laid := [("graft/digest.rounds", laid_graft_digest_rounds), ("graft/digest.begin", laid_graft_digest_begin)] }
def DigestKeyedSaid : Prop := digestKeyedRow.holds Tryd.pinned (OpenSpec.ofChange digestKeyedSpec)

/-- ITS FALSE NEIGHBOUR: 'it returns false'. Refute it at one input. -/
def digestKeyedWrong : ChangeSpec := { name := "digestKeyed", fn := fun _ => fun
  | [d1, d2] => { results := [.lit (.bool false)], args := [d1, d2] }
  | _ => none }
def DigestKeyedWrongFalsely : Prop := digestKeyedRow.holds Tryd.pinned (OpenSpec.ofChange digestKeyedWrong)

/-- 'graftlaw1.DigestLabels': WHATEVER THE INPUT: true; the input reads as it did. -/
def digestLabelsSpec : ChangeSpec := { name := "digestLabels", fn := fun _ => fun
  | [d1, d2, d3, d4] => { results := [.lit (.bool true)], args := [d1, d2, d3, d4] }
  | _ => none }
def digestLabelsRow : OpenClaim := { program := "ytdmagjelmhcemaadoor", sum := "5ad9fe3323c9c14a024c7bb454fe992c97112189393ced6157123e26c63a8902", func := "graft/graftlaw1.DigestLabels", spec := "digestLabels", inPlace := ["internal/bytealg.IndexByteString"], named := ["graft/digest.begin", "graft/digest.rounds"], apart := false, laid := [("graft/digest.rounds", laid_graft_digest_rounds), ("graft/digest.begin", laid_graft_digest_begin)] }
def DigestLabelsSaid : Prop := digestLabelsRow.holds Tryd.pinned (OpenSpec.ofChange digestLabelsSpec)

/-- ITS FALSE NEIGHBOUR: 'it returns false'. Refute it at one input. -/
def digestLabelsWrong : ChangeSpec := { name := "digestLabels", fn := fun _ => fun
  | [d1, d2, d3, d4] => { results := [.lit (.bool false)], args := [d1, d2, d3, d4] }
  | _ => none }
def DigestLabelsWrongFalsely : Prop := digestLabelsRow.holds Tryd.pinned (OpenSpec.ofChange digestLabelsWrong)

/- THE SECOND FORM. 'bulk': how many values and letters a reading holds, each counted each time it is reached (what is shared counts as often as it is met; a slice's spare places count too). A statement '..UptoSaid' is the law's where the arguments, and the package variables that the reading takes, are together of bulk at most 1048576: NARROWER than '..Said'. Prove '..Said' where nothing that the law and all that it calls make is longer than what came in: it says more and counts as full. Else prove '..UptoSaid'. A law counts once. -/
mutual
def uptoBulk {H : Type} : DataW H → Nat
  | .lit (.string bytes) => bytes.length + 1
  | .lit _ => 1
  | .nil => 1
  | .ptr d => uptoBulk d + 1
  | .slice elems spare => uptoBulkAll elems + uptoBulkAll spare + 1
  | .agg parts => uptoBulkAll parts + 1
  | .iface _ d => uptoBulk d + 1
  | .map entries => uptoBulkEntries entries + 1
  | .held _ => 1
def uptoBulkAll {H : Type} : List (DataW H) → Nat
  | [] => 0
  | d :: r => uptoBulk d + uptoBulkAll r
def uptoBulkEntries {H : Type} : List (Lit × DataW H) → Nat
  | [] => 0
  | x :: r => uptoBulkEntry x + uptoBulkEntries r
def uptoBulkEntry {H : Type} : Lit × DataW H → Nat
  | (.string bytes, d) => bytes.length + uptoBulk d + 1
  | (_, d) => uptoBulk d + 1
 end
def uptoSmall : (H : Type) → List (DataW H) → Bool := fun _ ds => decide (uptoBulkAll ds ≤ 1048576)
def OpenSpec.upto (s : _root_.Go.ChangeSpec) : _root_.Go.OpenSpec := { _root_.Go.OpenSpec.ofChange s with cond := some uptoSmall }

/-- 'graftlaw1.DigestSums', WHERE WHAT IT READS IS OF BULK AT MOST 1048576: true; the input reads as it did. -/
def digestSumsUptoRow : OpenClaim := { program := "ytdmagjelmhcemaadoor", sum := "5ad9fe3323c9c14a024c7bb454fe992c97112189393ced6157123e26c63a8902", func := "graft/graftlaw1.DigestSums", spec := "digestSums", named := ["graft/digest.begin", "graft/digest.rounds", "graft/graftref1.tableH", "graft/graftref1.tableK"], apart := false, laid := [("graft/graftref1.tableK", laid_graft_graftref1_tableK), ("graft/graftref1.tableH", laid_graft_graftref1_tableH), ("graft/digest.rounds", laid_graft_digest_rounds), ("graft/digest.begin", laid_graft_digest_begin)], narrowed := true }
def DigestSumsUptoSaid : Prop := digestSumsUptoRow.holds Tryd.pinned (OpenSpec.upto digestSumsSpec)

/-- 'graftlaw1.DigestHashers', WHERE WHAT IT READS IS OF BULK AT MOST 1048576: true; the input reads as it did. -/
def digestHashersUptoRow : OpenClaim := { program := "ytdmagjelmhcemaadoor", sum := "5ad9fe3323c9c14a024c7bb454fe992c97112189393ced6157123e26c63a8902", func := "graft/graftlaw1.DigestHashers", spec := "digestHashers", named := ["graft/digest.begin", "graft/digest.rounds", "graft/graftref1.tableH", "graft/graftref1.tableK"], apart := false, laid := [("graft/graftref1.tableK", laid_graft_graftref1_tableK), ("graft/graftref1.tableH", laid_graft_graftref1_tableH), ("graft/digest.rounds", laid_graft_digest_rounds), ("graft/digest.begin", laid_graft_digest_begin)], narrowed := true }
def DigestHashersUptoSaid : Prop := digestHashersUptoRow.holds Tryd.pinned (OpenSpec.upto digestHashersSpec)

/-- 'graftlaw1.DigestNil', WHERE WHAT IT READS IS OF BULK AT MOST 1048576: true; the input reads as it did. -/
def digestNilUptoRow : OpenClaim := { program := "ytdmagjelmhcemaadoor", sum := "5ad9fe3323c9c14a024c7bb454fe992c97112189393ced6157123e26c63a8902", func := "graft/graftlaw1.DigestNil", spec := "digestNil", named := ["graft/digest.begin", "graft/digest.rounds"], apart := false, laid := [("graft/digest.rounds", laid_graft_digest_rounds), ("graft/digest.begin", laid_graft_digest_begin)], narrowed := true }
def DigestNilUptoSaid : Prop := digestNilUptoRow.holds Tryd.pinned (OpenSpec.upto digestNilSpec)

/-- 'graftlaw1.DigestPieces', WHERE WHAT IT READS IS OF BULK AT MOST 1048576: true; the input reads as it did. -/
def digestPiecesUptoRow : OpenClaim := { program := "ytdmagjelmhcemaadoor", sum := "5ad9fe3323c9c14a024c7bb454fe992c97112189393ced6157123e26c63a8902", func := "graft/graftlaw1.DigestPieces", spec := "digestPieces", named := ["graft/digest.begin", "graft/digest.rounds"], apart := false, laid := [("graft/digest.rounds", laid_graft_digest_rounds), ("graft/digest.begin", laid_graft_digest_begin)], narrowed := true }
def DigestPiecesUptoSaid : Prop := digestPiecesUptoRow.holds Tryd.pinned (OpenSpec.upto digestPiecesSpec)

/-- 'graftlaw1.DigestApart', WHERE WHAT IT READS IS OF BULK AT MOST 1048576: true; the input reads as it did. -/
def digestApartUptoRow : OpenClaim := { program := "ytdmagjelmhcemaadoor", sum := "5ad9fe3323c9c14a024c7bb454fe992c97112189393ced6157123e26c63a8902", func := "graft/graftlaw1.DigestApart", spec := "digestApart", named := ["graft/digest.begin", "graft/digest.rounds"], apart := false, laid := [("graft/digest.rounds", laid_graft_digest_rounds), ("graft/digest.begin", laid_graft_digest_begin)], narrowed := true }
def DigestApartUptoSaid : Prop := digestApartUptoRow.holds Tryd.pinned (OpenSpec.upto digestApartSpec)

/-- 'graftlaw1.DigestMacs', WHERE WHAT IT READS IS OF BULK AT MOST 1048576: true; the input reads as it did. -/
def digestMacsUptoRow : OpenClaim := { program := "ytdmagjelmhcemaadoor", sum := "5ad9fe3323c9c14a024c7bb454fe992c97112189393ced6157123e26c63a8902", func := "graft/graftlaw1.DigestMacs", spec := "digestMacs", named := ["graft/digest.begin", "graft/digest.rounds", "graft/graftref1.tableH", "graft/graftref1.tableK"], apart := false, laid := [("graft/graftref1.tableK", laid_graft_graftref1_tableK), ("graft/graftref1.tableH", laid_graft_graftref1_tableH), ("graft/digest.rounds", laid_graft_digest_rounds), ("graft/digest.begin", laid_graft_digest_begin)], narrowed := true }
def DigestMacsUptoSaid : Prop := digestMacsUptoRow.holds Tryd.pinned (OpenSpec.upto digestMacsSpec)

/-- 'graftlaw1.DigestKnown', WHERE WHAT IT READS IS OF BULK AT MOST 1048576: true; the input reads as it did. -/
def digestKnownUptoRow : OpenClaim := { program := "ytdmagjelmhcemaadoor", sum := "5ad9fe3323c9c14a024c7bb454fe992c97112189393ced6157123e26c63a8902", func := "graft/graftlaw1.DigestKnown", spec := "digestKnown", named := ["graft/digest.begin", "graft/digest.rounds"], apart := false, laid := [("graft/digest.rounds", laid_graft_digest_rounds), ("graft/digest.begin", laid_graft_digest_begin)], narrowed := true }
def DigestKnownUptoSaid : Prop := digestKnownUptoRow.holds Tryd.pinned (OpenSpec.upto digestKnownSpec)

/-- 'graftlaw1.DigestKeyed', WHERE WHAT IT READS IS OF BULK AT MOST 1048576: true; the input reads as it did. -/
def digestKeyedUptoRow : OpenClaim := { program := "ytdmagjelmhcemaadoor", sum := "5ad9fe3323c9c14a024c7bb454fe992c97112189393ced6157123e26c63a8902", func := "graft/graftlaw1.DigestKeyed", spec := "digestKeyed", named := ["graft/digest.begin", "graft/digest.rounds"], apart := false, laid := [("graft/digest.rounds", laid_graft_digest_rounds), ("graft/digest.begin", laid_graft_digest_begin)], narrowed := true }
def DigestKeyedUptoSaid : Prop := digestKeyedUptoRow.holds Tryd.pinned (OpenSpec.upto digestKeyedSpec)

/-- 'graftlaw1.DigestLabels', WHERE WHAT IT READS IS OF BULK AT MOST 1048576: true; the input reads as it did. -/
def digestLabelsUptoRow : OpenClaim := { program := "ytdmagjelmhcemaadoor", sum := "5ad9fe3323c9c14a024c7bb454fe992c97112189393ced6157123e26c63a8902", func := "graft/graftlaw1.DigestLabels", spec := "digestLabels", inPlace := ["internal/bytealg.IndexByteString"], named := ["graft/digest.begin", "graft/digest.rounds"], apart := false, laid := [("graft/digest.rounds", laid_graft_digest_rounds), ("graft/digest.begin", laid_graft_digest_begin)], narrowed := true }
def DigestLabelsUptoSaid : Prop := digestLabelsUptoRow.holds Tryd.pinned (OpenSpec.upto digestLabelsSpec)

end Rows
end Go.Proofs.YtdmagjelmhcemaaDoor
