/-
  DERIVED. GIVEN WITH THE SEED: THE CARDS: each row of YtdmagjelmhcemaaDoorRows.lean that lists a variable, with what it lists TIED to the program's text (the seventh form; the later family's looks); each row that meets fmt, with fmt's text TOLD by the authors' own Lean function (tested against real Go, not proved from fmt's source: count such statements apart). THE CARD IS WHAT COUNTS. Prove the row's statement (the work); the ties are given (YtdmagjelmhcemaaDoorTie.lean); close each card by the builder's one call (the guide's Derived/Test/ToyasCard.lean, 'card_holds'). Laid BY PROGRAM, IN A SANDBOX (cutbox-door.mjs). By AI agents, Wed Nov 11 2026. No macro, syntax, notation, axiom, sorry.
-/
import Derived.Test.YtdmagjelmhcemaaDoorRows
import GoSem.ClaimSeven
namespace Go.Proofs.YtdmagjelmhcemaaDoor
namespace Rows

/-- THE TIED CARD OF 'graftlaw1.DigestSums'. -/
def digestSumsCard : Claim7 := { stood := { row := digestSumsRow, standIns := [], harness := (true, "45382c0d7666bad5d5d00facc6ca0108be5f31e171e802ede77b87cdf0ca0573"), looks := false }, kinds := [], alts := [], laidByText := true, laidKinds := [.data, .data, .data, .data], laidTests := true, laidLooks := .later }
def DigestSumsCardSaid : Prop := Claim7.holds Tryd.pinned (.plain (OpenSpec.ofChange digestSumsSpec)) digestSumsCard

/-- THE TIED CARD OF 'graftlaw1.DigestHashers'. -/
def digestHashersCard : Claim7 := { stood := { row := digestHashersRow, standIns := [], harness := (true, "45382c0d7666bad5d5d00facc6ca0108be5f31e171e802ede77b87cdf0ca0573"), looks := false }, kinds := [], alts := [], laidByText := true, laidKinds := [.data, .data, .data, .data], laidTests := true, laidLooks := .later }
def DigestHashersCardSaid : Prop := Claim7.holds Tryd.pinned (.plain (OpenSpec.ofChange digestHashersSpec)) digestHashersCard

/-- THE TIED CARD OF 'graftlaw1.DigestNil'. -/
def digestNilCard : Claim7 := { stood := { row := digestNilRow, standIns := [], harness := (true, "45382c0d7666bad5d5d00facc6ca0108be5f31e171e802ede77b87cdf0ca0573"), looks := false }, kinds := [], alts := [], laidByText := true, laidKinds := [.data, .data], laidTests := true, laidLooks := .later }
def DigestNilCardSaid : Prop := Claim7.holds Tryd.pinned (.plain (OpenSpec.ofChange digestNilSpec)) digestNilCard

/-- THE TIED CARD OF 'graftlaw1.DigestPieces'. -/
def digestPiecesCard : Claim7 := { stood := { row := digestPiecesRow, standIns := [], harness := (true, "45382c0d7666bad5d5d00facc6ca0108be5f31e171e802ede77b87cdf0ca0573"), looks := false }, kinds := [], alts := [], laidByText := true, laidKinds := [.data, .data], laidTests := true, laidLooks := .later }
def DigestPiecesCardSaid : Prop := Claim7.holds Tryd.pinned (.plain (OpenSpec.ofChange digestPiecesSpec)) digestPiecesCard

/-- THE TIED CARD OF 'graftlaw1.DigestApart'. -/
def digestApartCard : Claim7 := { stood := { row := digestApartRow, standIns := [], harness := (true, "45382c0d7666bad5d5d00facc6ca0108be5f31e171e802ede77b87cdf0ca0573"), looks := false }, kinds := [], alts := [], laidByText := true, laidKinds := [.data, .data], laidTests := true, laidLooks := .later }
def DigestApartCardSaid : Prop := Claim7.holds Tryd.pinned (.plain (OpenSpec.ofChange digestApartSpec)) digestApartCard

/-- THE TIED CARD OF 'graftlaw1.DigestMacs'. -/
def digestMacsCard : Claim7 := { stood := { row := digestMacsRow, standIns := [], harness := (true, "45382c0d7666bad5d5d00facc6ca0108be5f31e171e802ede77b87cdf0ca0573"), looks := false }, kinds := [], alts := [], laidByText := true, laidKinds := [.data, .data, .data, .data], laidTests := true, laidLooks := .later }
def DigestMacsCardSaid : Prop := Claim7.holds Tryd.pinned (.plain (OpenSpec.ofChange digestMacsSpec)) digestMacsCard

/-- THE TIED CARD OF 'graftlaw1.DigestKnown'. -/
def digestKnownCard : Claim7 := { stood := { row := digestKnownRow, standIns := [], harness := (true, "45382c0d7666bad5d5d00facc6ca0108be5f31e171e802ede77b87cdf0ca0573"), looks := false }, kinds := [], alts := [], laidByText := true, laidKinds := [.data, .data], laidTests := true, laidLooks := .later }
def DigestKnownCardSaid : Prop := Claim7.holds Tryd.pinned (.plain (OpenSpec.ofChange digestKnownSpec)) digestKnownCard

/-- THE TIED CARD OF 'graftlaw1.DigestKeyed'. -/
def digestKeyedCard : Claim7 := { stood := { row := digestKeyedRow, standIns := [], harness := (true, "45382c0d7666bad5d5d00facc6ca0108be5f31e171e802ede77b87cdf0ca0573"), looks := false }, kinds := [], alts := [], laidByText := true, laidKinds := [.data, .data], laidTests := true, laidLooks := .later }
def DigestKeyedCardSaid : Prop := Claim7.holds Tryd.pinned (.plain (OpenSpec.ofChange digestKeyedSpec)) digestKeyedCard

/-- THE TIED CARD OF 'graftlaw1.DigestLabels'. -/
def digestLabelsCard : Claim7 := { stood := { row := digestLabelsRow, standIns := [], harness := (true, "45382c0d7666bad5d5d00facc6ca0108be5f31e171e802ede77b87cdf0ca0573"), looks := false }, kinds := [], alts := [], laidByText := true, laidKinds := [.data, .data], laidTests := true, laidLooks := .later }
def DigestLabelsCardSaid : Prop := Claim7.holds Tryd.pinned (.plain (OpenSpec.ofChange digestLabelsSpec)) digestLabelsCard

/-- THE SECOND FORM's CARD OF 'graftlaw1.DigestSums'. -/
def digestSumsUptoCard : Claim7 := { stood := { row := digestSumsUptoRow, standIns := [], harness := (true, "45382c0d7666bad5d5d00facc6ca0108be5f31e171e802ede77b87cdf0ca0573"), looks := false }, kinds := [], alts := [], laidByText := true, laidKinds := [.data, .data, .data, .data], laidTests := true, laidLooks := .later }
def DigestSumsUptoCardSaid : Prop := Claim7.holds Tryd.pinned (.plain (OpenSpec.upto digestSumsSpec)) digestSumsUptoCard

/-- THE SECOND FORM's CARD OF 'graftlaw1.DigestHashers'. -/
def digestHashersUptoCard : Claim7 := { stood := { row := digestHashersUptoRow, standIns := [], harness := (true, "45382c0d7666bad5d5d00facc6ca0108be5f31e171e802ede77b87cdf0ca0573"), looks := false }, kinds := [], alts := [], laidByText := true, laidKinds := [.data, .data, .data, .data], laidTests := true, laidLooks := .later }
def DigestHashersUptoCardSaid : Prop := Claim7.holds Tryd.pinned (.plain (OpenSpec.upto digestHashersSpec)) digestHashersUptoCard

/-- THE SECOND FORM's CARD OF 'graftlaw1.DigestNil'. -/
def digestNilUptoCard : Claim7 := { stood := { row := digestNilUptoRow, standIns := [], harness := (true, "45382c0d7666bad5d5d00facc6ca0108be5f31e171e802ede77b87cdf0ca0573"), looks := false }, kinds := [], alts := [], laidByText := true, laidKinds := [.data, .data], laidTests := true, laidLooks := .later }
def DigestNilUptoCardSaid : Prop := Claim7.holds Tryd.pinned (.plain (OpenSpec.upto digestNilSpec)) digestNilUptoCard

/-- THE SECOND FORM's CARD OF 'graftlaw1.DigestPieces'. -/
def digestPiecesUptoCard : Claim7 := { stood := { row := digestPiecesUptoRow, standIns := [], harness := (true, "45382c0d7666bad5d5d00facc6ca0108be5f31e171e802ede77b87cdf0ca0573"), looks := false }, kinds := [], alts := [], laidByText := true, laidKinds := [.data, .data], laidTests := true, laidLooks := .later }
def DigestPiecesUptoCardSaid : Prop := Claim7.holds Tryd.pinned (.plain (OpenSpec.upto digestPiecesSpec)) digestPiecesUptoCard

/-- THE SECOND FORM's CARD OF 'graftlaw1.DigestApart'. -/
def digestApartUptoCard : Claim7 := { stood := { row := digestApartUptoRow, standIns := [], harness := (true, "45382c0d7666bad5d5d00facc6ca0108be5f31e171e802ede77b87cdf0ca0573"), looks := false }, kinds := [], alts := [], laidByText := true, laidKinds := [.data, .data], laidTests := true, laidLooks := .later }
def DigestApartUptoCardSaid : Prop := Claim7.holds Tryd.pinned (.plain (OpenSpec.upto digestApartSpec)) digestApartUptoCard

/-- THE SECOND FORM's CARD OF 'graftlaw1.DigestMacs'. -/
def digestMacsUptoCard : Claim7 := { stood := { row := digestMacsUptoRow, standIns := [], harness := (true, "45382c0d7666bad5d5d00facc6ca0108be5f31e171e802ede77b87cdf0ca0573"), looks := false }, kinds := [], alts := [], laidByText := true, laidKinds := [.data, .data, .data, .data], laidTests := true, laidLooks := .later }
def DigestMacsUptoCardSaid : Prop := Claim7.holds Tryd.pinned (.plain (OpenSpec.upto digestMacsSpec)) digestMacsUptoCard

/-- THE SECOND FORM's CARD OF 'graftlaw1.DigestKnown'. -/
def digestKnownUptoCard : Claim7 := { stood := { row := digestKnownUptoRow, standIns := [], harness := (true, "45382c0d7666bad5d5d00facc6ca0108be5f31e171e802ede77b87cdf0ca0573"), looks := false }, kinds := [], alts := [], laidByText := true, laidKinds := [.data, .data], laidTests := true, laidLooks := .later }
def DigestKnownUptoCardSaid : Prop := Claim7.holds Tryd.pinned (.plain (OpenSpec.upto digestKnownSpec)) digestKnownUptoCard

/-- THE SECOND FORM's CARD OF 'graftlaw1.DigestKeyed'. -/
def digestKeyedUptoCard : Claim7 := { stood := { row := digestKeyedUptoRow, standIns := [], harness := (true, "45382c0d7666bad5d5d00facc6ca0108be5f31e171e802ede77b87cdf0ca0573"), looks := false }, kinds := [], alts := [], laidByText := true, laidKinds := [.data, .data], laidTests := true, laidLooks := .later }
def DigestKeyedUptoCardSaid : Prop := Claim7.holds Tryd.pinned (.plain (OpenSpec.upto digestKeyedSpec)) digestKeyedUptoCard

/-- THE SECOND FORM's CARD OF 'graftlaw1.DigestLabels'. -/
def digestLabelsUptoCard : Claim7 := { stood := { row := digestLabelsUptoRow, standIns := [], harness := (true, "45382c0d7666bad5d5d00facc6ca0108be5f31e171e802ede77b87cdf0ca0573"), looks := false }, kinds := [], alts := [], laidByText := true, laidKinds := [.data, .data], laidTests := true, laidLooks := .later }
def DigestLabelsUptoCardSaid : Prop := Claim7.holds Tryd.pinned (.plain (OpenSpec.upto digestLabelsSpec)) digestLabelsUptoCard
end Rows
end Go.Proofs.YtdmagjelmhcemaaDoor
