/-
  DERIVED. GIVEN WITH THE SEED: THE CARDS: each row of YtnenbmbgmmeiaaaDoorRows.lean that lists a variable, with what it lists TIED to the program's text (the seventh form; the later family's looks); each row that meets fmt, with fmt's text TOLD by the authors' own Lean function (tested against real Go, not proved from fmt's source: count such statements apart). THE CARD IS WHAT COUNTS. Prove the row's statement (the work); the ties are given (YtnenbmbgmmeiaaaDoorTie.lean); close each card by the builder's one call (the guide's Derived/Test/ToyasCard.lean, 'card_holds'). Laid BY PROGRAM, IN A SANDBOX (cutbox-door.mjs). By AI agents, Wed Nov 11 2026. No macro, syntax, notation, axiom, sorry.
-/
import Derived.Test.YtnenbmbgmmeiaaaDoorRows
import GoSem.ClaimSeven
namespace Go.Proofs.YtnenbmbgmmeiaaaDoor
namespace Rows

/-- THE TIED CARD OF 'grisaillelaw06.BinencUvarint'. -/
def binencUvarintCard : Claim7 := { stood := { row := binencUvarintRow, standIns := [], harness := (true, "aed304ebf88b1dd318e7ec47f5b1eb33222da7b49c0b73a122956fae30c2fd90"), looks := false }, kinds := [], alts := [], laidByText := true, laidKinds := [.data, .pinned], laidTests := true, laidLooks := .later }
def BinencUvarintCardSaid : Prop := Claim7.holds Tryd.pinned (.plain (OpenSpec.ofChange binencUvarintSpec)) binencUvarintCard

/-- THE TIED CARD OF 'grisaillelaw06.BinencVarint'. -/
def binencVarintCard : Claim7 := { stood := { row := binencVarintRow, standIns := [], harness := (true, "aed304ebf88b1dd318e7ec47f5b1eb33222da7b49c0b73a122956fae30c2fd90"), looks := false }, kinds := [], alts := [], laidByText := true, laidKinds := [.data, .pinned], laidTests := true, laidLooks := .later }
def BinencVarintCardSaid : Prop := Claim7.holds Tryd.pinned (.plain (OpenSpec.ofChange binencVarintSpec)) binencVarintCard

/-- THE TIED CARD OF 'grisaillelaw06.BinencBytes'. -/
def binencBytesCard : Claim7 := { stood := { row := binencBytesRow, standIns := [], harness := (true, "aed304ebf88b1dd318e7ec47f5b1eb33222da7b49c0b73a122956fae30c2fd90"), looks := false }, kinds := [], alts := [], laidByText := true, laidKinds := [.data, .pinned], laidTests := true, laidLooks := .later }
def BinencBytesCardSaid : Prop := Claim7.holds Tryd.pinned (.plain (OpenSpec.ofChange binencBytesSpec)) binencBytesCard

/-- THE TIED CARD OF 'grisaillelaw06.BinencInts'. -/
def binencIntsCard : Claim7 := { stood := { row := binencIntsRow, standIns := [], harness := (true, "aed304ebf88b1dd318e7ec47f5b1eb33222da7b49c0b73a122956fae30c2fd90"), looks := false }, kinds := [], alts := [], laidByText := true, laidKinds := [.data, .pinned], laidTests := true, laidLooks := .later }
def BinencIntsCardSaid : Prop := Claim7.holds Tryd.pinned (.plain (OpenSpec.ofChange binencIntsSpec)) binencIntsCard

/-- THE TIED CARD OF 'grisaillelaw06.BinencRational'. -/
def binencRationalCard : Claim7 := { stood := { row := binencRationalRow, standIns := [], harness := (true, "aed304ebf88b1dd318e7ec47f5b1eb33222da7b49c0b73a122956fae30c2fd90"), looks := false }, kinds := [], alts := [], laidByText := true, laidKinds := [.data, .pinned], laidTests := true, laidLooks := .later }
def BinencRationalCardSaid : Prop := Claim7.holds Tryd.pinned (.plain (OpenSpec.ofChange binencRationalSpec)) binencRationalCard

/-- THE TIED CARD OF 'grisaillelaw06.BinencRoundTrip'. -/
def binencRoundTripCard : Claim7 := { stood := { row := binencRoundTripRow, standIns := [], harness := (true, "aed304ebf88b1dd318e7ec47f5b1eb33222da7b49c0b73a122956fae30c2fd90"), looks := false }, kinds := [], alts := [], laidByText := true, laidKinds := [.data, .pinned], laidTests := true, laidLooks := .later }
def BinencRoundTripCardSaid : Prop := Claim7.holds Tryd.pinned (.plain (OpenSpec.ofChange binencRoundTripSpec)) binencRoundTripCard

/-- THE TIED CARD OF 'grisaillelaw06.BinencCanonical'. -/
def binencCanonicalCard : Claim7 := { stood := { row := binencCanonicalRow, standIns := [], harness := (true, "aed304ebf88b1dd318e7ec47f5b1eb33222da7b49c0b73a122956fae30c2fd90"), looks := false }, kinds := [], alts := [], laidByText := true, laidKinds := [.data, .pinned], laidTests := true, laidLooks := .later }
def BinencCanonicalCardSaid : Prop := Claim7.holds Tryd.pinned (.plain (OpenSpec.ofChange binencCanonicalSpec)) binencCanonicalCard

/-- THE TIED CARD OF 'grisaillelaw06.BinencRuns'. -/
def binencRunsCard : Claim7 := { stood := { row := binencRunsRow, standIns := [], harness := (true, "aed304ebf88b1dd318e7ec47f5b1eb33222da7b49c0b73a122956fae30c2fd90"), looks := false }, kinds := [], alts := [], laidByText := true, laidKinds := [.data, .pinned], laidTests := true, laidLooks := .later }
def BinencRunsCardSaid : Prop := Claim7.holds Tryd.pinned (.plain (OpenSpec.ofChange binencRunsSpec)) binencRunsCard

/-- THE TIED CARD OF 'grisaillelaw06.BinencSequences'. -/
def binencSequencesCard : Claim7 := { stood := { row := binencSequencesRow, standIns := [], harness := (true, "aed304ebf88b1dd318e7ec47f5b1eb33222da7b49c0b73a122956fae30c2fd90"), looks := false }, kinds := [], alts := [], laidByText := true, laidKinds := [.data, .pinned], laidTests := true, laidLooks := .later }
def BinencSequencesCardSaid : Prop := Claim7.holds Tryd.pinned (.plain (OpenSpec.ofChange binencSequencesSpec)) binencSequencesCard

/-- THE TIED CARD OF 'grisaillelaw06.BinencSequencesCanonical'. -/
def binencSequencesCanonicalCard : Claim7 := { stood := { row := binencSequencesCanonicalRow, standIns := [], harness := (true, "aed304ebf88b1dd318e7ec47f5b1eb33222da7b49c0b73a122956fae30c2fd90"), looks := false }, kinds := [], alts := [], laidByText := true, laidKinds := [.data, .pinned], laidTests := true, laidLooks := .later }
def BinencSequencesCanonicalCardSaid : Prop := Claim7.holds Tryd.pinned (.plain (OpenSpec.ofChange binencSequencesCanonicalSpec)) binencSequencesCanonicalCard

/-- THE SECOND FORM's CARD OF 'grisaillelaw06.BinencUvarint'. -/
def binencUvarintUptoCard : Claim7 := { stood := { row := binencUvarintUptoRow, standIns := [], harness := (true, "aed304ebf88b1dd318e7ec47f5b1eb33222da7b49c0b73a122956fae30c2fd90"), looks := false }, kinds := [], alts := [], laidByText := true, laidKinds := [.data, .pinned], laidTests := true, laidLooks := .later }
def BinencUvarintUptoCardSaid : Prop := Claim7.holds Tryd.pinned (.plain (OpenSpec.upto binencUvarintSpec)) binencUvarintUptoCard

/-- THE SECOND FORM's CARD OF 'grisaillelaw06.BinencVarint'. -/
def binencVarintUptoCard : Claim7 := { stood := { row := binencVarintUptoRow, standIns := [], harness := (true, "aed304ebf88b1dd318e7ec47f5b1eb33222da7b49c0b73a122956fae30c2fd90"), looks := false }, kinds := [], alts := [], laidByText := true, laidKinds := [.data, .pinned], laidTests := true, laidLooks := .later }
def BinencVarintUptoCardSaid : Prop := Claim7.holds Tryd.pinned (.plain (OpenSpec.upto binencVarintSpec)) binencVarintUptoCard

/-- THE SECOND FORM's CARD OF 'grisaillelaw06.BinencBytes'. -/
def binencBytesUptoCard : Claim7 := { stood := { row := binencBytesUptoRow, standIns := [], harness := (true, "aed304ebf88b1dd318e7ec47f5b1eb33222da7b49c0b73a122956fae30c2fd90"), looks := false }, kinds := [], alts := [], laidByText := true, laidKinds := [.data, .pinned], laidTests := true, laidLooks := .later }
def BinencBytesUptoCardSaid : Prop := Claim7.holds Tryd.pinned (.plain (OpenSpec.upto binencBytesSpec)) binencBytesUptoCard

/-- THE SECOND FORM's CARD OF 'grisaillelaw06.BinencInts'. -/
def binencIntsUptoCard : Claim7 := { stood := { row := binencIntsUptoRow, standIns := [], harness := (true, "aed304ebf88b1dd318e7ec47f5b1eb33222da7b49c0b73a122956fae30c2fd90"), looks := false }, kinds := [], alts := [], laidByText := true, laidKinds := [.data, .pinned], laidTests := true, laidLooks := .later }
def BinencIntsUptoCardSaid : Prop := Claim7.holds Tryd.pinned (.plain (OpenSpec.upto binencIntsSpec)) binencIntsUptoCard

/-- THE SECOND FORM's CARD OF 'grisaillelaw06.BinencRational'. -/
def binencRationalUptoCard : Claim7 := { stood := { row := binencRationalUptoRow, standIns := [], harness := (true, "aed304ebf88b1dd318e7ec47f5b1eb33222da7b49c0b73a122956fae30c2fd90"), looks := false }, kinds := [], alts := [], laidByText := true, laidKinds := [.data, .pinned], laidTests := true, laidLooks := .later }
def BinencRationalUptoCardSaid : Prop := Claim7.holds Tryd.pinned (.plain (OpenSpec.upto binencRationalSpec)) binencRationalUptoCard

/-- THE SECOND FORM's CARD OF 'grisaillelaw06.BinencRoundTrip'. -/
def binencRoundTripUptoCard : Claim7 := { stood := { row := binencRoundTripUptoRow, standIns := [], harness := (true, "aed304ebf88b1dd318e7ec47f5b1eb33222da7b49c0b73a122956fae30c2fd90"), looks := false }, kinds := [], alts := [], laidByText := true, laidKinds := [.data, .pinned], laidTests := true, laidLooks := .later }
def BinencRoundTripUptoCardSaid : Prop := Claim7.holds Tryd.pinned (.plain (OpenSpec.upto binencRoundTripSpec)) binencRoundTripUptoCard

/-- THE SECOND FORM's CARD OF 'grisaillelaw06.BinencCanonical'. -/
def binencCanonicalUptoCard : Claim7 := { stood := { row := binencCanonicalUptoRow, standIns := [], harness := (true, "aed304ebf88b1dd318e7ec47f5b1eb33222da7b49c0b73a122956fae30c2fd90"), looks := false }, kinds := [], alts := [], laidByText := true, laidKinds := [.data, .pinned], laidTests := true, laidLooks := .later }
def BinencCanonicalUptoCardSaid : Prop := Claim7.holds Tryd.pinned (.plain (OpenSpec.upto binencCanonicalSpec)) binencCanonicalUptoCard

/-- THE SECOND FORM's CARD OF 'grisaillelaw06.BinencRuns'. -/
def binencRunsUptoCard : Claim7 := { stood := { row := binencRunsUptoRow, standIns := [], harness := (true, "aed304ebf88b1dd318e7ec47f5b1eb33222da7b49c0b73a122956fae30c2fd90"), looks := false }, kinds := [], alts := [], laidByText := true, laidKinds := [.data, .pinned], laidTests := true, laidLooks := .later }
def BinencRunsUptoCardSaid : Prop := Claim7.holds Tryd.pinned (.plain (OpenSpec.upto binencRunsSpec)) binencRunsUptoCard

/-- THE SECOND FORM's CARD OF 'grisaillelaw06.BinencSequences'. -/
def binencSequencesUptoCard : Claim7 := { stood := { row := binencSequencesUptoRow, standIns := [], harness := (true, "aed304ebf88b1dd318e7ec47f5b1eb33222da7b49c0b73a122956fae30c2fd90"), looks := false }, kinds := [], alts := [], laidByText := true, laidKinds := [.data, .pinned], laidTests := true, laidLooks := .later }
def BinencSequencesUptoCardSaid : Prop := Claim7.holds Tryd.pinned (.plain (OpenSpec.upto binencSequencesSpec)) binencSequencesUptoCard

/-- THE SECOND FORM's CARD OF 'grisaillelaw06.BinencSequencesCanonical'. -/
def binencSequencesCanonicalUptoCard : Claim7 := { stood := { row := binencSequencesCanonicalUptoRow, standIns := [], harness := (true, "aed304ebf88b1dd318e7ec47f5b1eb33222da7b49c0b73a122956fae30c2fd90"), looks := false }, kinds := [], alts := [], laidByText := true, laidKinds := [.data, .pinned], laidTests := true, laidLooks := .later }
def BinencSequencesCanonicalUptoCardSaid : Prop := Claim7.holds Tryd.pinned (.plain (OpenSpec.upto binencSequencesCanonicalSpec)) binencSequencesCanonicalUptoCard
end Rows
end Go.Proofs.YtnenbmbgmmeiaaaDoor
