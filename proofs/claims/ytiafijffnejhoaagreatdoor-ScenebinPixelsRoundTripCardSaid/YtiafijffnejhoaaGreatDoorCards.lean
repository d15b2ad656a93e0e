/-
  DERIVED. GIVEN WITH THE SEED: THE CARDS: each row of YtiafijffnejhoaaGreatDoorRows.lean that lists a variable, with what it lists TIED to the program's text (the seventh form; the later family's looks); each row that meets fmt, with fmt's text TOLD by the authors' own Lean function (tested against real Go, not proved from fmt's source: count such statements apart). THE CARD IS WHAT COUNTS. Prove the row's statement (the work); the ties are given (YtiafijffnejhoaaGreatDoorTie.lean); close each card by the builder's one call (the guide's Derived/Test/ToyasCard.lean, 'card_holds'). Laid BY PROGRAM, IN A SANDBOX (cutbox-door.mjs). By AI agents, Wed Nov 11 2026. No macro, syntax, notation, axiom, sorry.
-/
import Derived.Test.YtiafijffnejhoaaGreatDoorRows
import GoSem.ClaimSeven
namespace Go.Proofs.YtiafijffnejhoaaGreatDoor
namespace Rows

/-- THE TIED CARD OF 'grisaillelaw46.ScenebinPixels'. -/
def scenebinPixelsCard : Claim7 := { stood := { row := scenebinPixelsRow, standIns := [], harness := (true, "1b09065cf52c1aa5a3b378036ec7bbc2cd28fce0cb0a73fd524265d4926aaadd"), looks := true }, kinds := [], alts := [], laidByText := true, laidKinds := [.data, .handle, .pinned], laidTests := true, laidLooks := .later }
def ScenebinPixelsCardSaid : Prop := Claim7.holds Tryz.pinned (.plain (OpenSpec.ofChange scenebinPixelsSpec)) scenebinPixelsCard

/-- THE TIED CARD OF 'grisaillelaw46.ScenebinPixelsRoundTrip'. -/
def scenebinPixelsRoundTripCard : Claim7 := { stood := { row := scenebinPixelsRoundTripRow, standIns := [], harness := (true, "1b09065cf52c1aa5a3b378036ec7bbc2cd28fce0cb0a73fd524265d4926aaadd"), looks := true }, kinds := [], alts := [], laidByText := true, laidKinds := [.data, .handle, .pinned], laidTests := true, laidLooks := .later }
def ScenebinPixelsRoundTripCardSaid : Prop := Claim7.holds Tryz.pinned (.plain (OpenSpec.ofChange scenebinPixelsRoundTripSpec)) scenebinPixelsRoundTripCard

/-- THE SECOND FORM's CARD OF 'grisaillelaw46.ScenebinPixels'. -/
def scenebinPixelsUptoCard : Claim7 := { stood := { row := scenebinPixelsUptoRow, standIns := [], harness := (true, "1b09065cf52c1aa5a3b378036ec7bbc2cd28fce0cb0a73fd524265d4926aaadd"), looks := true }, kinds := [], alts := [], laidByText := true, laidKinds := [.data, .handle, .pinned], laidTests := true, laidLooks := .later }
def ScenebinPixelsUptoCardSaid : Prop := Claim7.holds Tryz.pinned (.plain (OpenSpec.upto scenebinPixelsSpec)) scenebinPixelsUptoCard

/-- THE SECOND FORM's CARD OF 'grisaillelaw46.ScenebinPixelsRoundTrip'. -/
def scenebinPixelsRoundTripUptoCard : Claim7 := { stood := { row := scenebinPixelsRoundTripUptoRow, standIns := [], harness := (true, "1b09065cf52c1aa5a3b378036ec7bbc2cd28fce0cb0a73fd524265d4926aaadd"), looks := true }, kinds := [], alts := [], laidByText := true, laidKinds := [.data, .handle, .pinned], laidTests := true, laidLooks := .later }
def ScenebinPixelsRoundTripUptoCardSaid : Prop := Claim7.holds Tryz.pinned (.plain (OpenSpec.upto scenebinPixelsRoundTripSpec)) scenebinPixelsRoundTripUptoCard
end Rows
end Go.Proofs.YtiafijffnejhoaaGreatDoor
