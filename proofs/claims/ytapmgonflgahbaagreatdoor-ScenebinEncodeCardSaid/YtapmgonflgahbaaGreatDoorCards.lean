/-
  DERIVED. GIVEN WITH THE SEED: THE CARDS: each row of YtapmgonflgahbaaGreatDoorRows.lean that lists a variable, with what it lists TIED to the program's text (the seventh form; the later family's looks); each row that meets fmt, with fmt's text TOLD by the authors' own Lean function (tested against real Go, not proved from fmt's source: count such statements apart). THE CARD IS WHAT COUNTS. Prove the row's statement (the work); the ties are given (YtapmgonflgahbaaGreatDoorTie.lean); close each card by the builder's one call (the guide's Derived/Test/ToyasCard.lean, 'card_holds'). Laid BY PROGRAM, IN A SANDBOX (cutbox-door.mjs). By AI agents, Wed Nov 11 2026. No macro, syntax, notation, axiom, sorry.
-/
import Derived.Test.YtapmgonflgahbaaGreatDoorRows
import GoSem.ClaimSeven
namespace Go.Proofs.YtapmgonflgahbaaGreatDoor
namespace Rows

/-- THE TIED CARD OF 'grisaillelaw46.ScenebinEncode'. -/
def scenebinEncodeCard : Claim7 := { stood := { row := scenebinEncodeRow, standIns := [], harness := (true, "e6e612f2727114f21a5f600bb674cc47e9a4d84d26f6fa8d67ec462f595f9c40"), looks := true }, kinds := [], alts := [], laidByText := true, laidKinds := [.data, .handle, .pinned], laidTests := true, laidLooks := .later }
def ScenebinEncodeCardSaid : Prop := Claim7.holds Tryz.pinned (.plain (OpenSpec.ofChange scenebinEncodeSpec)) scenebinEncodeCard

/-- THE TIED CARD OF 'grisaillelaw46.ScenebinDecode'. -/
def scenebinDecodeCard : Claim7 := { stood := { row := scenebinDecodeRow, standIns := [], harness := (true, "e6e612f2727114f21a5f600bb674cc47e9a4d84d26f6fa8d67ec462f595f9c40"), looks := true }, kinds := [], alts := [], laidByText := true, laidKinds := [.data, .handle, .pinned], laidTests := true, laidLooks := .later }
def ScenebinDecodeCardSaid : Prop := Claim7.holds Tryz.pinned (.plain (OpenSpec.ofChange scenebinDecodeSpec)) scenebinDecodeCard

/-- THE TIED CARD OF 'grisaillelaw46.ScenebinCanonical'. -/
def scenebinCanonicalCard : Claim7 := { stood := { row := scenebinCanonicalRow, standIns := [], harness := (true, "e6e612f2727114f21a5f600bb674cc47e9a4d84d26f6fa8d67ec462f595f9c40"), looks := true }, kinds := [], alts := [], laidByText := true, laidKinds := [.data, .handle, .pinned], laidTests := true, laidLooks := .later }
def ScenebinCanonicalCardSaid : Prop := Claim7.holds Tryz.pinned (.plain (OpenSpec.ofChange scenebinCanonicalSpec)) scenebinCanonicalCard

/-- THE TIED CARD OF 'grisaillelaw46.ScenebinDamaged'. -/
def scenebinDamagedCard : Claim7 := { stood := { row := scenebinDamagedRow, standIns := [], harness := (true, "e6e612f2727114f21a5f600bb674cc47e9a4d84d26f6fa8d67ec462f595f9c40"), looks := true }, kinds := [], alts := [], laidByText := true, laidKinds := [.data, .handle, .pinned], laidTests := true, laidLooks := .later }
def ScenebinDamagedCardSaid : Prop := Claim7.holds Tryz.pinned (.plain (OpenSpec.ofChange scenebinDamagedSpec)) scenebinDamagedCard

/-- THE TIED CARD OF 'grisaillelaw46.ScenebinRoundTrip'. -/
def scenebinRoundTripCard : Claim7 := { stood := { row := scenebinRoundTripRow, standIns := [], harness := (true, "e6e612f2727114f21a5f600bb674cc47e9a4d84d26f6fa8d67ec462f595f9c40"), looks := true }, kinds := [], alts := [], laidByText := true, laidKinds := [.data, .handle, .pinned], laidTests := true, laidLooks := .later }
def ScenebinRoundTripCardSaid : Prop := Claim7.holds Tryz.pinned (.plain (OpenSpec.ofChange scenebinRoundTripSpec)) scenebinRoundTripCard

/-- THE TIED CARD OF 'grisaillelaw46.ScenebinInjective'. -/
def scenebinInjectiveCard : Claim7 := { stood := { row := scenebinInjectiveRow, standIns := [], harness := (true, "e6e612f2727114f21a5f600bb674cc47e9a4d84d26f6fa8d67ec462f595f9c40"), looks := true }, kinds := [], alts := [], laidByText := true, laidKinds := [.data, .handle, .pinned], laidTests := true, laidLooks := .later }
def ScenebinInjectiveCardSaid : Prop := Claim7.holds Tryz.pinned (.plain (OpenSpec.ofChange scenebinInjectiveSpec)) scenebinInjectiveCard

/-- THE SECOND FORM's CARD OF 'grisaillelaw46.ScenebinEncode'. -/
def scenebinEncodeUptoCard : Claim7 := { stood := { row := scenebinEncodeUptoRow, standIns := [], harness := (true, "e6e612f2727114f21a5f600bb674cc47e9a4d84d26f6fa8d67ec462f595f9c40"), looks := true }, kinds := [], alts := [], laidByText := true, laidKinds := [.data, .handle, .pinned], laidTests := true, laidLooks := .later }
def ScenebinEncodeUptoCardSaid : Prop := Claim7.holds Tryz.pinned (.plain (OpenSpec.upto scenebinEncodeSpec)) scenebinEncodeUptoCard

/-- THE SECOND FORM's CARD OF 'grisaillelaw46.ScenebinDecode'. -/
def scenebinDecodeUptoCard : Claim7 := { stood := { row := scenebinDecodeUptoRow, standIns := [], harness := (true, "e6e612f2727114f21a5f600bb674cc47e9a4d84d26f6fa8d67ec462f595f9c40"), looks := true }, kinds := [], alts := [], laidByText := true, laidKinds := [.data, .handle, .pinned], laidTests := true, laidLooks := .later }
def ScenebinDecodeUptoCardSaid : Prop := Claim7.holds Tryz.pinned (.plain (OpenSpec.upto scenebinDecodeSpec)) scenebinDecodeUptoCard

/-- THE SECOND FORM's CARD OF 'grisaillelaw46.ScenebinCanonical'. -/
def scenebinCanonicalUptoCard : Claim7 := { stood := { row := scenebinCanonicalUptoRow, standIns := [], harness := (true, "e6e612f2727114f21a5f600bb674cc47e9a4d84d26f6fa8d67ec462f595f9c40"), looks := true }, kinds := [], alts := [], laidByText := true, laidKinds := [.data, .handle, .pinned], laidTests := true, laidLooks := .later }
def ScenebinCanonicalUptoCardSaid : Prop := Claim7.holds Tryz.pinned (.plain (OpenSpec.upto scenebinCanonicalSpec)) scenebinCanonicalUptoCard

/-- THE SECOND FORM's CARD OF 'grisaillelaw46.ScenebinDamaged'. -/
def scenebinDamagedUptoCard : Claim7 := { stood := { row := scenebinDamagedUptoRow, standIns := [], harness := (true, "e6e612f2727114f21a5f600bb674cc47e9a4d84d26f6fa8d67ec462f595f9c40"), looks := true }, kinds := [], alts := [], laidByText := true, laidKinds := [.data, .handle, .pinned], laidTests := true, laidLooks := .later }
def ScenebinDamagedUptoCardSaid : Prop := Claim7.holds Tryz.pinned (.plain (OpenSpec.upto scenebinDamagedSpec)) scenebinDamagedUptoCard

/-- THE SECOND FORM's CARD OF 'grisaillelaw46.ScenebinRoundTrip'. -/
def scenebinRoundTripUptoCard : Claim7 := { stood := { row := scenebinRoundTripUptoRow, standIns := [], harness := (true, "e6e612f2727114f21a5f600bb674cc47e9a4d84d26f6fa8d67ec462f595f9c40"), looks := true }, kinds := [], alts := [], laidByText := true, laidKinds := [.data, .handle, .pinned], laidTests := true, laidLooks := .later }
def ScenebinRoundTripUptoCardSaid : Prop := Claim7.holds Tryz.pinned (.plain (OpenSpec.upto scenebinRoundTripSpec)) scenebinRoundTripUptoCard

/-- THE SECOND FORM's CARD OF 'grisaillelaw46.ScenebinInjective'. -/
def scenebinInjectiveUptoCard : Claim7 := { stood := { row := scenebinInjectiveUptoRow, standIns := [], harness := (true, "e6e612f2727114f21a5f600bb674cc47e9a4d84d26f6fa8d67ec462f595f9c40"), looks := true }, kinds := [], alts := [], laidByText := true, laidKinds := [.data, .handle, .pinned], laidTests := true, laidLooks := .later }
def ScenebinInjectiveUptoCardSaid : Prop := Claim7.holds Tryz.pinned (.plain (OpenSpec.upto scenebinInjectiveSpec)) scenebinInjectiveUptoCard
end Rows
end Go.Proofs.YtapmgonflgahbaaGreatDoor
