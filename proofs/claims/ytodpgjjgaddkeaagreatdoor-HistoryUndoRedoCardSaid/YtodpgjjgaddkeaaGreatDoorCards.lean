/-
  DERIVED. GIVEN WITH THE SEED: THE CARDS: each row of YtodpgjjgaddkeaaGreatDoorRows.lean that lists a variable, with what it lists TIED to the program's text (the seventh form; the later family's looks); each row that meets fmt, with fmt's text TOLD by the authors' own Lean function (tested against real Go, not proved from fmt's source: count such statements apart). THE CARD IS WHAT COUNTS. Prove the row's statement (the work); the ties are given (YtodpgjjgaddkeaaGreatDoorTie.lean); close each card by the builder's one call (the guide's Derived/Test/ToyasCard.lean, 'card_holds'). Laid BY PROGRAM, IN A SANDBOX (cutbox-door.mjs). By AI agents, Wed Nov 11 2026. No macro, syntax, notation, axiom, sorry.
-/
import Derived.Test.YtodpgjjgaddkeaaGreatDoorRows
import GoSem.ClaimSeven
namespace Go.Proofs.YtodpgjjgaddkeaaGreatDoor
namespace Rows

/-- THE TIED CARD OF 'grisaillelaw50.HistoryNil'. -/
def historyNilCard : Claim7 := { stood := { row := historyNilRow, standIns := [], harness := (true, "0d5a191572531fcfff86ca48a024670d8beb364bfc31ae837d29669569a54664"), looks := true }, kinds := [], alts := [], laidByText := true, laidKinds := [.data, .handle, .pinned], laidTests := true, laidLooks := .later }
def HistoryNilCardSaid : Prop := Claim7.holds Tryz.pinned (.plain (OpenSpec.ofChange historyNilSpec)) historyNilCard

/-- THE TIED CARD OF 'grisaillelaw50.HistoryUndoRedo'. -/
def historyUndoRedoCard : Claim7 := { stood := { row := historyUndoRedoRow, standIns := [], harness := (true, "0d5a191572531fcfff86ca48a024670d8beb364bfc31ae837d29669569a54664"), looks := true }, kinds := [], alts := [], laidByText := true, laidKinds := [.data, .handle, .pinned], laidTests := true, laidLooks := .later }
def HistoryUndoRedoCardSaid : Prop := Claim7.holds Tryz.pinned (.plain (OpenSpec.ofChange historyUndoRedoSpec)) historyUndoRedoCard

/-- THE TIED CARD OF 'grisaillelaw50.HistoryIsolation'. -/
def historyIsolationCard : Claim7 := { stood := { row := historyIsolationRow, standIns := [], harness := (true, "0d5a191572531fcfff86ca48a024670d8beb364bfc31ae837d29669569a54664"), looks := true }, kinds := [], alts := [], laidByText := true, laidKinds := [.data, .handle, .pinned], laidTests := true, laidLooks := .later }
def HistoryIsolationCardSaid : Prop := Claim7.holds Tryz.pinned (.plain (OpenSpec.ofChange historyIsolationSpec)) historyIsolationCard

/-- THE TIED CARD OF 'grisaillelaw50.HistoryLimit'. -/
def historyLimitCard : Claim7 := { stood := { row := historyLimitRow, standIns := [], harness := (true, "0d5a191572531fcfff86ca48a024670d8beb364bfc31ae837d29669569a54664"), looks := true }, kinds := [], alts := [], laidByText := true, laidKinds := [.data, .handle, .pinned], laidTests := true, laidLooks := .later }
def HistoryLimitCardSaid : Prop := Claim7.holds Tryz.pinned (.plain (OpenSpec.ofChange historyLimitSpec)) historyLimitCard

/-- THE TIED CARD OF 'grisaillelaw50.HistoryCompactSaved'. -/
def historyCompactSavedCard : Claim7 := { stood := { row := historyCompactSavedRow, standIns := [], harness := (true, "0d5a191572531fcfff86ca48a024670d8beb364bfc31ae837d29669569a54664"), looks := true }, kinds := [], alts := [], laidByText := true, laidKinds := [.data, .handle, .pinned], laidTests := true, laidLooks := .later }
def HistoryCompactSavedCardSaid : Prop := Claim7.holds Tryz.pinned (.plain (OpenSpec.ofChange historyCompactSavedSpec)) historyCompactSavedCard

/-- THE TIED CARD OF 'grisaillelaw50.HistoryCompactBackground'. -/
def historyCompactBackgroundCard : Claim7 := { stood := { row := historyCompactBackgroundRow, standIns := [], harness := (true, "0d5a191572531fcfff86ca48a024670d8beb364bfc31ae837d29669569a54664"), looks := true }, kinds := [], alts := [], laidByText := true, laidKinds := [.data, .handle, .pinned], laidTests := true, laidLooks := .later }
def HistoryCompactBackgroundCardSaid : Prop := Claim7.holds Tryz.pinned (.plain (OpenSpec.ofChange historyCompactBackgroundSpec)) historyCompactBackgroundCard

/-- THE SECOND FORM's CARD OF 'grisaillelaw50.HistoryNil'. -/
def historyNilUptoCard : Claim7 := { stood := { row := historyNilUptoRow, standIns := [], harness := (true, "0d5a191572531fcfff86ca48a024670d8beb364bfc31ae837d29669569a54664"), looks := true }, kinds := [], alts := [], laidByText := true, laidKinds := [.data, .handle, .pinned], laidTests := true, laidLooks := .later }
def HistoryNilUptoCardSaid : Prop := Claim7.holds Tryz.pinned (.plain (OpenSpec.upto historyNilSpec)) historyNilUptoCard

/-- THE SECOND FORM's CARD OF 'grisaillelaw50.HistoryUndoRedo'. -/
def historyUndoRedoUptoCard : Claim7 := { stood := { row := historyUndoRedoUptoRow, standIns := [], harness := (true, "0d5a191572531fcfff86ca48a024670d8beb364bfc31ae837d29669569a54664"), looks := true }, kinds := [], alts := [], laidByText := true, laidKinds := [.data, .handle, .pinned], laidTests := true, laidLooks := .later }
def HistoryUndoRedoUptoCardSaid : Prop := Claim7.holds Tryz.pinned (.plain (OpenSpec.upto historyUndoRedoSpec)) historyUndoRedoUptoCard

/-- THE SECOND FORM's CARD OF 'grisaillelaw50.HistoryIsolation'. -/
def historyIsolationUptoCard : Claim7 := { stood := { row := historyIsolationUptoRow, standIns := [], harness := (true, "0d5a191572531fcfff86ca48a024670d8beb364bfc31ae837d29669569a54664"), looks := true }, kinds := [], alts := [], laidByText := true, laidKinds := [.data, .handle, .pinned], laidTests := true, laidLooks := .later }
def HistoryIsolationUptoCardSaid : Prop := Claim7.holds Tryz.pinned (.plain (OpenSpec.upto historyIsolationSpec)) historyIsolationUptoCard

/-- THE SECOND FORM's CARD OF 'grisaillelaw50.HistoryLimit'. -/
def historyLimitUptoCard : Claim7 := { stood := { row := historyLimitUptoRow, standIns := [], harness := (true, "0d5a191572531fcfff86ca48a024670d8beb364bfc31ae837d29669569a54664"), looks := true }, kinds := [], alts := [], laidByText := true, laidKinds := [.data, .handle, .pinned], laidTests := true, laidLooks := .later }
def HistoryLimitUptoCardSaid : Prop := Claim7.holds Tryz.pinned (.plain (OpenSpec.upto historyLimitSpec)) historyLimitUptoCard

/-- THE SECOND FORM's CARD OF 'grisaillelaw50.HistoryCompactSaved'. -/
def historyCompactSavedUptoCard : Claim7 := { stood := { row := historyCompactSavedUptoRow, standIns := [], harness := (true, "0d5a191572531fcfff86ca48a024670d8beb364bfc31ae837d29669569a54664"), looks := true }, kinds := [], alts := [], laidByText := true, laidKinds := [.data, .handle, .pinned], laidTests := true, laidLooks := .later }
def HistoryCompactSavedUptoCardSaid : Prop := Claim7.holds Tryz.pinned (.plain (OpenSpec.upto historyCompactSavedSpec)) historyCompactSavedUptoCard

/-- THE SECOND FORM's CARD OF 'grisaillelaw50.HistoryCompactBackground'. -/
def historyCompactBackgroundUptoCard : Claim7 := { stood := { row := historyCompactBackgroundUptoRow, standIns := [], harness := (true, "0d5a191572531fcfff86ca48a024670d8beb364bfc31ae837d29669569a54664"), looks := true }, kinds := [], alts := [], laidByText := true, laidKinds := [.data, .handle, .pinned], laidTests := true, laidLooks := .later }
def HistoryCompactBackgroundUptoCardSaid : Prop := Claim7.holds Tryz.pinned (.plain (OpenSpec.upto historyCompactBackgroundSpec)) historyCompactBackgroundUptoCard
end Rows
end Go.Proofs.YtodpgjjgaddkeaaGreatDoor
