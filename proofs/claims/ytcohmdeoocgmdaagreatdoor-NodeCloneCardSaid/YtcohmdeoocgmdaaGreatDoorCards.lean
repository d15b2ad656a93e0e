/-
  DERIVED. GIVEN WITH THE SEED: THE CARDS: each row of YtcohmdeoocgmdaaGreatDoorRows.lean that lists a variable, with what it lists TIED to the program's text (the seventh form; the later family's looks); each row that meets fmt, with fmt's text TOLD by the authors' own Lean function (tested against real Go, not proved from fmt's source: count such statements apart). THE CARD IS WHAT COUNTS. Prove the row's statement (the work); the ties are given (YtcohmdeoocgmdaaGreatDoorTie.lean); close each card by the builder's one call (the guide's Derived/Test/ToyasCard.lean, 'card_holds'). Laid BY PROGRAM, IN A SANDBOX (cutbox-door.mjs). By AI agents, Wed Nov 11 2026. No macro, syntax, notation, axiom, sorry.
-/
import Derived.Test.YtcohmdeoocgmdaaGreatDoorRows
import GoSem.ClaimSeven
namespace Go.Proofs.YtcohmdeoocgmdaaGreatDoor
namespace Rows

/-- THE TIED CARD OF 'grisaillelaw36.NodeForeignFields'. -/
def nodeForeignFieldsCard : Claim7 := { stood := { row := nodeForeignFieldsRow, standIns := [], harness := (true, "a4e5e4aeb5788b67292c9c6475681927d0276a5b7897efb60a5ff58f99b393ea"), looks := true }, kinds := [], alts := [], laidByText := true, laidKinds := [.handle], laidTests := true, laidLooks := .later }
def NodeForeignFieldsCardSaid : Prop := Claim7.holds Tryz.pinned (.plain (OpenSpec.ofChange nodeForeignFieldsSpec)) nodeForeignFieldsCard

/-- THE TIED CARD OF 'grisaillelaw36.NodeTransform'. -/
def nodeTransformCard : Claim7 := { stood := { row := nodeTransformRow, standIns := [], harness := (true, "a4e5e4aeb5788b67292c9c6475681927d0276a5b7897efb60a5ff58f99b393ea"), looks := true }, kinds := [], alts := [], laidByText := true, laidKinds := [.handle], laidTests := true, laidLooks := .later }
def NodeTransformCardSaid : Prop := Claim7.holds Tryz.pinned (.plain (OpenSpec.ofChange nodeTransformSpec)) nodeTransformCard

/-- THE TIED CARD OF 'grisaillelaw36.NodeCheck'. -/
def nodeCheckCard : Claim7 := { stood := { row := nodeCheckRow, standIns := [], harness := (true, "a4e5e4aeb5788b67292c9c6475681927d0276a5b7897efb60a5ff58f99b393ea"), looks := true }, kinds := [], alts := [], laidByText := true, laidKinds := [.handle], laidTests := true, laidLooks := .later }
def NodeCheckCardSaid : Prop := Claim7.holds Tryz.pinned (.plain (OpenSpec.ofChange nodeCheckSpec)) nodeCheckCard

/-- THE TIED CARD OF 'grisaillelaw36.NodeDefault'. -/
def nodeDefaultCard : Claim7 := { stood := { row := nodeDefaultRow, standIns := [], harness := (true, "a4e5e4aeb5788b67292c9c6475681927d0276a5b7897efb60a5ff58f99b393ea"), looks := true }, kinds := [], alts := [], laidByText := true, laidKinds := [.handle], laidTests := true, laidLooks := .later }
def NodeDefaultCardSaid : Prop := Claim7.holds Tryz.pinned (.plain (OpenSpec.ofChange nodeDefaultSpec)) nodeDefaultCard

/-- THE TIED CARD OF 'grisaillelaw36.NodeEqual'. -/
def nodeEqualCard : Claim7 := { stood := { row := nodeEqualRow, standIns := [], harness := (true, "a4e5e4aeb5788b67292c9c6475681927d0276a5b7897efb60a5ff58f99b393ea"), looks := true }, kinds := [], alts := [], laidByText := true, laidKinds := [.handle], laidTests := true, laidLooks := .later }
def NodeEqualCardSaid : Prop := Claim7.holds Tryz.pinned (.plain (OpenSpec.ofChange nodeEqualSpec)) nodeEqualCard

/-- THE TIED CARD OF 'grisaillelaw36.NodeClone'. -/
def nodeCloneCard : Claim7 := { stood := { row := nodeCloneRow, standIns := [], harness := (true, "a4e5e4aeb5788b67292c9c6475681927d0276a5b7897efb60a5ff58f99b393ea"), looks := true }, kinds := [], alts := [], laidByText := true, laidKinds := [.handle], laidTests := true, laidLooks := .later }
def NodeCloneCardSaid : Prop := Claim7.holds Tryz.pinned (.plain (OpenSpec.ofChange nodeCloneSpec)) nodeCloneCard

/-- THE SECOND FORM's CARD OF 'grisaillelaw36.NodeForeignFields'. -/
def nodeForeignFieldsUptoCard : Claim7 := { stood := { row := nodeForeignFieldsUptoRow, standIns := [], harness := (true, "a4e5e4aeb5788b67292c9c6475681927d0276a5b7897efb60a5ff58f99b393ea"), looks := true }, kinds := [], alts := [], laidByText := true, laidKinds := [.handle], laidTests := true, laidLooks := .later }
def NodeForeignFieldsUptoCardSaid : Prop := Claim7.holds Tryz.pinned (.plain (OpenSpec.upto nodeForeignFieldsSpec)) nodeForeignFieldsUptoCard

/-- THE SECOND FORM's CARD OF 'grisaillelaw36.NodeTransform'. -/
def nodeTransformUptoCard : Claim7 := { stood := { row := nodeTransformUptoRow, standIns := [], harness := (true, "a4e5e4aeb5788b67292c9c6475681927d0276a5b7897efb60a5ff58f99b393ea"), looks := true }, kinds := [], alts := [], laidByText := true, laidKinds := [.handle], laidTests := true, laidLooks := .later }
def NodeTransformUptoCardSaid : Prop := Claim7.holds Tryz.pinned (.plain (OpenSpec.upto nodeTransformSpec)) nodeTransformUptoCard

/-- THE SECOND FORM's CARD OF 'grisaillelaw36.NodeCheck'. -/
def nodeCheckUptoCard : Claim7 := { stood := { row := nodeCheckUptoRow, standIns := [], harness := (true, "a4e5e4aeb5788b67292c9c6475681927d0276a5b7897efb60a5ff58f99b393ea"), looks := true }, kinds := [], alts := [], laidByText := true, laidKinds := [.handle], laidTests := true, laidLooks := .later }
def NodeCheckUptoCardSaid : Prop := Claim7.holds Tryz.pinned (.plain (OpenSpec.upto nodeCheckSpec)) nodeCheckUptoCard

/-- THE SECOND FORM's CARD OF 'grisaillelaw36.NodeDefault'. -/
def nodeDefaultUptoCard : Claim7 := { stood := { row := nodeDefaultUptoRow, standIns := [], harness := (true, "a4e5e4aeb5788b67292c9c6475681927d0276a5b7897efb60a5ff58f99b393ea"), looks := true }, kinds := [], alts := [], laidByText := true, laidKinds := [.handle], laidTests := true, laidLooks := .later }
def NodeDefaultUptoCardSaid : Prop := Claim7.holds Tryz.pinned (.plain (OpenSpec.upto nodeDefaultSpec)) nodeDefaultUptoCard

/-- THE SECOND FORM's CARD OF 'grisaillelaw36.NodeEqual'. -/
def nodeEqualUptoCard : Claim7 := { stood := { row := nodeEqualUptoRow, standIns := [], harness := (true, "a4e5e4aeb5788b67292c9c6475681927d0276a5b7897efb60a5ff58f99b393ea"), looks := true }, kinds := [], alts := [], laidByText := true, laidKinds := [.handle], laidTests := true, laidLooks := .later }
def NodeEqualUptoCardSaid : Prop := Claim7.holds Tryz.pinned (.plain (OpenSpec.upto nodeEqualSpec)) nodeEqualUptoCard

/-- THE SECOND FORM's CARD OF 'grisaillelaw36.NodeClone'. -/
def nodeCloneUptoCard : Claim7 := { stood := { row := nodeCloneUptoRow, standIns := [], harness := (true, "a4e5e4aeb5788b67292c9c6475681927d0276a5b7897efb60a5ff58f99b393ea"), looks := true }, kinds := [], alts := [], laidByText := true, laidKinds := [.handle], laidTests := true, laidLooks := .later }
def NodeCloneUptoCardSaid : Prop := Claim7.holds Tryz.pinned (.plain (OpenSpec.upto nodeCloneSpec)) nodeCloneUptoCard
end Rows
end Go.Proofs.YtcohmdeoocgmdaaGreatDoor
