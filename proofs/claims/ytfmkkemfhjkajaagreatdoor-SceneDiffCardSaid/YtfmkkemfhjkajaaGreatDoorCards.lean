/-
  DERIVED. GIVEN WITH THE SEED: THE CARDS: each row of YtfmkkemfhjkajaaGreatDoorRows.lean that lists a variable, with what it lists TIED to the program's text (the seventh form; the later family's looks); each row that meets fmt, with fmt's text TOLD by the authors' own Lean function (tested against real Go, not proved from fmt's source: count such statements apart). THE CARD IS WHAT COUNTS. Prove the row's statement (the work); the ties are given (YtfmkkemfhjkajaaGreatDoorTie.lean); close each card by the builder's one call (the guide's Derived/Test/ToyasCard.lean, 'card_holds'). Laid BY PROGRAM, IN A SANDBOX (cutbox-door.mjs). By AI agents, Wed Nov 11 2026. No macro, syntax, notation, axiom, sorry.
-/
import Derived.Test.YtfmkkemfhjkajaaGreatDoorRows
import GoSem.ClaimSeven
namespace Go.Proofs.YtfmkkemfhjkajaaGreatDoor
namespace Rows

/-- THE TIED CARD OF 'grisaillelaw37.SceneApply'. -/
def sceneApplyCard : Claim7 := { stood := { row := sceneApplyRow, standIns := [], harness := (true, "44441d20557786c8bafe8556756c9e7672eb79cd5ac80fc352a959995a7cd151"), looks := true }, kinds := [], alts := [], laidByText := true, laidKinds := [.handle], laidTests := true, laidLooks := .later }
def SceneApplyCardSaid : Prop := Claim7.holds Tryz.pinned (.plain (OpenSpec.ofChange sceneApplySpec)) sceneApplyCard

/-- THE TIED CARD OF 'grisaillelaw37.SceneValidity'. -/
def sceneValidityCard : Claim7 := { stood := { row := sceneValidityRow, standIns := [], harness := (true, "44441d20557786c8bafe8556756c9e7672eb79cd5ac80fc352a959995a7cd151"), looks := true }, kinds := [], alts := [], laidByText := true, laidKinds := [.handle], laidTests := true, laidLooks := .later }
def SceneValidityCardSaid : Prop := Claim7.holds Tryz.pinned (.plain (OpenSpec.ofChange sceneValiditySpec)) sceneValidityCard

/-- THE TIED CARD OF 'grisaillelaw37.SceneApplyValid'. -/
def sceneApplyValidCard : Claim7 := { stood := { row := sceneApplyValidRow, standIns := [], harness := (true, "44441d20557786c8bafe8556756c9e7672eb79cd5ac80fc352a959995a7cd151"), looks := true }, kinds := [], alts := [], laidByText := true, laidKinds := [.handle], laidTests := true, laidLooks := .later }
def SceneApplyValidCardSaid : Prop := Claim7.holds Tryz.pinned (.plain (OpenSpec.ofChange sceneApplyValidSpec)) sceneApplyValidCard

/-- THE TIED CARD OF 'grisaillelaw37.SceneClone'. -/
def sceneCloneCard : Claim7 := { stood := { row := sceneCloneRow, standIns := [], harness := (true, "44441d20557786c8bafe8556756c9e7672eb79cd5ac80fc352a959995a7cd151"), looks := true }, kinds := [], alts := [], laidByText := true, laidKinds := [.handle], laidTests := true, laidLooks := .later }
def SceneCloneCardSaid : Prop := Claim7.holds Tryz.pinned (.plain (OpenSpec.ofChange sceneCloneSpec)) sceneCloneCard

/-- THE TIED CARD OF 'grisaillelaw37.SceneSubtree'. -/
def sceneSubtreeCard : Claim7 := { stood := { row := sceneSubtreeRow, standIns := [], harness := (true, "44441d20557786c8bafe8556756c9e7672eb79cd5ac80fc352a959995a7cd151"), looks := true }, kinds := [], alts := [], laidByText := true, laidKinds := [.handle], laidTests := true, laidLooks := .later }
def SceneSubtreeCardSaid : Prop := Claim7.holds Tryz.pinned (.plain (OpenSpec.ofChange sceneSubtreeSpec)) sceneSubtreeCard

/-- THE TIED CARD OF 'grisaillelaw37.SceneApplyAll'. -/
def sceneApplyAllCard : Claim7 := { stood := { row := sceneApplyAllRow, standIns := [], harness := (true, "44441d20557786c8bafe8556756c9e7672eb79cd5ac80fc352a959995a7cd151"), looks := true }, kinds := [], alts := [], laidByText := true, laidKinds := [.handle], laidTests := true, laidLooks := .later }
def SceneApplyAllCardSaid : Prop := Claim7.holds Tryz.pinned (.plain (OpenSpec.ofChange sceneApplyAllSpec)) sceneApplyAllCard

/-- THE TIED CARD OF 'grisaillelaw37.SceneTreeQueries'. -/
def sceneTreeQueriesCard : Claim7 := { stood := { row := sceneTreeQueriesRow, standIns := [], harness := (true, "44441d20557786c8bafe8556756c9e7672eb79cd5ac80fc352a959995a7cd151"), looks := true }, kinds := [], alts := [], laidByText := true, laidKinds := [.handle], laidTests := true, laidLooks := .later }
def SceneTreeQueriesCardSaid : Prop := Claim7.holds Tryz.pinned (.plain (OpenSpec.ofChange sceneTreeQueriesSpec)) sceneTreeQueriesCard

/-- THE TIED CARD OF 'grisaillelaw37.SceneTreeInvariants'. -/
def sceneTreeInvariantsCard : Claim7 := { stood := { row := sceneTreeInvariantsRow, standIns := [], harness := (true, "44441d20557786c8bafe8556756c9e7672eb79cd5ac80fc352a959995a7cd151"), looks := true }, kinds := [], alts := [], laidByText := true, laidKinds := [.handle], laidTests := true, laidLooks := .later }
def SceneTreeInvariantsCardSaid : Prop := Claim7.holds Tryz.pinned (.plain (OpenSpec.ofChange sceneTreeInvariantsSpec)) sceneTreeInvariantsCard

/-- THE TIED CARD OF 'grisaillelaw37.SceneDiff'. -/
def sceneDiffCard : Claim7 := { stood := { row := sceneDiffRow, standIns := [], harness := (true, "44441d20557786c8bafe8556756c9e7672eb79cd5ac80fc352a959995a7cd151"), looks := true }, kinds := [], alts := [], laidByText := true, laidKinds := [.handle], laidTests := true, laidLooks := .later }
def SceneDiffCardSaid : Prop := Claim7.holds Tryz.pinned (.plain (OpenSpec.ofChange sceneDiffSpec)) sceneDiffCard

/-- THE TIED CARD OF 'grisaillelaw37.SceneDiffSmall'. -/
def sceneDiffSmallCard : Claim7 := { stood := { row := sceneDiffSmallRow, standIns := [], harness := (true, "44441d20557786c8bafe8556756c9e7672eb79cd5ac80fc352a959995a7cd151"), looks := true }, kinds := [], alts := [], laidByText := true, laidKinds := [.handle], laidTests := true, laidLooks := .later }
def SceneDiffSmallCardSaid : Prop := Claim7.holds Tryz.pinned (.plain (OpenSpec.ofChange sceneDiffSmallSpec)) sceneDiffSmallCard

/-- THE TIED CARD OF 'grisaillelaw37.SceneDiffApply'. -/
def sceneDiffApplyCard : Claim7 := { stood := { row := sceneDiffApplyRow, standIns := [], harness := (true, "44441d20557786c8bafe8556756c9e7672eb79cd5ac80fc352a959995a7cd151"), looks := true }, kinds := [], alts := [], laidByText := true, laidKinds := [.handle], laidTests := true, laidLooks := .later }
def SceneDiffApplyCardSaid : Prop := Claim7.holds Tryz.pinned (.plain (OpenSpec.ofChange sceneDiffApplySpec)) sceneDiffApplyCard

/-- THE SECOND FORM's CARD OF 'grisaillelaw37.SceneApply'. -/
def sceneApplyUptoCard : Claim7 := { stood := { row := sceneApplyUptoRow, standIns := [], harness := (true, "44441d20557786c8bafe8556756c9e7672eb79cd5ac80fc352a959995a7cd151"), looks := true }, kinds := [], alts := [], laidByText := true, laidKinds := [.handle], laidTests := true, laidLooks := .later }
def SceneApplyUptoCardSaid : Prop := Claim7.holds Tryz.pinned (.plain (OpenSpec.upto sceneApplySpec)) sceneApplyUptoCard

/-- THE SECOND FORM's CARD OF 'grisaillelaw37.SceneValidity'. -/
def sceneValidityUptoCard : Claim7 := { stood := { row := sceneValidityUptoRow, standIns := [], harness := (true, "44441d20557786c8bafe8556756c9e7672eb79cd5ac80fc352a959995a7cd151"), looks := true }, kinds := [], alts := [], laidByText := true, laidKinds := [.handle], laidTests := true, laidLooks := .later }
def SceneValidityUptoCardSaid : Prop := Claim7.holds Tryz.pinned (.plain (OpenSpec.upto sceneValiditySpec)) sceneValidityUptoCard

/-- THE SECOND FORM's CARD OF 'grisaillelaw37.SceneApplyValid'. -/
def sceneApplyValidUptoCard : Claim7 := { stood := { row := sceneApplyValidUptoRow, standIns := [], harness := (true, "44441d20557786c8bafe8556756c9e7672eb79cd5ac80fc352a959995a7cd151"), looks := true }, kinds := [], alts := [], laidByText := true, laidKinds := [.handle], laidTests := true, laidLooks := .later }
def SceneApplyValidUptoCardSaid : Prop := Claim7.holds Tryz.pinned (.plain (OpenSpec.upto sceneApplyValidSpec)) sceneApplyValidUptoCard

/-- THE SECOND FORM's CARD OF 'grisaillelaw37.SceneClone'. -/
def sceneCloneUptoCard : Claim7 := { stood := { row := sceneCloneUptoRow, standIns := [], harness := (true, "44441d20557786c8bafe8556756c9e7672eb79cd5ac80fc352a959995a7cd151"), looks := true }, kinds := [], alts := [], laidByText := true, laidKinds := [.handle], laidTests := true, laidLooks := .later }
def SceneCloneUptoCardSaid : Prop := Claim7.holds Tryz.pinned (.plain (OpenSpec.upto sceneCloneSpec)) sceneCloneUptoCard

/-- THE SECOND FORM's CARD OF 'grisaillelaw37.SceneSubtree'. -/
def sceneSubtreeUptoCard : Claim7 := { stood := { row := sceneSubtreeUptoRow, standIns := [], harness := (true, "44441d20557786c8bafe8556756c9e7672eb79cd5ac80fc352a959995a7cd151"), looks := true }, kinds := [], alts := [], laidByText := true, laidKinds := [.handle], laidTests := true, laidLooks := .later }
def SceneSubtreeUptoCardSaid : Prop := Claim7.holds Tryz.pinned (.plain (OpenSpec.upto sceneSubtreeSpec)) sceneSubtreeUptoCard

/-- THE SECOND FORM's CARD OF 'grisaillelaw37.SceneApplyAll'. -/
def sceneApplyAllUptoCard : Claim7 := { stood := { row := sceneApplyAllUptoRow, standIns := [], harness := (true, "44441d20557786c8bafe8556756c9e7672eb79cd5ac80fc352a959995a7cd151"), looks := true }, kinds := [], alts := [], laidByText := true, laidKinds := [.handle], laidTests := true, laidLooks := .later }
def SceneApplyAllUptoCardSaid : Prop := Claim7.holds Tryz.pinned (.plain (OpenSpec.upto sceneApplyAllSpec)) sceneApplyAllUptoCard

/-- THE SECOND FORM's CARD OF 'grisaillelaw37.SceneTreeQueries'. -/
def sceneTreeQueriesUptoCard : Claim7 := { stood := { row := sceneTreeQueriesUptoRow, standIns := [], harness := (true, "44441d20557786c8bafe8556756c9e7672eb79cd5ac80fc352a959995a7cd151"), looks := true }, kinds := [], alts := [], laidByText := true, laidKinds := [.handle], laidTests := true, laidLooks := .later }
def SceneTreeQueriesUptoCardSaid : Prop := Claim7.holds Tryz.pinned (.plain (OpenSpec.upto sceneTreeQueriesSpec)) sceneTreeQueriesUptoCard

/-- THE SECOND FORM's CARD OF 'grisaillelaw37.SceneTreeInvariants'. -/
def sceneTreeInvariantsUptoCard : Claim7 := { stood := { row := sceneTreeInvariantsUptoRow, standIns := [], harness := (true, "44441d20557786c8bafe8556756c9e7672eb79cd5ac80fc352a959995a7cd151"), looks := true }, kinds := [], alts := [], laidByText := true, laidKinds := [.handle], laidTests := true, laidLooks := .later }
def SceneTreeInvariantsUptoCardSaid : Prop := Claim7.holds Tryz.pinned (.plain (OpenSpec.upto sceneTreeInvariantsSpec)) sceneTreeInvariantsUptoCard

/-- THE SECOND FORM's CARD OF 'grisaillelaw37.SceneDiff'. -/
def sceneDiffUptoCard : Claim7 := { stood := { row := sceneDiffUptoRow, standIns := [], harness := (true, "44441d20557786c8bafe8556756c9e7672eb79cd5ac80fc352a959995a7cd151"), looks := true }, kinds := [], alts := [], laidByText := true, laidKinds := [.handle], laidTests := true, laidLooks := .later }
def SceneDiffUptoCardSaid : Prop := Claim7.holds Tryz.pinned (.plain (OpenSpec.upto sceneDiffSpec)) sceneDiffUptoCard

/-- THE SECOND FORM's CARD OF 'grisaillelaw37.SceneDiffSmall'. -/
def sceneDiffSmallUptoCard : Claim7 := { stood := { row := sceneDiffSmallUptoRow, standIns := [], harness := (true, "44441d20557786c8bafe8556756c9e7672eb79cd5ac80fc352a959995a7cd151"), looks := true }, kinds := [], alts := [], laidByText := true, laidKinds := [.handle], laidTests := true, laidLooks := .later }
def SceneDiffSmallUptoCardSaid : Prop := Claim7.holds Tryz.pinned (.plain (OpenSpec.upto sceneDiffSmallSpec)) sceneDiffSmallUptoCard

/-- THE SECOND FORM's CARD OF 'grisaillelaw37.SceneDiffApply'. -/
def sceneDiffApplyUptoCard : Claim7 := { stood := { row := sceneDiffApplyUptoRow, standIns := [], harness := (true, "44441d20557786c8bafe8556756c9e7672eb79cd5ac80fc352a959995a7cd151"), looks := true }, kinds := [], alts := [], laidByText := true, laidKinds := [.handle], laidTests := true, laidLooks := .later }
def SceneDiffApplyUptoCardSaid : Prop := Claim7.holds Tryz.pinned (.plain (OpenSpec.upto sceneDiffApplySpec)) sceneDiffApplyUptoCard
end Rows
end Go.Proofs.YtfmkkemfhjkajaaGreatDoor
