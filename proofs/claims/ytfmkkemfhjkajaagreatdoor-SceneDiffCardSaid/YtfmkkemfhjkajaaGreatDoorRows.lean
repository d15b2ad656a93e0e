/-
  NARROWER THAN 'FOR EVERY INPUT', by the rows' own cells (each row's printed sentence says how): SceneApply: laid · SceneValidity: laid · SceneApplyValid: laid · SceneClone: laid · SceneSubtree: laid · SceneApplyAll: laid · SceneTreeQueries: laid · SceneTreeInvariants: laid · SceneDiff: laid · SceneDiffSmall: laid · SceneDiffApply: laid.
  DERIVED. THE GIVEN ROWS OF THIS SEAT. 11 by the template 'for every input the law returns true; each argument reads behind the call as it read before'; 0 by the template 'total and deterministic' (their statements: YtfmkkemfhjkajaaGreatDoorTotals.lean).
  GIVEN WITH THE SEED: the statements are not yours to turn. If you find one false, say at which input.
  Laid BY PROGRAM, IN A SANDBOX (cutbox-rows.mjs): the forced cells as the released guide's own fill.sh prints them over the translation 5ef532b573d0ee9b… (all of the seat's roots in one cut). By AI agents, Wed Nov 11 2026. No macro, syntax, notation, axiom, sorry.
-/
import Derived.Test.YtfmkkemfhjkajaaGreatDoorChecked
import GoSem.Claim
import GoSem.ClaimJoined
import GoSem.ClaimMapViews
import Derived.JoinedTies
import Derived.KernelRfl
namespace Go.Proofs.YtfmkkemfhjkajaaGreatDoor
/- THE CELL 'sum', in the pinned program and in every row, IS THE sha256 OF THE DUMP (.gsa) THAT YtfmkkemfhjkajaaGreatDoorProg.lean LOADS. Nothing in Lean hashes anything: it is a label: what it is worth is what the hold of that sum in a sandbox is worth. -/
noncomputable def Tryz.pinned : Pinned := { name := "ytfmkkemfhjkajaagreatdoor", sum := "5ef532b573d0ee9b1a47fc8a60f6c3198ee49664ee9aa4c310cc765ddf9f4dfa", checked := Tryz.checked }
namespace Rows
def none {H : Type} : Left H := { results := [], args := [] }

/- WHAT THE LISTED PACKAGE-LEVEL VARIABLES READ AS WHEN THE CALL BEGINS. Each datum BY PROGRAM (the guide's laid-datum.mjs) off the statement by which the dump's own 'gosem.cut.vars' lays the variable. In a bare row this is a premise. The card (YtfmkkemfhjkajaaGreatDoorCards.lean) ties it to the program's text. -/
def laid_errors_errorType {H : Type} : DataW H := .iface "internal/reflectlite.rtype" (.agg [.ptr (.lit (.string [101, 114, 114, 111, 114]))])

/-- 'grisaillelaw37.SceneApply': WHATEVER THE INPUT: true; the input reads as it did. -/
def sceneApplySpec : ChangeSpec := { name := "sceneApply", fn := fun _ => fun
  | [d1, d2] => { results := [.lit (.bool true)], args := [d1, d2] }
  | _ => none }
def sceneApplyRow : OpenClaim := { program := "ytfmkkemfhjkajaagreatdoor", sum := "5ef532b573d0ee9b1a47fc8a60f6c3198ee49664ee9aa4c310cc765ddf9f4dfa", func := "grisaille/grisaillelaw37.SceneApply", spec := "sceneApply", inPlace := ["internal/reflectlite.ValueOf", "(internal/reflectlite.Value).Type", "(internal/reflectlite.Value).IsNil", "internal/reflectlite.TypeOf", "(internal/reflectlite.Value).Elem", "(internal/reflectlite.Value).Set"], unfollowed := true, recurses := true, named := ["errors.errorType"], apart := false, laid := [("errors.errorType", laid_errors_errorType)] }
def SceneApplySaid : Prop := sceneApplyRow.holds Tryz.pinned (OpenSpec.ofChange sceneApplySpec)

/-- ITS FALSE NEIGHBOUR: 'it returns false'. Refute it at one input. -/
def sceneApplyWrong : ChangeSpec := { name := "sceneApply", fn := fun _ => fun
  | [d1, d2] => { results := [.lit (.bool false)], args := [d1, d2] }
  | _ => none }
def SceneApplyWrongFalsely : Prop := sceneApplyRow.holds Tryz.pinned (OpenSpec.ofChange sceneApplyWrong)

/-- 'grisaillelaw37.SceneValidity': WHATEVER THE INPUT: true; the input reads as it did. -/
def sceneValiditySpec : ChangeSpec := { name := "sceneValidity", fn := fun _ => fun
  | [d1, d2] => { results := [.lit (.bool true)], args := [d1, d2] }
  | _ => none }
def sceneValidityRow : OpenClaim := { program := "ytfmkkemfhjkajaagreatdoor", sum := "5ef532b573d0ee9b1a47fc8a60f6c3198ee49664ee9aa4c310cc765ddf9f4dfa", func := "grisaille/grisaillelaw37.SceneValidity", spec := "sceneValidity", inPlace := ["internal/reflectlite.ValueOf", "(internal/reflectlite.Value).Type", "(internal/reflectlite.Value).IsNil", "internal/reflectlite.TypeOf", "(internal/reflectlite.Value).Elem", "(internal/reflectlite.Value).Set"], unfollowed := true, recurses := true, named := ["errors.errorType"], apart := false, laid := [("errors.errorType", laid_errors_errorType)] }
def SceneValiditySaid : Prop := sceneValidityRow.holds Tryz.pinned (OpenSpec.ofChange sceneValiditySpec)

/-- ITS FALSE NEIGHBOUR: 'it returns false'. Refute it at one input. -/
def sceneValidityWrong : ChangeSpec := { name := "sceneValidity", fn := fun _ => fun
  | [d1, d2] => { results := [.lit (.bool false)], args := [d1, d2] }
  | _ => none }
def SceneValidityWrongFalsely : Prop := sceneValidityRow.holds Tryz.pinned (OpenSpec.ofChange sceneValidityWrong)

/-- 'grisaillelaw37.SceneApplyValid': WHATEVER THE INPUT: true; the input reads as it did. -/
def sceneApplyValidSpec : ChangeSpec := { name := "sceneApplyValid", fn := fun _ => fun
  | [d1, d2] => { results := [.lit (.bool true)], args := [d1, d2] }
  | _ => none }
def sceneApplyValidRow : OpenClaim := { program := "ytfmkkemfhjkajaagreatdoor", sum := "5ef532b573d0ee9b1a47fc8a60f6c3198ee49664ee9aa4c310cc765ddf9f4dfa", func := "grisaille/grisaillelaw37.SceneApplyValid", spec := "sceneApplyValid", inPlace := ["internal/reflectlite.ValueOf", "(internal/reflectlite.Value).Type", "(internal/reflectlite.Value).IsNil", "internal/reflectlite.TypeOf", "(internal/reflectlite.Value).Elem", "(internal/reflectlite.Value).Set"], unfollowed := true, recurses := true, named := ["errors.errorType"], apart := false, laid := [("errors.errorType", laid_errors_errorType)] }
def SceneApplyValidSaid : Prop := sceneApplyValidRow.holds Tryz.pinned (OpenSpec.ofChange sceneApplyValidSpec)

/-- ITS FALSE NEIGHBOUR: 'it returns false'. Refute it at one input. -/
def sceneApplyValidWrong : ChangeSpec := { name := "sceneApplyValid", fn := fun _ => fun
  | [d1, d2] => { results := [.lit (.bool false)], args := [d1, d2] }
  | _ => none }
def SceneApplyValidWrongFalsely : Prop := sceneApplyValidRow.holds Tryz.pinned (OpenSpec.ofChange sceneApplyValidWrong)

/-- 'grisaillelaw37.SceneClone': WHATEVER THE INPUT: true; the input reads as it did. -/
def sceneCloneSpec : ChangeSpec := { name := "sceneClone", fn := fun _ => fun
  | [d1, d2] => { results := [.lit (.bool true)], args := [d1, d2] }
  | _ => none }
def sceneCloneRow : OpenClaim := { program := "ytfmkkemfhjkajaagreatdoor", sum := "5ef532b573d0ee9b1a47fc8a60f6c3198ee49664ee9aa4c310cc765ddf9f4dfa", func := "grisaille/grisaillelaw37.SceneClone", spec := "sceneClone", inPlace := ["internal/reflectlite.ValueOf", "(internal/reflectlite.Value).Type", "(internal/reflectlite.Value).IsNil", "internal/reflectlite.TypeOf", "(internal/reflectlite.Value).Elem", "(internal/reflectlite.Value).Set"], unfollowed := true, recurses := true, named := ["errors.errorType"], apart := false, laid := [("errors.errorType", laid_errors_errorType)] }
def SceneCloneSaid : Prop := sceneCloneRow.holds Tryz.pinned (OpenSpec.ofChange sceneCloneSpec)

/-- ITS FALSE NEIGHBOUR: 'it returns false'. Refute it at one input. -/
def sceneCloneWrong : ChangeSpec := { name := "sceneClone", fn := fun _ => fun
  | [d1, d2] => { results := [.lit (.bool false)], args := [d1, d2] }
  | _ => none }
def SceneCloneWrongFalsely : Prop := sceneCloneRow.holds Tryz.pinned (OpenSpec.ofChange sceneCloneWrong)

/-- 'grisaillelaw37.SceneSubtree': WHATEVER THE INPUT: true; the input reads as it did. -/
def sceneSubtreeSpec : ChangeSpec := { name := "sceneSubtree", fn := fun _ => fun
  | [d1, d2] => { results := [.lit (.bool true)], args := [d1, d2] }
  | _ => none }
def sceneSubtreeRow : OpenClaim := { program := "ytfmkkemfhjkajaagreatdoor", sum := "5ef532b573d0ee9b1a47fc8a60f6c3198ee49664ee9aa4c310cc765ddf9f4dfa", func := "grisaille/grisaillelaw37.SceneSubtree", spec := "sceneSubtree", inPlace := ["internal/reflectlite.ValueOf", "(internal/reflectlite.Value).Type", "(internal/reflectlite.Value).IsNil", "internal/reflectlite.TypeOf", "(internal/reflectlite.Value).Elem", "(internal/reflectlite.Value).Set"], unfollowed := true, recurses := true, named := ["errors.errorType"], apart := false, laid := [("errors.errorType", laid_errors_errorType)] }
def SceneSubtreeSaid : Prop := sceneSubtreeRow.holds Tryz.pinned (OpenSpec.ofChange sceneSubtreeSpec)

/-- ITS FALSE NEIGHBOUR: 'it returns false'. Refute it at one input. -/
def sceneSubtreeWrong : ChangeSpec := { name := "sceneSubtree", fn := fun _ => fun
  | [d1, d2] => { results := [.lit (.bool false)], args := [d1, d2] }
  | _ => none }
def SceneSubtreeWrongFalsely : Prop := sceneSubtreeRow.holds Tryz.pinned (OpenSpec.ofChange sceneSubtreeWrong)

/-- 'grisaillelaw37.SceneApplyAll': WHATEVER THE INPUT: true; the input reads as it did. -/
def sceneApplyAllSpec : ChangeSpec := { name := "sceneApplyAll", fn := fun _ => fun
  | [d1, d2] => { results := [.lit (.bool true)], args := [d1, d2] }
  | _ => none }
def sceneApplyAllRow : OpenClaim := { program := "ytfmkkemfhjkajaagreatdoor", sum := "5ef532b573d0ee9b1a47fc8a60f6c3198ee49664ee9aa4c310cc765ddf9f4dfa", func := "grisaille/grisaillelaw37.SceneApplyAll", spec := "sceneApplyAll", inPlace := ["internal/reflectlite.ValueOf", "(internal/reflectlite.Value).Type", "(internal/reflectlite.Value).IsNil", "internal/reflectlite.TypeOf", "(internal/reflectlite.Value).Elem", "(internal/reflectlite.Value).Set"], unfollowed := true, recurses := true, named := ["errors.errorType"], apart := false, laid := [("errors.errorType", laid_errors_errorType)] }
def SceneApplyAllSaid : Prop := sceneApplyAllRow.holds Tryz.pinned (OpenSpec.ofChange sceneApplyAllSpec)

/-- ITS FALSE NEIGHBOUR: 'it returns false'. Refute it at one input. -/
def sceneApplyAllWrong : ChangeSpec := { name := "sceneApplyAll", fn := fun _ => fun
  | [d1, d2] => { results := [.lit (.bool false)], args := [d1, d2] }
  | _ => none }
def SceneApplyAllWrongFalsely : Prop := sceneApplyAllRow.holds Tryz.pinned (OpenSpec.ofChange sceneApplyAllWrong)

/-- 'grisaillelaw37.SceneTreeQueries': WHATEVER THE INPUT: true; the input reads as it did. -/
def sceneTreeQueriesSpec : ChangeSpec := { name := "sceneTreeQueries", fn := fun _ => fun
  | [d1, d2, d3] => { results := [.lit (.bool true)], args := [d1, d2, d3] }
  | _ => none }
def sceneTreeQueriesRow : OpenClaim := { program := "ytfmkkemfhjkajaagreatdoor", sum := "5ef532b573d0ee9b1a47fc8a60f6c3198ee49664ee9aa4c310cc765ddf9f4dfa", func := "grisaille/grisaillelaw37.SceneTreeQueries", spec := "sceneTreeQueries", inPlace := ["internal/reflectlite.ValueOf", "(internal/reflectlite.Value).Type", "(internal/reflectlite.Value).IsNil", "internal/reflectlite.TypeOf", "(internal/reflectlite.Value).Elem", "(internal/reflectlite.Value).Set"], unfollowed := true, recurses := true, named := ["errors.errorType"], apart := false, laid := [("errors.errorType", laid_errors_errorType)] }
def SceneTreeQueriesSaid : Prop := sceneTreeQueriesRow.holds Tryz.pinned (OpenSpec.ofChange sceneTreeQueriesSpec)

/-- ITS FALSE NEIGHBOUR: 'it returns false'. Refute it at one input. -/
def sceneTreeQueriesWrong : ChangeSpec := { name := "sceneTreeQueries", fn := fun _ => fun
  | [d1, d2, d3] => { results := [.lit (.bool false)], args := [d1, d2, d3] }
  | _ => none }
def SceneTreeQueriesWrongFalsely : Prop := sceneTreeQueriesRow.holds Tryz.pinned (OpenSpec.ofChange sceneTreeQueriesWrong)

/-- 'grisaillelaw37.SceneTreeInvariants': WHATEVER THE INPUT: true; the input reads as it did. -/
def sceneTreeInvariantsSpec : ChangeSpec := { name := "sceneTreeInvariants", fn := fun _ => fun
  | [d] => { results := [.lit (.bool true)], args := [d] }
  | _ => none }
def sceneTreeInvariantsRow : OpenClaim := { program := "ytfmkkemfhjkajaagreatdoor", sum := "5ef532b573d0ee9b1a47fc8a60f6c3198ee49664ee9aa4c310cc765ddf9f4dfa", func := "grisaille/grisaillelaw37.SceneTreeInvariants", spec := "sceneTreeInvariants", inPlace := ["internal/reflectlite.ValueOf", "(internal/reflectlite.Value).Type", "(internal/reflectlite.Value).IsNil", "internal/reflectlite.TypeOf", "(internal/reflectlite.Value).Elem", "(internal/reflectlite.Value).Set"], unfollowed := true, recurses := true, named := ["errors.errorType"], apart := false, laid := [("errors.errorType", laid_errors_errorType)] }
def SceneTreeInvariantsSaid : Prop := sceneTreeInvariantsRow.holds Tryz.pinned (OpenSpec.ofChange sceneTreeInvariantsSpec)

/-- ITS FALSE NEIGHBOUR: 'it returns false'. Refute it at one input. -/
def sceneTreeInvariantsWrong : ChangeSpec := { name := "sceneTreeInvariants", fn := fun _ => fun
  | [d] => { results := [.lit (.bool false)], args := [d] }
  | _ => none }
def SceneTreeInvariantsWrongFalsely : Prop := sceneTreeInvariantsRow.holds Tryz.pinned (OpenSpec.ofChange sceneTreeInvariantsWrong)

/-- 'grisaillelaw37.SceneDiff': WHATEVER THE INPUT: true; the input reads as it did. -/
def sceneDiffSpec : ChangeSpec := { name := "sceneDiff", fn := fun _ => fun
  | [d1, d2] => { results := [.lit (.bool true)], args := [d1, d2] }
  | _ => none }
def sceneDiffRow : OpenClaim := { program := "ytfmkkemfhjkajaagreatdoor", sum := "5ef532b573d0ee9b1a47fc8a60f6c3198ee49664ee9aa4c310cc765ddf9f4dfa", func := "grisaille/grisaillelaw37.SceneDiff", spec := "sceneDiff", inPlace := ["internal/reflectlite.ValueOf", "(internal/reflectlite.Value).Type", "(internal/reflectlite.Value).IsNil", "internal/reflectlite.TypeOf", "(internal/reflectlite.Value).Elem", "(internal/reflectlite.Value).Set"], unfollowed := true, recurses := true, named := ["errors.errorType"], apart := false, laid := [("errors.errorType", laid_errors_errorType)] }
def SceneDiffSaid : Prop := sceneDiffRow.holds Tryz.pinned (OpenSpec.ofChange sceneDiffSpec)

/-- ITS FALSE NEIGHBOUR: 'it returns false'. Refute it at one input. -/
def sceneDiffWrong : ChangeSpec := { name := "sceneDiff", fn := fun _ => fun
  | [d1, d2] => { results := [.lit (.bool false)], args := [d1, d2] }
  | _ => none }
def SceneDiffWrongFalsely : Prop := sceneDiffRow.holds Tryz.pinned (OpenSpec.ofChange sceneDiffWrong)

/-- 'grisaillelaw37.SceneDiffSmall': WHATEVER THE INPUT: true; the input reads as it did. -/
def sceneDiffSmallSpec : ChangeSpec := { name := "sceneDiffSmall", fn := fun _ => fun
  | [d1, d2] => { results := [.lit (.bool true)], args := [d1, d2] }
  | _ => none }
def sceneDiffSmallRow : OpenClaim := { program := "ytfmkkemfhjkajaagreatdoor", sum := "5ef532b573d0ee9b1a47fc8a60f6c3198ee49664ee9aa4c310cc765ddf9f4dfa", func := "grisaille/grisaillelaw37.SceneDiffSmall", spec := "sceneDiffSmall", inPlace := ["internal/reflectlite.ValueOf", "(internal/reflectlite.Value).Type", "(internal/reflectlite.Value).IsNil", "internal/reflectlite.TypeOf", "(internal/reflectlite.Value).Elem", "(internal/reflectlite.Value).Set"], unfollowed := true, recurses := true, named := ["errors.errorType"], apart := false, laid := [("errors.errorType", laid_errors_errorType)] }
def SceneDiffSmallSaid : Prop := sceneDiffSmallRow.holds Tryz.pinned (OpenSpec.ofChange sceneDiffSmallSpec)

/-- ITS FALSE NEIGHBOUR: 'it returns false'. Refute it at one input. -/
def sceneDiffSmallWrong : ChangeSpec := { name := "sceneDiffSmall", fn := fun _ => fun
  | [d1, d2] => { results := [.lit (.bool false)], args := [d1, d2] }
  | _ => none }
def SceneDiffSmallWrongFalsely : Prop := sceneDiffSmallRow.holds Tryz.pinned (OpenSpec.ofChange sceneDiffSmallWrong)

/-- 'grisaillelaw37.SceneDiffApply': WHATEVER THE INPUT: true; the input reads as it did. -/
def sceneDiffApplySpec : ChangeSpec := { name := "sceneDiffApply", fn := fun _ => fun
  | [d1, d2] => { results := [.lit (.bool true)], args := [d1, d2] }
  | _ => none }
def sceneDiffApplyRow : OpenClaim := { program := "ytfmkkemfhjkajaagreatdoor", sum := "5ef532b573d0ee9b1a47fc8a60f6c3198ee49664ee9aa4c310cc765ddf9f4dfa", func := "grisaille/grisaillelaw37.SceneDiffApply", spec := "sceneDiffApply", inPlace := ["internal/reflectlite.ValueOf", "(internal/reflectlite.Value).Type", "(internal/reflectlite.Value).IsNil", "internal/reflectlite.TypeOf", "(internal/reflectlite.Value).Elem", "(internal/reflectlite.Value).Set"], unfollowed := true, recurses := true, named := ["errors.errorType"], apart := false, laid := [("errors.errorType", laid_errors_errorType)] }
def SceneDiffApplySaid : Prop := sceneDiffApplyRow.holds Tryz.pinned (OpenSpec.ofChange sceneDiffApplySpec)

/-- ITS FALSE NEIGHBOUR: 'it returns false'. Refute it at one input. -/
def sceneDiffApplyWrong : ChangeSpec := { name := "sceneDiffApply", fn := fun _ => fun
  | [d1, d2] => { results := [.lit (.bool false)], args := [d1, d2] }
  | _ => none }
def SceneDiffApplyWrongFalsely : Prop := sceneDiffApplyRow.holds Tryz.pinned (OpenSpec.ofChange sceneDiffApplyWrong)

/- THE SECOND FORM. 'bulk': how many values and letters a reading holds, each counted each time it is reached (what is shared counts as often as it is met; a slice's spare places count too). A statement '..UptoSaid' is the law's where the arguments, and the package variables that the reading takes, are together of bulk at most 1048576: NARROWER than '..Said'. Prove '..Said' where nothing that the law and all that it calls make is longer than what came in: it says more and counts as full. Else prove '..UptoSaid'. A law counts once. -/
mutual
def uptoBulk {H : Type} : DataW H → Nat
  | .lit (.string bytes) => bytes.length + 1
  | .lit _ => 1
  | .nil => 1
  | .ptr d => uptoBulk d + 1
  | .slice elems spare => uptoBulkAll elems + uptoBulkAll spare + 1
  | .agg parts => uptoBulkAll parts + 1
  | .iface _ d => uptoBulk d + 1
  | .map entries => uptoBulkEntries entries + 1
  | .held _ => 1
def uptoBulkAll {H : Type} : List (DataW H) → Nat
  | [] => 0
  | d :: r => uptoBulk d + uptoBulkAll r
def uptoBulkEntries {H : Type} : List (Lit × DataW H) → Nat
  | [] => 0
  | x :: r => uptoBulkEntry x + uptoBulkEntries r
def uptoBulkEntry {H : Type} : Lit × DataW H → Nat
  | (.string bytes, d) => bytes.length + uptoBulk d + 1
  | (_, d) => uptoBulk d + 1
 end
def uptoSmall : (H : Type) → List (DataW H) → Bool := fun _ ds => decide (uptoBulkAll ds ≤ 1048576)
def OpenSpec.upto (s : _root_.Go.ChangeSpec) : _root_.Go.OpenSpec := { _root_.Go.OpenSpec.ofChange s with cond := some uptoSmall }

/-- 'grisaillelaw37.SceneApply', WHERE WHAT IT READS IS OF BULK AT MOST 1048576: true; the input reads as it did. -/
def sceneApplyUptoRow : OpenClaim := { program := "ytfmkkemfhjkajaagreatdoor", sum := "5ef532b573d0ee9b1a47fc8a60f6c3198ee49664ee9aa4c310cc765ddf9f4dfa", func := "grisaille/grisaillelaw37.SceneApply", spec := "sceneApply", inPlace := ["internal/reflectlite.ValueOf", "(internal/reflectlite.Value).Type", "(internal/reflectlite.Value).IsNil", "internal/reflectlite.TypeOf", "(internal/reflectlite.Value).Elem", "(internal/reflectlite.Value).Set"], unfollowed := true, recurses := true, named := ["errors.errorType"], apart := false, laid := [("errors.errorType", laid_errors_errorType)], narrowed := true }
def SceneApplyUptoSaid : Prop := sceneApplyUptoRow.holds Tryz.pinned (OpenSpec.upto sceneApplySpec)

/-- 'grisaillelaw37.SceneValidity', WHERE WHAT IT READS IS OF BULK AT MOST 1048576: true; the input reads as it did. -/
def sceneValidityUptoRow : OpenClaim := { program := "ytfmkkemfhjkajaagreatdoor", sum := "5ef532b573d0ee9b1a47fc8a60f6c3198ee49664ee9aa4c310cc765ddf9f4dfa", func := "grisaille/grisaillelaw37.SceneValidity", spec := "sceneValidity", inPlace := ["internal/reflectlite.ValueOf", "(internal/reflectlite.Value).Type", "(internal/reflectlite.Value).IsNil", "internal/reflectlite.TypeOf", "(internal/reflectlite.Value).Elem", "(internal/reflectlite.Value).Set"], unfollowed := true, recurses := true, named := ["errors.errorType"], apart := false, laid := [("errors.errorType", laid_errors_errorType)], narrowed := true }
def SceneValidityUptoSaid : Prop := sceneValidityUptoRow.holds Tryz.pinned (OpenSpec.upto sceneValiditySpec)

/-- 'grisaillelaw37.SceneApplyValid', WHERE WHAT IT READS IS OF BULK AT MOST 1048576: true; the input reads as it did. -/
def sceneApplyValidUptoRow : OpenClaim := { program := "ytfmkkemfhjkajaagreatdoor", sum := "5ef532b573d0ee9b1a47fc8a60f6c3198ee49664ee9aa4c310cc765ddf9f4dfa", func := "grisaille/grisaillelaw37.SceneApplyValid", spec := "sceneApplyValid", inPlace := ["internal/reflectlite.ValueOf", "(internal/reflectlite.Value).Type", "(internal/reflectlite.Value).IsNil", "internal/reflectlite.TypeOf", "(internal/reflectlite.Value).Elem", "(internal/reflectlite.Value).Set"], unfollowed := true, recurses := true, named := ["errors.errorType"], apart := false, laid := [("errors.errorType", laid_errors_errorType)], narrowed := true }
def SceneApplyValidUptoSaid : Prop := sceneApplyValidUptoRow.holds Tryz.pinned (OpenSpec.upto sceneApplyValidSpec)

/-- 'grisaillelaw37.SceneClone', WHERE WHAT IT READS IS OF BULK AT MOST 1048576: true; the input reads as it did. -/
def sceneCloneUptoRow : OpenClaim := { program := "ytfmkkemfhjkajaagreatdoor", sum := "5ef532b573d0ee9b1a47fc8a60f6c3198ee49664ee9aa4c310cc765ddf9f4dfa", func := "grisaille/grisaillelaw37.SceneClone", spec := "sceneClone", inPlace := ["internal/reflectlite.ValueOf", "(internal/reflectlite.Value).Type", "(internal/reflectlite.Value).IsNil", "internal/reflectlite.TypeOf", "(internal/reflectlite.Value).Elem", "(internal/reflectlite.Value).Set"], unfollowed := true, recurses := true, named := ["errors.errorType"], apart := false, laid := [("errors.errorType", laid_errors_errorType)], narrowed := true }
def SceneCloneUptoSaid : Prop := sceneCloneUptoRow.holds Tryz.pinned (OpenSpec.upto sceneCloneSpec)

/-- 'grisaillelaw37.SceneSubtree', WHERE WHAT IT READS IS OF BULK AT MOST 1048576: true; the input reads as it did. -/
def sceneSubtreeUptoRow : OpenClaim := { program := "ytfmkkemfhjkajaagreatdoor", sum := "5ef532b573d0ee9b1a47fc8a60f6c3198ee49664ee9aa4c310cc765ddf9f4dfa", func := "grisaille/grisaillelaw37.SceneSubtree", spec := "sceneSubtree", inPlace := ["internal/reflectlite.ValueOf", "(internal/reflectlite.Value).Type", "(internal/reflectlite.Value).IsNil", "internal/reflectlite.TypeOf", "(internal/reflectlite.Value).Elem", "(internal/reflectlite.Value).Set"], unfollowed := true, recurses := true, named := ["errors.errorType"], apart := false, laid := [("errors.errorType", laid_errors_errorType)], narrowed := true }
def SceneSubtreeUptoSaid : Prop := sceneSubtreeUptoRow.holds Tryz.pinned (OpenSpec.upto sceneSubtreeSpec)

/-- 'grisaillelaw37.SceneApplyAll', WHERE WHAT IT READS IS OF BULK AT MOST 1048576: true; the input reads as it did. -/
def sceneApplyAllUptoRow : OpenClaim := { program := "ytfmkkemfhjkajaagreatdoor", sum := "5ef532b573d0ee9b1a47fc8a60f6c3198ee49664ee9aa4c310cc765ddf9f4dfa", func := "grisaille/grisaillelaw37.SceneApplyAll", spec := "sceneApplyAll", inPlace := ["internal/reflectlite.ValueOf", "(internal/reflectlite.Value).Type", "(internal/reflectlite.Value).IsNil", "internal/reflectlite.TypeOf", "(internal/reflectlite.Value).Elem", "(internal/reflectlite.Value).Set"], unfollowed := true, recurses := true, named := ["errors.errorType"], apart := false, laid := [("errors.errorType", laid_errors_errorType)], narrowed := true }
def SceneApplyAllUptoSaid : Prop := sceneApplyAllUptoRow.holds Tryz.pinned (OpenSpec.upto sceneApplyAllSpec)

/-- 'grisaillelaw37.SceneTreeQueries', WHERE WHAT IT READS IS OF BULK AT MOST 1048576: true; the input reads as it did. -/
def sceneTreeQueriesUptoRow : OpenClaim := { program := "ytfmkkemfhjkajaagreatdoor", sum := "5ef532b573d0ee9b1a47fc8a60f6c3198ee49664ee9aa4c310cc765ddf9f4dfa", func := "grisaille/grisaillelaw37.SceneTreeQueries", spec := "sceneTreeQueries", inPlace := ["internal/reflectlite.ValueOf", "(internal/reflectlite.Value).Type", "(internal/reflectlite.Value).IsNil", "internal/reflectlite.TypeOf", "(internal/reflectlite.Value).Elem", "(internal/reflectlite.Value).Set"], unfollowed := true, recurses := true, named := ["errors.errorType"], apart := false, laid := [("errors.errorType", laid_errors_errorType)], narrowed := true }
def SceneTreeQueriesUptoSaid : Prop := sceneTreeQueriesUptoRow.holds Tryz.pinned (OpenSpec.upto sceneTreeQueriesSpec)

/-- 'grisaillelaw37.SceneTreeInvariants', WHERE WHAT IT READS IS OF BULK AT MOST 1048576: true; the input reads as it did. -/
def sceneTreeInvariantsUptoRow : OpenClaim := { program := "ytfmkkemfhjkajaagreatdoor", sum := "5ef532b573d0ee9b1a47fc8a60f6c3198ee49664ee9aa4c310cc765ddf9f4dfa", func := "grisaille/grisaillelaw37.SceneTreeInvariants", spec := "sceneTreeInvariants", inPlace := ["internal/reflectlite.ValueOf", "(internal/reflectlite.Value).Type", "(internal/reflectlite.Value).IsNil", "internal/reflectlite.TypeOf", "(internal/reflectlite.Value).Elem", "(internal/reflectlite.Value).Set"], unfollowed := true, recurses := true, named := ["errors.errorType"], apart := false, laid := [("errors.errorType", laid_errors_errorType)], narrowed := true }
def SceneTreeInvariantsUptoSaid : Prop := sceneTreeInvariantsUptoRow.holds Tryz.pinned (OpenSpec.upto sceneTreeInvariantsSpec)

/-- 'grisaillelaw37.SceneDiff', WHERE WHAT IT READS IS OF BULK AT MOST 1048576: true; the input reads as it did. -/
def sceneDiffUptoRow : OpenClaim := { program := "ytfmkkemfhjkajaagreatdoor", sum := "5ef532b573d0ee9b1a47fc8a60f6c3198ee49664ee9aa4c310cc765ddf9f4dfa", func := "grisaille/grisaillelaw37.SceneDiff", spec := "sceneDiff", inPlace := ["internal/reflectlite.ValueOf", "(internal/reflectlite.Value).Type", "(internal/reflectlite.Value).IsNil", "internal/reflectlite.TypeOf", "(internal/reflectlite.Value).Elem", "(internal/reflectlite.Value).Set"], unfollowed := true, recurses := true, named := ["errors.errorType"], apart := false, laid := [("errors.errorType", laid_errors_errorType)], narrowed := true }
def SceneDiffUptoSaid : Prop := sceneDiffUptoRow.holds Tryz.pinned (OpenSpec.upto sceneDiffSpec)

/-- 'grisaillelaw37.SceneDiffSmall', WHERE WHAT IT READS IS OF BULK AT MOST 1048576: true; the input reads as it did. -/
def sceneDiffSmallUptoRow : OpenClaim := { program := "ytfmkkemfhjkajaagreatdoor", sum := "5ef532b573d0ee9b1a47fc8a60f6c3198ee49664ee9aa4c310cc765ddf9f4dfa", func := "grisaille/grisaillelaw37.SceneDiffSmall", spec := "sceneDiffSmall", inPlace := ["internal/reflectlite.ValueOf", "(internal/reflectlite.Value).Type", "(internal/reflectlite.Value).IsNil", "internal/reflectlite.TypeOf", "(internal/reflectlite.Value).Elem", "(internal/reflectlite.Value).Set"], unfollowed := true, recurses := true, named := ["errors.errorType"], apart := false, laid := [("errors.errorType", laid_errors_errorType)], narrowed := true }
def SceneDiffSmallUptoSaid : Prop := sceneDiffSmallUptoRow.holds Tryz.pinned (OpenSpec.upto sceneDiffSmallSpec)

/-- 'grisaillelaw37.SceneDiffApply', WHERE WHAT IT READS IS OF BULK AT MOST 1048576: true; the input reads as it did. -/
def sceneDiffApplyUptoRow : OpenClaim := { program := "ytfmkkemfhjkajaagreatdoor", sum := "5ef532b573d0ee9b1a47fc8a60f6c3198ee49664ee9aa4c310cc765ddf9f4dfa", func := "grisaille/grisaillelaw37.SceneDiffApply", spec := "sceneDiffApply", inPlace := ["internal/reflectlite.ValueOf", "(internal/reflectlite.Value).Type", "(internal/reflectlite.Value).IsNil", "internal/reflectlite.TypeOf", "(internal/reflectlite.Value).Elem", "(internal/reflectlite.Value).Set"], unfollowed := true, recurses := true, named := ["errors.errorType"], apart := false, laid := [("errors.errorType", laid_errors_errorType)], narrowed := true }
def SceneDiffApplyUptoSaid : Prop := sceneDiffApplyUptoRow.holds Tryz.pinned (OpenSpec.upto sceneDiffApplySpec)

end Rows
end Go.Proofs.YtfmkkemfhjkajaaGreatDoor
