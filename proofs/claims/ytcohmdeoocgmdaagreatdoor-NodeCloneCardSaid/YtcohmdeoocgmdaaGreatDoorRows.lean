/-
  NARROWER THAN 'FOR EVERY INPUT', by the rows' own cells (each row's printed sentence says how): NodeForeignFields: laid · NodeTransform: laid · NodeCheck: laid · NodeDefault: laid · NodeEqual: laid · NodeClone: laid.
  DERIVED. THE GIVEN ROWS OF THIS SEAT. 6 by the template 'for every input the law returns true; each argument reads behind the call as it read before'; 0 by the template 'total and deterministic' (their statements: YtcohmdeoocgmdaaGreatDoorTotals.lean).
  GIVEN WITH THE SEED: the statements are not yours to turn. If you find one false, say at which input.
  Laid BY PROGRAM, IN A SANDBOX (cutbox-rows.mjs): the forced cells as the released guide's own fill.sh prints them over the translation 83b6a716c685ba8c… (all of the seat's roots in one cut). By AI agents, Wed Nov 11 2026. No macro, syntax, notation, axiom, sorry.
-/
import Derived.Test.YtcohmdeoocgmdaaGreatDoorChecked
import GoSem.Claim
import GoSem.ClaimJoined
import GoSem.ClaimMapViews
import Derived.JoinedTies
import Derived.KernelRfl
namespace Go.Proofs.YtcohmdeoocgmdaaGreatDoor
/- THE CELL 'sum', in the pinned program and in every row, IS THE sha256 OF THE DUMP (.gsa) THAT YtcohmdeoocgmdaaGreatDoorProg.lean LOADS. Nothing in Lean hashes anything: it is a label: what it is worth is what the hold of that sum in a sandbox is worth. -/
noncomputable def Tryz.pinned : Pinned := { name := "ytcohmdeoocgmdaagreatdoor", sum := "83b6a716c685ba8c02120413533918054762597fed2330c49c1c07bbf1e956b5", checked := Tryz.checked }
namespace Rows
def none {H : Type} : Left H := { results := [], args := [] }

/- WHAT THE LISTED PACKAGE-LEVEL VARIABLES READ AS WHEN THE CALL BEGINS. Each datum BY PROGRAM (the guide's laid-datum.mjs) off the statement by which the dump's own 'gosem.cut.vars' lays the variable. In a bare row this is a premise. The card (YtcohmdeoocgmdaaGreatDoorCards.lean) ties it to the program's text. -/
def laid_errors_errorType {H : Type} : DataW H := .iface "internal/reflectlite.rtype" (.agg [.ptr (.lit (.string [101, 114, 114, 111, 114]))])

/-- 'grisaillelaw36.NodeForeignFields': WHATEVER THE INPUT: true; the input reads as it did. -/
def nodeForeignFieldsSpec : ChangeSpec := { name := "nodeForeignFields", fn := fun _ => fun
  | [d1, d2] => { results := [.lit (.bool true)], args := [d1, d2] }
  | _ => none }
def nodeForeignFieldsRow : OpenClaim := { program := "ytcohmdeoocgmdaagreatdoor", sum := "83b6a716c685ba8c02120413533918054762597fed2330c49c1c07bbf1e956b5", func := "grisaille/grisaillelaw36.NodeForeignFields", spec := "nodeForeignFields", inPlace := ["internal/reflectlite.ValueOf", "(internal/reflectlite.Value).Type", "(internal/reflectlite.Value).IsNil", "internal/reflectlite.TypeOf", "(internal/reflectlite.Value).Elem", "(internal/reflectlite.Value).Set"], unfollowed := true, recurses := true, named := ["errors.errorType"], apart := false, laid := [("errors.errorType", laid_errors_errorType)] }
def NodeForeignFieldsSaid : Prop := nodeForeignFieldsRow.holds Tryz.pinned (OpenSpec.ofChange nodeForeignFieldsSpec)

/-- ITS FALSE NEIGHBOUR: 'it returns false'. Refute it at one input. -/
def nodeForeignFieldsWrong : ChangeSpec := { name := "nodeForeignFields", fn := fun _ => fun
  | [d1, d2] => { results := [.lit (.bool false)], args := [d1, d2] }
  | _ => none }
def NodeForeignFieldsWrongFalsely : Prop := nodeForeignFieldsRow.holds Tryz.pinned (OpenSpec.ofChange nodeForeignFieldsWrong)

/-- 'grisaillelaw36.NodeTransform': WHATEVER THE INPUT: true; the input reads as it did. -/
def nodeTransformSpec : ChangeSpec := { name := "nodeTransform", fn := fun _ => fun
  | [d1, d2] => { results := [.lit (.bool true)], args := [d1, d2] }
  | _ => none }
def nodeTransformRow : OpenClaim := { program := "ytcohmdeoocgmdaagreatdoor", sum := "83b6a716c685ba8c02120413533918054762597fed2330c49c1c07bbf1e956b5", func := "grisaille/grisaillelaw36.NodeTransform", spec := "nodeTransform", inPlace := ["internal/reflectlite.ValueOf", "(internal/reflectlite.Value).Type", "(internal/reflectlite.Value).IsNil", "internal/reflectlite.TypeOf", "(internal/reflectlite.Value).Elem", "(internal/reflectlite.Value).Set"], unfollowed := true, recurses := true, named := ["errors.errorType"], apart := false, laid := [("errors.errorType", laid_errors_errorType)] }
def NodeTransformSaid : Prop := nodeTransformRow.holds Tryz.pinned (OpenSpec.ofChange nodeTransformSpec)

/-- ITS FALSE NEIGHBOUR: 'it returns false'. Refute it at one input. -/
def nodeTransformWrong : ChangeSpec := { name := "nodeTransform", fn := fun _ => fun
  | [d1, d2] => { results := [.lit (.bool false)], args := [d1, d2] }
  | _ => none }
def NodeTransformWrongFalsely : Prop := nodeTransformRow.holds Tryz.pinned (OpenSpec.ofChange nodeTransformWrong)

/-- 'grisaillelaw36.NodeCheck': WHATEVER THE INPUT: true; the input reads as it did. -/
def nodeCheckSpec : ChangeSpec := { name := "nodeCheck", fn := fun _ => fun
  | [d] => { results := [.lit (.bool true)], args := [d] }
  | _ => none }
def nodeCheckRow : OpenClaim := { program := "ytcohmdeoocgmdaagreatdoor", sum := "83b6a716c685ba8c02120413533918054762597fed2330c49c1c07bbf1e956b5", func := "grisaille/grisaillelaw36.NodeCheck", spec := "nodeCheck", inPlace := ["internal/reflectlite.ValueOf", "(internal/reflectlite.Value).Type", "(internal/reflectlite.Value).IsNil", "internal/reflectlite.TypeOf", "(internal/reflectlite.Value).Elem", "(internal/reflectlite.Value).Set"], unfollowed := true, recurses := true, named := ["errors.errorType"], apart := false, laid := [("errors.errorType", laid_errors_errorType)] }
def NodeCheckSaid : Prop := nodeCheckRow.holds Tryz.pinned (OpenSpec.ofChange nodeCheckSpec)

/-- ITS FALSE NEIGHBOUR: 'it returns false'. Refute it at one input. -/
def nodeCheckWrong : ChangeSpec := { name := "nodeCheck", fn := fun _ => fun
  | [d] => { results := [.lit (.bool false)], args := [d] }
  | _ => none }
def NodeCheckWrongFalsely : Prop := nodeCheckRow.holds Tryz.pinned (OpenSpec.ofChange nodeCheckWrong)

/-- 'grisaillelaw36.NodeDefault': WHATEVER THE INPUT: true; the input reads as it did. -/
def nodeDefaultSpec : ChangeSpec := { name := "nodeDefault", fn := fun _ => fun
  | [d1, d2] => { results := [.lit (.bool true)], args := [d1, d2] }
  | _ => none }
def nodeDefaultRow : OpenClaim := { program := "ytcohmdeoocgmdaagreatdoor", sum := "83b6a716c685ba8c02120413533918054762597fed2330c49c1c07bbf1e956b5", func := "grisaille/grisaillelaw36.NodeDefault", spec := "nodeDefault", inPlace := ["internal/reflectlite.ValueOf", "(internal/reflectlite.Value).Type", "(internal/reflectlite.Value).IsNil", "internal/reflectlite.TypeOf", "(internal/reflectlite.Value).Elem", "(internal/reflectlite.Value).Set"], unfollowed := true, recurses := true, named := ["errors.errorType"], apart := false, laid := [("errors.errorType", laid_errors_errorType)] }
def NodeDefaultSaid : Prop := nodeDefaultRow.holds Tryz.pinned (OpenSpec.ofChange nodeDefaultSpec)

/-- ITS FALSE NEIGHBOUR: 'it returns false'. Refute it at one input. -/
def nodeDefaultWrong : ChangeSpec := { name := "nodeDefault", fn := fun _ => fun
  | [d1, d2] => { results := [.lit (.bool false)], args := [d1, d2] }
  | _ => none }
def NodeDefaultWrongFalsely : Prop := nodeDefaultRow.holds Tryz.pinned (OpenSpec.ofChange nodeDefaultWrong)

/-- 'grisaillelaw36.NodeEqual': WHATEVER THE INPUT: true; the input reads as it did. -/
def nodeEqualSpec : ChangeSpec := { name := "nodeEqual", fn := fun _ => fun
  | [d1, d2] => { results := [.lit (.bool true)], args := [d1, d2] }
  | _ => none }
def nodeEqualRow : OpenClaim := { program := "ytcohmdeoocgmdaagreatdoor", sum := "83b6a716c685ba8c02120413533918054762597fed2330c49c1c07bbf1e956b5", func := "grisaille/grisaillelaw36.NodeEqual", spec := "nodeEqual", inPlace := ["internal/reflectlite.ValueOf", "(internal/reflectlite.Value).Type", "(internal/reflectlite.Value).IsNil", "internal/reflectlite.TypeOf", "(internal/reflectlite.Value).Elem", "(internal/reflectlite.Value).Set"], unfollowed := true, recurses := true, named := ["errors.errorType"], apart := false, laid := [("errors.errorType", laid_errors_errorType)] }
def NodeEqualSaid : Prop := nodeEqualRow.holds Tryz.pinned (OpenSpec.ofChange nodeEqualSpec)

/-- ITS FALSE NEIGHBOUR: 'it returns false'. Refute it at one input. -/
def nodeEqualWrong : ChangeSpec := { name := "nodeEqual", fn := fun _ => fun
  | [d1, d2] => { results := [.lit (.bool false)], args := [d1, d2] }
  | _ => none }
def NodeEqualWrongFalsely : Prop := nodeEqualRow.holds Tryz.pinned (OpenSpec.ofChange nodeEqualWrong)

/-- 'grisaillelaw36.NodeClone': WHATEVER THE INPUT: true; the input reads as it did. -/
def nodeCloneSpec : ChangeSpec := { name := "nodeClone", fn := fun _ => fun
  | [d] => { results := [.lit (.bool true)], args := [d] }
  | _ => none }
def nodeCloneRow : OpenClaim := { program := "ytcohmdeoocgmdaagreatdoor", sum := "83b6a716c685ba8c02120413533918054762597fed2330c49c1c07bbf1e956b5", func := "grisaille/grisaillelaw36.NodeClone", spec := "nodeClone", inPlace := ["internal/reflectlite.ValueOf", "(internal/reflectlite.Value).Type", "(internal/reflectlite.Value).IsNil", "internal/reflectlite.TypeOf", "(internal/reflectlite.Value).Elem", "(internal/reflectlite.Value).Set"], unfollowed := true, recurses := true, named := ["errors.errorType"], apart := false, laid := [("errors.errorType", laid_errors_errorType)] }
def NodeCloneSaid : Prop := nodeCloneRow.holds Tryz.pinned (OpenSpec.ofChange nodeCloneSpec)

/-- ITS FALSE NEIGHBOUR: 'it returns false'. Refute it at one input. -/
def nodeCloneWrong : ChangeSpec := { name := "nodeClone", fn := fun _ => fun
  | [d] => { results := [.lit (.bool false)], args := [d] }
  | _ => none }
def NodeCloneWrongFalsely : Prop := nodeCloneRow.holds Tryz.pinned (OpenSpec.ofChange nodeCloneWrong)

/- THE SECOND FORM. 'bulk': how many values and letters a reading holds, each counted each time it is reached (what is shared counts as often as it is met; a slice's spare places count too). A statement '..UptoSaid' is the law's where the arguments, and the package variables that the reading takes, are together of bulk at most 1048576: NARROWER than '..Said'. Prove '..Said' where nothing that the law and all that it calls make is longer than what came in: it says more and counts as full. Else prove '..UptoSaid'. A law counts once. -/
mutual
def uptoBulk {H : Type} : DataW H → Nat
  | .lit (.string bytes) => bytes.length + 1
  | .lit _ => 1
  | .nil => 1
  | .ptr d => uptoBulk d + 1
  | .slice elems spare => uptoBulkAll elems + uptoBulkAll spare + 1
  | .agg parts => uptoBulkAll parts + 1
  | .iface _ d => uptoBulk d + 1
  | .map entries => uptoBulkEntries entries + 1
  | .held _ => 1
def uptoBulkAll {H : Type} : List (DataW H) → Nat
  | [] => 0
  | d :: r => uptoBulk d + uptoBulkAll r
def uptoBulkEntries {H : Type} : List (Lit × DataW H) → Nat
  | [] => 0
  | x :: r => uptoBulkEntry x + uptoBulkEntries r
def uptoBulkEntry {H : Type} : Lit × DataW H → Nat
  | (.string bytes, d) => bytes.length + uptoBulk d + 1
  | (_, d) => uptoBulk d + 1
 end
def uptoSmall : (H : Type) → List (DataW H) → Bool := fun _ ds => decide (uptoBulkAll ds ≤ 1048576)
def OpenSpec.upto (s : _root_.Go.ChangeSpec) : _root_.Go.OpenSpec := { _root_.Go.OpenSpec.ofChange s with cond := some uptoSmall }

/-- 'grisaillelaw36.NodeForeignFields', WHERE WHAT IT READS IS OF BULK AT MOST 1048576: true; the input reads as it did. -/
def nodeForeignFieldsUptoRow : OpenClaim := { program := "ytcohmdeoocgmdaagreatdoor", sum := "83b6a716c685ba8c02120413533918054762597fed2330c49c1c07bbf1e956b5", func := "grisaille/grisaillelaw36.NodeForeignFields", spec := "nodeForeignFields", inPlace := ["internal/reflectlite.ValueOf", "(internal/reflectlite.Value).Type", "(internal/reflectlite.Value).IsNil", "internal/reflectlite.TypeOf", "(internal/reflectlite.Value).Elem", "(internal/reflectlite.Value).Set"], unfollowed := true, recurses := true, named := ["errors.errorType"], apart := false, laid := [("errors.errorType", laid_errors_errorType)], narrowed := true }
def NodeForeignFieldsUptoSaid : Prop := nodeForeignFieldsUptoRow.holds Tryz.pinned (OpenSpec.upto nodeForeignFieldsSpec)

/-- 'grisaillelaw36.NodeTransform', WHERE WHAT IT READS IS OF BULK AT MOST 1048576: true; the input reads as it did. -/
def nodeTransformUptoRow : OpenClaim := { program := "ytcohmdeoocgmdaagreatdoor", sum := "83b6a716c685ba8c02120413533918054762597fed2330c49c1c07bbf1e956b5", func := "grisaille/grisaillelaw36.NodeTransform", spec := "nodeTransform", inPlace := ["internal/reflectlite.ValueOf", "(internal/reflectlite.Value).Type", "(internal/reflectlite.Value).IsNil", "internal/reflectlite.TypeOf", "(internal/reflectlite.Value).Elem", "(internal/reflectlite.Value).Set"], unfollowed := true, recurses := true, named := ["errors.errorType"], apart := false, laid := [("errors.errorType", laid_errors_errorType)], narrowed := true }
def NodeTransformUptoSaid : Prop := nodeTransformUptoRow.holds Tryz.pinned (OpenSpec.upto nodeTransformSpec)

/-- 'grisaillelaw36.NodeCheck', WHERE WHAT IT READS IS OF BULK AT MOST 1048576: true; the input reads as it did. -/
def nodeCheckUptoRow : OpenClaim := { program := "ytcohmdeoocgmdaagreatdoor", sum := "83b6a716c685ba8c02120413533918054762597fed2330c49c1c07bbf1e956b5", func := "grisaille/grisaillelaw36.NodeCheck", spec := "nodeCheck", inPlace := ["internal/reflectlite.ValueOf", "(internal/reflectlite.Value).Type", "(internal/reflectlite.Value).IsNil", "internal/reflectlite.TypeOf", "(internal/reflectlite.Value).Elem", "(internal/reflectlite.Value).Set"], unfollowed := true, recurses := true, named := ["errors.errorType"], apart := false, laid := [("errors.errorType", laid_errors_errorType)], narrowed := true }
def NodeCheckUptoSaid : Prop := nodeCheckUptoRow.holds Tryz.pinned (OpenSpec.upto nodeCheckSpec)

/-- 'grisaillelaw36.NodeDefault', WHERE WHAT IT READS IS OF BULK AT MOST 1048576: true; the input reads as it did. -/
def nodeDefaultUptoRow : OpenClaim := { program := "ytcohmdeoocgmdaagreatdoor", sum := "83b6a716c685ba8c02120413533918054762597fed2330c49c1c07bbf1e956b5", func := "grisaille/grisaillelaw36.NodeDefault", spec := "nodeDefault", inPlace := ["internal/reflectlite.ValueOf", "(internal/reflectlite.Value).Type", "(internal/reflectlite.Value).IsNil", "internal/reflectlite.TypeOf", "(internal/reflectlite.Value).Elem", "(internal/reflectlite.Value).Set"], unfollowed := true, recurses := true, named := ["errors.errorType"], apart := false, laid := [("errors.errorType", laid_errors_errorType)], narrowed := true }
def NodeDefaultUptoSaid : Prop := nodeDefaultUptoRow.holds Tryz.pinned (OpenSpec.upto nodeDefaultSpec)

/-- 'grisaillelaw36.NodeEqual', WHERE WHAT IT READS IS OF BULK AT MOST 1048576: true; the input reads as it did. -/
def nodeEqualUptoRow : OpenClaim := { program := "ytcohmdeoocgmdaagreatdoor", sum := "83b6a716c685ba8c02120413533918054762597fed2330c49c1c07bbf1e956b5", func := "grisaille/grisaillelaw36.NodeEqual", spec := "nodeEqual", inPlace := ["internal/reflectlite.ValueOf", "(internal/reflectlite.Value).Type", "(internal/reflectlite.Value).IsNil", "internal/reflectlite.TypeOf", "(internal/reflectlite.Value).Elem", "(internal/reflectlite.Value).Set"], unfollowed := true, recurses := true, named := ["errors.errorType"], apart := false, laid := [("errors.errorType", laid_errors_errorType)], narrowed := true }
def NodeEqualUptoSaid : Prop := nodeEqualUptoRow.holds Tryz.pinned (OpenSpec.upto nodeEqualSpec)

/-- 'grisaillelaw36.NodeClone', WHERE WHAT IT READS IS OF BULK AT MOST 1048576: true; the input reads as it did. -/
def nodeCloneUptoRow : OpenClaim := { program := "ytcohmdeoocgmdaagreatdoor", sum := "83b6a716c685ba8c02120413533918054762597fed2330c49c1c07bbf1e956b5", func := "grisaille/grisaillelaw36.NodeClone", spec := "nodeClone", inPlace := ["internal/reflectlite.ValueOf", "(internal/reflectlite.Value).Type", "(internal/reflectlite.Value).IsNil", "internal/reflectlite.TypeOf", "(internal/reflectlite.Value).Elem", "(internal/reflectlite.Value).Set"], unfollowed := true, recurses := true, named := ["errors.errorType"], apart := false, laid := [("errors.errorType", laid_errors_errorType)], narrowed := true }
def NodeCloneUptoSaid : Prop := nodeCloneUptoRow.holds Tryz.pinned (OpenSpec.upto nodeCloneSpec)

end Rows
end Go.Proofs.YtcohmdeoocgmdaaGreatDoor
