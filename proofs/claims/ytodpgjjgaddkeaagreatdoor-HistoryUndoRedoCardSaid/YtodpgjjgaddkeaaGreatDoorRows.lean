/-
  NARROWER THAN 'FOR EVERY INPUT', by the rows' own cells (each row's printed sentence says how): HistoryNil: laid · HistoryUndoRedo: laid · HistoryIsolation: laid · HistoryLimit: laid · HistoryCompactSaved: laid · HistoryCompactBackground: laid.
  DERIVED. THE GIVEN ROWS OF THIS SEAT. 6 by the template 'for every input the law returns true; each argument reads behind the call as it read before'; 0 by the template 'total and deterministic' (their statements: YtodpgjjgaddkeaaGreatDoorTotals.lean).
  GIVEN WITH THE SEED: the statements are not yours to turn. If you find one false, say at which input.
  Laid BY PROGRAM, IN A SANDBOX (cutbox-rows.mjs): the forced cells as the released guide's own fill.sh prints them over the translation e7a69056751cbbbd… (all of the seat's roots in one cut). By AI agents, Wed Nov 11 2026. No macro, syntax, notation, axiom, sorry.
-/
import Derived.Test.YtodpgjjgaddkeaaGreatDoorChecked
import GoSem.PinnedTables
import GoSem.Claim
import GoSem.ClaimJoined
import GoSem.ClaimMapViews
import Derived.JoinedTies
import Derived.KernelRfl
namespace Go.Proofs.YtodpgjjgaddkeaaGreatDoor
/- THE CELL 'sum', in the pinned program and in every row, IS THE sha256 OF THE DUMP (.gsa) THAT YtodpgjjgaddkeaaGreatDoorProg.lean LOADS. Nothing in Lean hashes anything: it is a label: what it is worth is what the hold of that sum in a sandbox is worth. -/
noncomputable def Tryz.pinned : Pinned := { name := "ytodpgjjgaddkeaagreatdoor", sum := "e7a69056751cbbbd6b4d6e15ef60bd5f6d8f2adb5aff0be5484659edba71b868", checked := Tryz.checked }
namespace Rows
def none {H : Type} : Left H := { results := [], args := [] }

/- WHAT THE LISTED PACKAGE-LEVEL VARIABLES READ AS WHEN THE CALL BEGINS. Each datum BY PROGRAM (the guide's laid-datum.mjs) off the statement by which the dump's own 'gosem.cut.vars' lays the variable. In a bare row this is a premise. The card (YtodpgjjgaddkeaaGreatDoorCards.lean) ties it to the program's text. -/
def laid_unicode_utf8_acceptRanges {H : Type} : DataW H := .agg [.agg [.lit (.int .u8 128), .lit (.int .u8 191)], .agg [.lit (.int .u8 160), .lit (.int .u8 191)], .agg [.lit (.int .u8 128), .lit (.int .u8 159)], .agg [.lit (.int .u8 144), .lit (.int .u8 191)], .agg [.lit (.int .u8 128), .lit (.int .u8 143)], .agg [.lit (.int .u8 0), .lit (.int .u8 0)], .agg [.lit (.int .u8 0), .lit (.int .u8 0)], .agg [.lit (.int .u8 0), .lit (.int .u8 0)], .agg [.lit (.int .u8 0), .lit (.int .u8 0)], .agg [.lit (.int .u8 0), .lit (.int .u8 0)], .agg [.lit (.int .u8 0), .lit (.int .u8 0)], .agg [.lit (.int .u8 0), .lit (.int .u8 0)], .agg [.lit (.int .u8 0), .lit (.int .u8 0)], .agg [.lit (.int .u8 0), .lit (.int .u8 0)], .agg [.lit (.int .u8 0), .lit (.int .u8 0)], .agg [.lit (.int .u8 0), .lit (.int .u8 0)]]
def laid_errors_errorType {H : Type} : DataW H := .iface "internal/reflectlite.rtype" (.agg [.ptr (.lit (.string [101, 114, 114, 111, 114]))])
/-- One of Go's own tables, pinned by name: the form's constant. -/
def laid_unicode_utf8_first : DataW Unit := Go.Pinned.utf8First

/-- 'grisaillelaw50.HistoryNil': WHATEVER THE INPUT: true; the input reads as it did. -/
def historyNilSpec : ChangeSpec := { name := "historyNil", fn := fun _ => fun
  | [d] => { results := [.lit (.bool true)], args := [d] }
  | _ => none }
def historyNilRow : OpenClaim := { program := "ytodpgjjgaddkeaagreatdoor", sum := "e7a69056751cbbbd6b4d6e15ef60bd5f6d8f2adb5aff0be5484659edba71b868", func := "grisaille/grisaillelaw50.HistoryNil", spec := "historyNil", inPlace := ["internal/reflectlite.ValueOf", "(internal/reflectlite.Value).Type", "(internal/reflectlite.Value).IsNil", "internal/reflectlite.TypeOf", "(internal/reflectlite.Value).Elem", "(internal/reflectlite.Value).Set"], unfollowed := true, recurses := true, named := ["errors.errorType", "unicode/utf8.first", "unicode/utf8.acceptRanges"], apart := false, laid := [("unicode/utf8.acceptRanges", laid_unicode_utf8_acceptRanges), ("errors.errorType", laid_errors_errorType), ("unicode/utf8.first", laid_unicode_utf8_first)] }
def HistoryNilSaid : Prop := historyNilRow.holds Tryz.pinned (OpenSpec.ofChange historyNilSpec)

/-- ITS FALSE NEIGHBOUR: 'it returns false'. Refute it at one input. -/
def historyNilWrong : ChangeSpec := { name := "historyNil", fn := fun _ => fun
  | [d] => { results := [.lit (.bool false)], args := [d] }
  | _ => none }
def HistoryNilWrongFalsely : Prop := historyNilRow.holds Tryz.pinned (OpenSpec.ofChange historyNilWrong)

/-- 'grisaillelaw50.HistoryUndoRedo': WHATEVER THE INPUT: true; the input reads as it did. -/
def historyUndoRedoSpec : ChangeSpec := { name := "historyUndoRedo", fn := fun _ => fun
  | [d1, d2] => { results := [.lit (.bool true)], args := [d1, d2] }
  | _ => none }
def historyUndoRedoRow : OpenClaim := { program := "ytodpgjjgaddkeaagreatdoor", sum := "e7a69056751cbbbd6b4d6e15ef60bd5f6d8f2adb5aff0be5484659edba71b868", func := "grisaille/grisaillelaw50.HistoryUndoRedo", spec := "historyUndoRedo", inPlace := ["internal/reflectlite.ValueOf", "(internal/reflectlite.Value).Type", "(internal/reflectlite.Value).IsNil", "internal/reflectlite.TypeOf", "(internal/reflectlite.Value).Elem", "(internal/reflectlite.Value).Set"], unfollowed := true, recurses := true, named := ["errors.errorType", "unicode/utf8.first", "unicode/utf8.acceptRanges"], apart := false, laid := [("unicode/utf8.acceptRanges", laid_unicode_utf8_acceptRanges), ("errors.errorType", laid_errors_errorType), ("unicode/utf8.first", laid_unicode_utf8_first)] }
def HistoryUndoRedoSaid : Prop := historyUndoRedoRow.holds Tryz.pinned (OpenSpec.ofChange historyUndoRedoSpec)

/-- ITS FALSE NEIGHBOUR: 'it returns false'. Refute it at one input. -/
def historyUndoRedoWrong : ChangeSpec := { name := "historyUndoRedo", fn := fun _ => fun
  | [d1, d2] => { results := [.lit (.bool false)], args := [d1, d2] }
  | _ => none }
def HistoryUndoRedoWrongFalsely : Prop := historyUndoRedoRow.holds Tryz.pinned (OpenSpec.ofChange historyUndoRedoWrong)

/-- 'grisaillelaw50.HistoryIsolation': WHATEVER THE INPUT: true; the input reads as it did. -/
def historyIsolationSpec : ChangeSpec := { name := "historyIsolation", fn := fun _ => fun
  | [d1, d2, d3] => { results := [.lit (.bool true)], args := [d1, d2, d3] }
  | _ => none }
def historyIsolationRow : OpenClaim := { program := "ytodpgjjgaddkeaagreatdoor", sum := "e7a69056751cbbbd6b4d6e15ef60bd5f6d8f2adb5aff0be5484659edba71b868", func := "grisaille/grisaillelaw50.HistoryIsolation", spec := "historyIsolation", inPlace := ["internal/reflectlite.ValueOf", "(internal/reflectlite.Value).Type", "(internal/reflectlite.Value).IsNil", "internal/reflectlite.TypeOf", "(internal/reflectlite.Value).Elem", "(internal/reflectlite.Value).Set"], unfollowed := true, recurses := true, named := ["errors.errorType", "unicode/utf8.first", "unicode/utf8.acceptRanges"], apart := false, laid := [("unicode/utf8.acceptRanges", laid_unicode_utf8_acceptRanges), ("errors.errorType", laid_errors_errorType), ("unicode/utf8.first", laid_unicode_utf8_first)] }
def HistoryIsolationSaid : Prop := historyIsolationRow.holds Tryz.pinned (OpenSpec.ofChange historyIsolationSpec)

/-- ITS FALSE NEIGHBOUR: 'it returns false'. Refute it at one input. -/
def historyIsolationWrong : ChangeSpec := { name := "historyIsolation", fn := fun _ => fun
  | [d1, d2, d3] => { results := [.lit (.bool false)], args := [d1, d2, d3] }
  | _ => none }
def HistoryIsolationWrongFalsely : Prop := historyIsolationRow.holds Tryz.pinned (OpenSpec.ofChange historyIsolationWrong)

/-- 'grisaillelaw50.HistoryLimit': WHATEVER THE INPUT: true; the input reads as it did. -/
def historyLimitSpec : ChangeSpec := { name := "historyLimit", fn := fun _ => fun
  | [d] => { results := [.lit (.bool true)], args := [d] }
  | _ => none }
def historyLimitRow : OpenClaim := { program := "ytodpgjjgaddkeaagreatdoor", sum := "e7a69056751cbbbd6b4d6e15ef60bd5f6d8f2adb5aff0be5484659edba71b868", func := "grisaille/grisaillelaw50.HistoryLimit", spec := "historyLimit", inPlace := ["internal/reflectlite.ValueOf", "(internal/reflectlite.Value).Type", "(internal/reflectlite.Value).IsNil", "internal/reflectlite.TypeOf", "(internal/reflectlite.Value).Elem", "(internal/reflectlite.Value).Set"], unfollowed := true, recurses := true, named := ["errors.errorType", "unicode/utf8.first", "unicode/utf8.acceptRanges"], apart := false, laid := [("unicode/utf8.acceptRanges", laid_unicode_utf8_acceptRanges), ("errors.errorType", laid_errors_errorType), ("unicode/utf8.first", laid_unicode_utf8_first)] }
def HistoryLimitSaid : Prop := historyLimitRow.holds Tryz.pinned (OpenSpec.ofChange historyLimitSpec)

/-- ITS FALSE NEIGHBOUR: 'it returns false'. Refute it at one input. -/
def historyLimitWrong : ChangeSpec := { name := "historyLimit", fn := fun _ => fun
  | [d] => { results := [.lit (.bool false)], args := [d] }
  | _ => none }
def HistoryLimitWrongFalsely : Prop := historyLimitRow.holds Tryz.pinned (OpenSpec.ofChange historyLimitWrong)

/-- 'grisaillelaw50.HistoryCompactSaved': WHATEVER THE INPUT: true; the input reads as it did. -/
def historyCompactSavedSpec : ChangeSpec := { name := "historyCompactSaved", fn := fun _ => fun
  | [d1, d2] => { results := [.lit (.bool true)], args := [d1, d2] }
  | _ => none }
def historyCompactSavedRow : OpenClaim := { program := "ytodpgjjgaddkeaagreatdoor", sum := "e7a69056751cbbbd6b4d6e15ef60bd5f6d8f2adb5aff0be5484659edba71b868", func := "grisaille/grisaillelaw50.HistoryCompactSaved", spec := "historyCompactSaved", inPlace := ["internal/reflectlite.ValueOf", "(internal/reflectlite.Value).Type", "(internal/reflectlite.Value).IsNil", "internal/reflectlite.TypeOf", "(internal/reflectlite.Value).Elem", "(internal/reflectlite.Value).Set"], unfollowed := true, recurses := true, named := ["errors.errorType", "unicode/utf8.first", "unicode/utf8.acceptRanges"], apart := false, laid := [("unicode/utf8.acceptRanges", laid_unicode_utf8_acceptRanges), ("errors.errorType", laid_errors_errorType), ("unicode/utf8.first", laid_unicode_utf8_first)] }
def HistoryCompactSavedSaid : Prop := historyCompactSavedRow.holds Tryz.pinned (OpenSpec.ofChange historyCompactSavedSpec)

/-- ITS FALSE NEIGHBOUR: 'it returns false'. Refute it at one input. -/
def historyCompactSavedWrong : ChangeSpec := { name := "historyCompactSaved", fn := fun _ => fun
  | [d1, d2] => { results := [.lit (.bool false)], args := [d1, d2] }
  | _ => none }
def HistoryCompactSavedWrongFalsely : Prop := historyCompactSavedRow.holds Tryz.pinned (OpenSpec.ofChange historyCompactSavedWrong)

/-- 'grisaillelaw50.HistoryCompactBackground': WHATEVER THE INPUT: true; the input reads as it did. -/
def historyCompactBackgroundSpec : ChangeSpec := { name := "historyCompactBackground", fn := fun _ => fun
  | [d1, d2, d3] => { results := [.lit (.bool true)], args := [d1, d2, d3] }
  | _ => none }
def historyCompactBackgroundRow : OpenClaim := { program := "ytodpgjjgaddkeaagreatdoor", sum := "e7a69056751cbbbd6b4d6e15ef60bd5f6d8f2adb5aff0be5484659edba71b868", func := "grisaille/grisaillelaw50.HistoryCompactBackground", spec := "historyCompactBackground", inPlace := ["internal/reflectlite.ValueOf", "(internal/reflectlite.Value).Type", "(internal/reflectlite.Value).IsNil", "internal/reflectlite.TypeOf", "(internal/reflectlite.Value).Elem", "(internal/reflectlite.Value).Set"], unfollowed := true, recurses := true, named := ["errors.errorType", "unicode/utf8.first", "unicode/utf8.acceptRanges"], apart := false, laid := [("unicode/utf8.acceptRanges", laid_unicode_utf8_acceptRanges), ("errors.errorType", laid_errors_errorType), ("unicode/utf8.first", laid_unicode_utf8_first)] }
def HistoryCompactBackgroundSaid : Prop := historyCompactBackgroundRow.holds Tryz.pinned (OpenSpec.ofChange historyCompactBackgroundSpec)

/-- ITS FALSE NEIGHBOUR: 'it returns false'. Refute it at one input. -/
def historyCompactBackgroundWrong : ChangeSpec := { name := "historyCompactBackground", fn := fun _ => fun
  | [d1, d2, d3] => { results := [.lit (.bool false)], args := [d1, d2, d3] }
  | _ => none }
def HistoryCompactBackgroundWrongFalsely : Prop := historyCompactBackgroundRow.holds Tryz.pinned (OpenSpec.ofChange historyCompactBackgroundWrong)

/- THE SECOND FORM. 'bulk': how many values and letters a reading holds, each counted each time it is reached (what is shared counts as often as it is met; a slice's spare places count too). A statement '..UptoSaid' is the law's where the arguments, and the package variables that the reading takes, are together of bulk at most 1048576: NARROWER than '..Said'. Prove '..Said' where nothing that the law and all that it calls make is longer than what came in: it says more and counts as full. Else prove '..UptoSaid'. A law counts once. -/
mutual
def uptoBulk {H : Type} : DataW H → Nat
  | .lit (.string bytes) => bytes.length + 1
  | .lit _ => 1
  | .nil => 1
  | .ptr d => uptoBulk d + 1
  | .slice elems spare => uptoBulkAll elems + uptoBulkAll spare + 1
  | .agg parts => uptoBulkAll parts + 1
  | .iface _ d => uptoBulk d + 1
  | .map entries => uptoBulkEntries entries + 1
  | .held _ => 1
def uptoBulkAll {H : Type} : List (DataW H) → Nat
  | [] => 0
  | d :: r => uptoBulk d + uptoBulkAll r
def uptoBulkEntries {H : Type} : List (Lit × DataW H) → Nat
  | [] => 0
  | x :: r => uptoBulkEntry x + uptoBulkEntries r
def uptoBulkEntry {H : Type} : Lit × DataW H → Nat
  | (.string bytes, d) => bytes.length + uptoBulk d + 1
  | (_, d) => uptoBulk d + 1
 end
def uptoSmall : (H : Type) → List (DataW H) → Bool := fun _ ds => decide (uptoBulkAll ds ≤ 1048576)
def OpenSpec.upto (s : _root_.Go.ChangeSpec) : _root_.Go.OpenSpec := { _root_.Go.OpenSpec.ofChange s with cond := some uptoSmall }

/-- 'grisaillelaw50.HistoryNil', WHERE WHAT IT READS IS OF BULK AT MOST 1048576: true; the input reads as it did. -/
def historyNilUptoRow : OpenClaim := { program := "ytodpgjjgaddkeaagreatdoor", sum := "e7a69056751cbbbd6b4d6e15ef60bd5f6d8f2adb5aff0be5484659edba71b868", func := "grisaille/grisaillelaw50.HistoryNil", spec := "historyNil", inPlace := ["internal/reflectlite.ValueOf", "(internal/reflectlite.Value).Type", "(internal/reflectlite.Value).IsNil", "internal/reflectlite.TypeOf", "(internal/reflectlite.Value).Elem", "(internal/reflectlite.Value).Set"], unfollowed := true, recurses := true, named := ["errors.errorType", "unicode/utf8.first", "unicode/utf8.acceptRanges"], apart := false, laid := [("unicode/utf8.acceptRanges", laid_unicode_utf8_acceptRanges), ("errors.errorType", laid_errors_errorType), ("unicode/utf8.first", laid_unicode_utf8_first)], narrowed := true }
def HistoryNilUptoSaid : Prop := historyNilUptoRow.holds Tryz.pinned (OpenSpec.upto historyNilSpec)

/-- 'grisaillelaw50.HistoryUndoRedo', WHERE WHAT IT READS IS OF BULK AT MOST 1048576: true; the input reads as it did. -/
def historyUndoRedoUptoRow : OpenClaim := { program := "ytodpgjjgaddkeaagreatdoor", sum := "e7a69056751cbbbd6b4d6e15ef60bd5f6d8f2adb5aff0be5484659edba71b868", func := "grisaille/grisaillelaw50.HistoryUndoRedo", spec := "historyUndoRedo", inPlace := ["internal/reflectlite.ValueOf", "(internal/reflectlite.Value).Type", "(internal/reflectlite.Value).IsNil", "internal/reflectlite.TypeOf", "(internal/reflectlite.Value).Elem", "(internal/reflectlite.Value).Set"], unfollowed := true, recurses := true, named := ["errors.errorType", "unicode/utf8.first", "unicode/utf8.acceptRanges"], apart := false, laid := [("unicode/utf8.acceptRanges", laid_unicode_utf8_acceptRanges), ("errors.errorType", laid_errors_errorType), ("unicode/utf8.first", laid_unicode_utf8_first)], narrowed := true }
def HistoryUndoRedoUptoSaid : Prop := historyUndoRedoUptoRow.holds Tryz.pinned (OpenSpec.upto historyUndoRedoSpec)

/-- 'grisaillelaw50.HistoryIsolation', WHERE WHAT IT READS IS OF BULK AT MOST 1048576: true; the input reads as it did. -/
def historyIsolationUptoRow : OpenClaim := { program := "ytodpgjjgaddkeaagreatdoor", sum := "e7a69056751cbbbd6b4d6e15ef60bd5f6d8f2adb5aff0be5484659edba71b868", func := "grisaille/grisaillelaw50.HistoryIsolation", spec := "historyIsolation", inPlace := ["internal/reflectlite.ValueOf", "(internal/reflectlite.Value).Type", "(internal/reflectlite.Value).IsNil", "internal/reflectlite.TypeOf", "(internal/reflectlite.Value).Elem", "(internal/reflectlite.Value).Set"], unfollowed := true, recurses := true, named := ["errors.errorType", "unicode/utf8.first", "unicode/utf8.acceptRanges"], apart := false, laid := [("unicode/utf8.acceptRanges", laid_unicode_utf8_acceptRanges), ("errors.errorType", laid_errors_errorType), ("unicode/utf8.first", laid_unicode_utf8_first)], narrowed := true }
def HistoryIsolationUptoSaid : Prop := historyIsolationUptoRow.holds Tryz.pinned (OpenSpec.upto historyIsolationSpec)

/-- 'grisaillelaw50.HistoryLimit', WHERE WHAT IT READS IS OF BULK AT MOST 1048576: true; the input reads as it did. -/
def historyLimitUptoRow : OpenClaim := { program := "ytodpgjjgaddkeaagreatdoor", sum := "e7a69056751cbbbd6b4d6e15ef60bd5f6d8f2adb5aff0be5484659edba71b868", func := "grisaille/grisaillelaw50.HistoryLimit", spec := "historyLimit", inPlace := ["internal/reflectlite.ValueOf", "(internal/reflectlite.Value).Type", "(internal/reflectlite.Value).IsNil", "internal/reflectlite.TypeOf", "(internal/reflectlite.Value).Elem", "(internal/reflectlite.Value).Set"], unfollowed := true, recurses := true, named := ["errors.errorType", "unicode/utf8.first", "unicode/utf8.acceptRanges"], apart := false, laid := [("unicode/utf8.acceptRanges", laid_unicode_utf8_acceptRanges), ("errors.errorType", laid_errors_errorType), ("unicode/utf8.first", laid_unicode_utf8_first)], narrowed := true }
def HistoryLimitUptoSaid : Prop := historyLimitUptoRow.holds Tryz.pinned (OpenSpec.upto historyLimitSpec)

/-- 'grisaillelaw50.HistoryCompactSaved', WHERE WHAT IT READS IS OF BULK AT MOST 1048576: true; the input reads as it did. -/
def historyCompactSavedUptoRow : OpenClaim := { program := "ytodpgjjgaddkeaagreatdoor", sum := "e7a69056751cbbbd6b4d6e15ef60bd5f6d8f2adb5aff0be5484659edba71b868", func := "grisaille/grisaillelaw50.HistoryCompactSaved", spec := "historyCompactSaved", inPlace := ["internal/reflectlite.ValueOf", "(internal/reflectlite.Value).Type", "(internal/reflectlite.Value).IsNil", "internal/reflectlite.TypeOf", "(internal/reflectlite.Value).Elem", "(internal/reflectlite.Value).Set"], unfollowed := true, recurses := true, named := ["errors.errorType", "unicode/utf8.first", "unicode/utf8.acceptRanges"], apart := false, laid := [("unicode/utf8.acceptRanges", laid_unicode_utf8_acceptRanges), ("errors.errorType", laid_errors_errorType), ("unicode/utf8.first", laid_unicode_utf8_first)], narrowed := true }
def HistoryCompactSavedUptoSaid : Prop := historyCompactSavedUptoRow.holds Tryz.pinned (OpenSpec.upto historyCompactSavedSpec)

/-- 'grisaillelaw50.HistoryCompactBackground', WHERE WHAT IT READS IS OF BULK AT MOST 1048576: true; the input reads as it did. -/
def historyCompactBackgroundUptoRow : OpenClaim := { program := "ytodpgjjgaddkeaagreatdoor", sum := "e7a69056751cbbbd6b4d6e15ef60bd5f6d8f2adb5aff0be5484659edba71b868", func := "grisaille/grisaillelaw50.HistoryCompactBackground", spec := "historyCompactBackground", inPlace := ["internal/reflectlite.ValueOf", "(internal/reflectlite.Value).Type", "(internal/reflectlite.Value).IsNil", "internal/reflectlite.TypeOf", "(internal/reflectlite.Value).Elem", "(internal/reflectlite.Value).Set"], unfollowed := true, recurses := true, named := ["errors.errorType", "unicode/utf8.first", "unicode/utf8.acceptRanges"], apart := false, laid := [("unicode/utf8.acceptRanges", laid_unicode_utf8_acceptRanges), ("errors.errorType", laid_errors_errorType), ("unicode/utf8.first", laid_unicode_utf8_first)], narrowed := true }
def HistoryCompactBackgroundUptoSaid : Prop := historyCompactBackgroundUptoRow.holds Tryz.pinned (OpenSpec.upto historyCompactBackgroundSpec)

end Rows
end Go.Proofs.YtodpgjjgaddkeaaGreatDoor
