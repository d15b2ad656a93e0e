/-
  NARROWER THAN 'FOR EVERY INPUT', by the rows' own cells (each row's printed sentence says how): ScenebinEncode: laid · ScenebinDecode: laid · ScenebinCanonical: laid · ScenebinDamaged: laid · ScenebinRoundTrip: laid · ScenebinInjective: laid.
  DERIVED. THE GIVEN ROWS OF THIS SEAT. 6 by the template 'for every input the law returns true; each argument reads behind the call as it read before'; 0 by the template 'total and deterministic' (their statements: YtapmgonflgahbaaGreatDoorTotals.lean).
  GIVEN WITH THE SEED: the statements are not yours to turn. If you find one false, say at which input.
  Laid BY PROGRAM, IN A SANDBOX (cutbox-rows.mjs): the forced cells as the released guide's own fill.sh prints them over the translation bc8fcb205423b96f… (all of the seat's roots in one cut). By AI agents, Wed Nov 11 2026. No macro, syntax, notation, axiom, sorry.
-/
import Derived.Test.YtapmgonflgahbaaGreatDoorChecked
import GoSem.PinnedTables
import GoSem.Claim
import GoSem.ClaimJoined
import GoSem.ClaimMapViews
import Derived.JoinedTies
import Derived.KernelRfl
namespace Go.Proofs.YtapmgonflgahbaaGreatDoor
/- THE CELL 'sum', in the pinned program and in every row, IS THE sha256 OF THE DUMP (.gsa) THAT YtapmgonflgahbaaGreatDoorProg.lean LOADS. Nothing in Lean hashes anything: it is a label: what it is worth is what the hold of that sum in a sandbox is worth. -/
noncomputable def Tryz.pinned : Pinned := { name := "ytapmgonflgahbaagreatdoor", sum := "bc8fcb205423b96f28952d9ad68731f3b19399763ca9d9633e4b8338b81d2d98", checked := Tryz.checked }
namespace Rows
def none {H : Type} : Left H := { results := [], args := [] }

/- WHAT THE LISTED PACKAGE-LEVEL VARIABLES READ AS WHEN THE CALL BEGINS. Each datum BY PROGRAM (the guide's laid-datum.mjs) off the statement by which the dump's own 'gosem.cut.vars' lays the variable. In a bare row this is a premise. The card (YtapmgonflgahbaaGreatDoorCards.lean) ties it to the program's text. -/
def laid_unicode_utf8_acceptRanges {H : Type} : DataW H := .agg [.agg [.lit (.int .u8 128), .lit (.int .u8 191)], .agg [.lit (.int .u8 160), .lit (.int .u8 191)], .agg [.lit (.int .u8 128), .lit (.int .u8 159)], .agg [.lit (.int .u8 144), .lit (.int .u8 191)], .agg [.lit (.int .u8 128), .lit (.int .u8 143)], .agg [.lit (.int .u8 0), .lit (.int .u8 0)], .agg [.lit (.int .u8 0), .lit (.int .u8 0)], .agg [.lit (.int .u8 0), .lit (.int .u8 0)], .agg [.lit (.int .u8 0), .lit (.int .u8 0)], .agg [.lit (.int .u8 0), .lit (.int .u8 0)], .agg [.lit (.int .u8 0), .lit (.int .u8 0)], .agg [.lit (.int .u8 0), .lit (.int .u8 0)], .agg [.lit (.int .u8 0), .lit (.int .u8 0)], .agg [.lit (.int .u8 0), .lit (.int .u8 0)], .agg [.lit (.int .u8 0), .lit (.int .u8 0)], .agg [.lit (.int .u8 0), .lit (.int .u8 0)]]
def laid_errors_errorType {H : Type} : DataW H := .iface "internal/reflectlite.rtype" (.agg [.ptr (.lit (.string [101, 114, 114, 111, 114]))])
/-- One of Go's own tables, pinned by name: the form's constant. -/
def laid_unicode_utf8_first : DataW Unit := Go.Pinned.utf8First

/-- 'grisaillelaw46.ScenebinEncode': WHATEVER THE INPUT: true; the input reads as it did. -/
def scenebinEncodeSpec : ChangeSpec := { name := "scenebinEncode", fn := fun _ => fun
  | [d1, d2, d3] => { results := [.lit (.bool true)], args := [d1, d2, d3] }
  | _ => none }
def scenebinEncodeRow : OpenClaim := { program := "ytapmgonflgahbaagreatdoor", sum := "bc8fcb205423b96f28952d9ad68731f3b19399763ca9d9633e4b8338b81d2d98", func := "grisaille/grisaillelaw46.ScenebinEncode", spec := "scenebinEncode", inPlace := ["internal/reflectlite.ValueOf", "(internal/reflectlite.Value).Type", "(internal/reflectlite.Value).IsNil", "internal/reflectlite.TypeOf", "(internal/reflectlite.Value).Elem", "(internal/reflectlite.Value).Set"], unfollowed := true, recurses := true, named := ["errors.errorType", "unicode/utf8.first", "unicode/utf8.acceptRanges"], apart := false, laid := [("unicode/utf8.acceptRanges", laid_unicode_utf8_acceptRanges), ("errors.errorType", laid_errors_errorType), ("unicode/utf8.first", laid_unicode_utf8_first)] }
def ScenebinEncodeSaid : Prop := scenebinEncodeRow.holds Tryz.pinned (OpenSpec.ofChange scenebinEncodeSpec)

/-- ITS FALSE NEIGHBOUR: 'it returns false'. Refute it at one input. -/
def scenebinEncodeWrong : ChangeSpec := { name := "scenebinEncode", fn := fun _ => fun
  | [d1, d2, d3] => { results := [.lit (.bool false)], args := [d1, d2, d3] }
  | _ => none }
def ScenebinEncodeWrongFalsely : Prop := scenebinEncodeRow.holds Tryz.pinned (OpenSpec.ofChange scenebinEncodeWrong)

/-- 'grisaillelaw46.ScenebinDecode': WHATEVER THE INPUT: true; the input reads as it did. -/
def scenebinDecodeSpec : ChangeSpec := { name := "scenebinDecode", fn := fun _ => fun
  | [d] => { results := [.lit (.bool true)], args := [d] }
  | _ => none }
def scenebinDecodeRow : OpenClaim := { program := "ytapmgonflgahbaagreatdoor", sum := "bc8fcb205423b96f28952d9ad68731f3b19399763ca9d9633e4b8338b81d2d98", func := "grisaille/grisaillelaw46.ScenebinDecode", spec := "scenebinDecode", inPlace := ["internal/reflectlite.ValueOf", "(internal/reflectlite.Value).Type", "(internal/reflectlite.Value).IsNil", "internal/reflectlite.TypeOf", "(internal/reflectlite.Value).Elem", "(internal/reflectlite.Value).Set"], unfollowed := true, recurses := true, named := ["errors.errorType", "unicode/utf8.first", "unicode/utf8.acceptRanges"], apart := false, laid := [("unicode/utf8.acceptRanges", laid_unicode_utf8_acceptRanges), ("errors.errorType", laid_errors_errorType), ("unicode/utf8.first", laid_unicode_utf8_first)] }
def ScenebinDecodeSaid : Prop := scenebinDecodeRow.holds Tryz.pinned (OpenSpec.ofChange scenebinDecodeSpec)

/-- ITS FALSE NEIGHBOUR: 'it returns false'. Refute it at one input. -/
def scenebinDecodeWrong : ChangeSpec := { name := "scenebinDecode", fn := fun _ => fun
  | [d] => { results := [.lit (.bool false)], args := [d] }
  | _ => none }
def ScenebinDecodeWrongFalsely : Prop := scenebinDecodeRow.holds Tryz.pinned (OpenSpec.ofChange scenebinDecodeWrong)

/-- 'grisaillelaw46.ScenebinCanonical': WHATEVER THE INPUT: true; the input reads as it did. -/
def scenebinCanonicalSpec : ChangeSpec := { name := "scenebinCanonical", fn := fun _ => fun
  | [d] => { results := [.lit (.bool true)], args := [d] }
  | _ => none }
def scenebinCanonicalRow : OpenClaim := { program := "ytapmgonflgahbaagreatdoor", sum := "bc8fcb205423b96f28952d9ad68731f3b19399763ca9d9633e4b8338b81d2d98", func := "grisaille/grisaillelaw46.ScenebinCanonical", spec := "scenebinCanonical", inPlace := ["internal/reflectlite.ValueOf", "(internal/reflectlite.Value).Type", "(internal/reflectlite.Value).IsNil", "internal/reflectlite.TypeOf", "(internal/reflectlite.Value).Elem", "(internal/reflectlite.Value).Set"], unfollowed := true, recurses := true, named := ["errors.errorType", "unicode/utf8.first", "unicode/utf8.acceptRanges"], apart := false, laid := [("unicode/utf8.acceptRanges", laid_unicode_utf8_acceptRanges), ("errors.errorType", laid_errors_errorType), ("unicode/utf8.first", laid_unicode_utf8_first)] }
def ScenebinCanonicalSaid : Prop := scenebinCanonicalRow.holds Tryz.pinned (OpenSpec.ofChange scenebinCanonicalSpec)

/-- ITS FALSE NEIGHBOUR: 'it returns false'. Refute it at one input. -/
def scenebinCanonicalWrong : ChangeSpec := { name := "scenebinCanonical", fn := fun _ => fun
  | [d] => { results := [.lit (.bool false)], args := [d] }
  | _ => none }
def ScenebinCanonicalWrongFalsely : Prop := scenebinCanonicalRow.holds Tryz.pinned (OpenSpec.ofChange scenebinCanonicalWrong)

/-- 'grisaillelaw46.ScenebinDamaged': WHATEVER THE INPUT: true; the input reads as it did. -/
def scenebinDamagedSpec : ChangeSpec := { name := "scenebinDamaged", fn := fun _ => fun
  | [d1, d2, d3, d4] => { results := [.lit (.bool true)], args := [d1, d2, d3, d4] }
  | _ => none }
def scenebinDamagedRow : OpenClaim := { program := "ytapmgonflgahbaagreatdoor", sum := "bc8fcb205423b96f28952d9ad68731f3b19399763ca9d9633e4b8338b81d2d98", func := "grisaille/grisaillelaw46.ScenebinDamaged", spec := "scenebinDamaged", inPlace := ["internal/reflectlite.ValueOf", "(internal/reflectlite.Value).Type", "(internal/reflectlite.Value).IsNil", "internal/reflectlite.TypeOf", "(internal/reflectlite.Value).Elem", "(internal/reflectlite.Value).Set"], unfollowed := true, recurses := true, named := ["errors.errorType", "unicode/utf8.first", "unicode/utf8.acceptRanges"], apart := false, laid := [("unicode/utf8.acceptRanges", laid_unicode_utf8_acceptRanges), ("errors.errorType", laid_errors_errorType), ("unicode/utf8.first", laid_unicode_utf8_first)] }
def ScenebinDamagedSaid : Prop := scenebinDamagedRow.holds Tryz.pinned (OpenSpec.ofChange scenebinDamagedSpec)

/-- ITS FALSE NEIGHBOUR: 'it returns false'. Refute it at one input. -/
def scenebinDamagedWrong : ChangeSpec := { name := "scenebinDamaged", fn := fun _ => fun
  | [d1, d2, d3, d4] => { results := [.lit (.bool false)], args := [d1, d2, d3, d4] }
  | _ => none }
def ScenebinDamagedWrongFalsely : Prop := scenebinDamagedRow.holds Tryz.pinned (OpenSpec.ofChange scenebinDamagedWrong)

/-- 'grisaillelaw46.ScenebinRoundTrip': WHATEVER THE INPUT: true; the input reads as it did. -/
def scenebinRoundTripSpec : ChangeSpec := { name := "scenebinRoundTrip", fn := fun _ => fun
  | [d1, d2] => { results := [.lit (.bool true)], args := [d1, d2] }
  | _ => none }
def scenebinRoundTripRow : OpenClaim := { program := "ytapmgonflgahbaagreatdoor", sum := "bc8fcb205423b96f28952d9ad68731f3b19399763ca9d9633e4b8338b81d2d98", func := "grisaille/grisaillelaw46.ScenebinRoundTrip", spec := "scenebinRoundTrip", inPlace := ["internal/reflectlite.ValueOf", "(internal/reflectlite.Value).Type", "(internal/reflectlite.Value).IsNil", "internal/reflectlite.TypeOf", "(internal/reflectlite.Value).Elem", "(internal/reflectlite.Value).Set"], unfollowed := true, recurses := true, named := ["errors.errorType", "unicode/utf8.first", "unicode/utf8.acceptRanges"], apart := false, laid := [("unicode/utf8.acceptRanges", laid_unicode_utf8_acceptRanges), ("errors.errorType", laid_errors_errorType), ("unicode/utf8.first", laid_unicode_utf8_first)] }
def ScenebinRoundTripSaid : Prop := scenebinRoundTripRow.holds Tryz.pinned (OpenSpec.ofChange scenebinRoundTripSpec)

/-- ITS FALSE NEIGHBOUR: 'it returns false'. Refute it at one input. -/
def scenebinRoundTripWrong : ChangeSpec := { name := "scenebinRoundTrip", fn := fun _ => fun
  | [d1, d2] => { results := [.lit (.bool false)], args := [d1, d2] }
  | _ => none }
def ScenebinRoundTripWrongFalsely : Prop := scenebinRoundTripRow.holds Tryz.pinned (OpenSpec.ofChange scenebinRoundTripWrong)

/-- 'grisaillelaw46.ScenebinInjective': WHATEVER THE INPUT: true; the input reads as it did. -/
def scenebinInjectiveSpec : ChangeSpec := { name := "scenebinInjective", fn := fun _ => fun
  | [d1, d2, d3, d4] => { results := [.lit (.bool true)], args := [d1, d2, d3, d4] }
  | _ => none }
def scenebinInjectiveRow : OpenClaim := { program := "ytapmgonflgahbaagreatdoor", sum := "bc8fcb205423b96f28952d9ad68731f3b19399763ca9d9633e4b8338b81d2d98", func := "grisaille/grisaillelaw46.ScenebinInjective", spec := "scenebinInjective", inPlace := ["internal/reflectlite.ValueOf", "(internal/reflectlite.Value).Type", "(internal/reflectlite.Value).IsNil", "internal/reflectlite.TypeOf", "(internal/reflectlite.Value).Elem", "(internal/reflectlite.Value).Set"], unfollowed := true, recurses := true, named := ["errors.errorType", "unicode/utf8.first", "unicode/utf8.acceptRanges"], apart := false, laid := [("unicode/utf8.acceptRanges", laid_unicode_utf8_acceptRanges), ("errors.errorType", laid_errors_errorType), ("unicode/utf8.first", laid_unicode_utf8_first)] }
def ScenebinInjectiveSaid : Prop := scenebinInjectiveRow.holds Tryz.pinned (OpenSpec.ofChange scenebinInjectiveSpec)

/-- ITS FALSE NEIGHBOUR: 'it returns false'. Refute it at one input. -/
def scenebinInjectiveWrong : ChangeSpec := { name := "scenebinInjective", fn := fun _ => fun
  | [d1, d2, d3, d4] => { results := [.lit (.bool false)], args := [d1, d2, d3, d4] }
  | _ => none }
def ScenebinInjectiveWrongFalsely : Prop := scenebinInjectiveRow.holds Tryz.pinned (OpenSpec.ofChange scenebinInjectiveWrong)

/- THE SECOND FORM. 'bulk': how many values and letters a reading holds, each counted each time it is reached (what is shared counts as often as it is met; a slice's spare places count too). A statement '..UptoSaid' is the law's where the arguments, and the package variables that the reading takes, are together of bulk at most 1048576: NARROWER than '..Said'. Prove '..Said' where nothing that the law and all that it calls make is longer than what came in: it says more and counts as full. Else prove '..UptoSaid'. A law counts once. -/
mutual
def uptoBulk {H : Type} : DataW H → Nat
  | .lit (.string bytes) => bytes.length + 1
  | .lit _ => 1
  | .nil => 1
  | .ptr d => uptoBulk d + 1
  | .slice elems spare => uptoBulkAll elems + uptoBulkAll spare + 1
  | .agg parts => uptoBulkAll parts + 1
  | .iface _ d => uptoBulk d + 1
  | .map entries => uptoBulkEntries entries + 1
  | .held _ => 1
def uptoBulkAll {H : Type} : List (DataW H) → Nat
  | [] => 0
  | d :: r => uptoBulk d + uptoBulkAll r
def uptoBulkEntries {H : Type} : List (Lit × DataW H) → Nat
  | [] => 0
  | x :: r => uptoBulkEntry x + uptoBulkEntries r
def uptoBulkEntry {H : Type} : Lit × DataW H → Nat
  | (.string bytes, d) => bytes.length + uptoBulk d + 1
  | (_, d) => uptoBulk d + 1
 end
def uptoSmall : (H : Type) → List (DataW H) → Bool := fun _ ds => decide (uptoBulkAll ds ≤ 1048576)
def OpenSpec.upto (s : _root_.Go.ChangeSpec) : _root_.Go.OpenSpec := { _root_.Go.OpenSpec.ofChange s with cond := some uptoSmall }

/-- 'grisaillelaw46.ScenebinEncode', WHERE WHAT IT READS IS OF BULK AT MOST 1048576: true; the input reads as it did. -/
def scenebinEncodeUptoRow : OpenClaim := { program := "ytapmgonflgahbaagreatdoor", sum := "bc8fcb205423b96f28952d9ad68731f3b19399763ca9d9633e4b8338b81d2d98", func := "grisaille/grisaillelaw46.ScenebinEncode", spec := "scenebinEncode", inPlace := ["internal/reflectlite.ValueOf", "(internal/reflectlite.Value).Type", "(internal/reflectlite.Value).IsNil", "internal/reflectlite.TypeOf", "(internal/reflectlite.Value).Elem", "(internal/reflectlite.Value).Set"], unfollowed := true, recurses := true, named := ["errors.errorType", "unicode/utf8.first", "unicode/utf8.acceptRanges"], apart := false, laid := [("unicode/utf8.acceptRanges", laid_unicode_utf8_acceptRanges), ("errors.errorType", laid_errors_errorType), ("unicode/utf8.first", laid_unicode_utf8_first)], narrowed := true }
def ScenebinEncodeUptoSaid : Prop := scenebinEncodeUptoRow.holds Tryz.pinned (OpenSpec.upto scenebinEncodeSpec)

/-- 'grisaillelaw46.ScenebinDecode', WHERE WHAT IT READS IS OF BULK AT MOST 1048576: true; the input reads as it did. -/
def scenebinDecodeUptoRow : OpenClaim := { program := "ytapmgonflgahbaagreatdoor", sum := "bc8fcb205423b96f28952d9ad68731f3b19399763ca9d9633e4b8338b81d2d98", func := "grisaille/grisaillelaw46.ScenebinDecode", spec := "scenebinDecode", inPlace := ["internal/reflectlite.ValueOf", "(internal/reflectlite.Value).Type", "(internal/reflectlite.Value).IsNil", "internal/reflectlite.TypeOf", "(internal/reflectlite.Value).Elem", "(internal/reflectlite.Value).Set"], unfollowed := true, recurses := true, named := ["errors.errorType", "unicode/utf8.first", "unicode/utf8.acceptRanges"], apart := false, laid := [("unicode/utf8.acceptRanges", laid_unicode_utf8_acceptRanges), ("errors.errorType", laid_errors_errorType), ("unicode/utf8.first", laid_unicode_utf8_first)], narrowed := true }
def ScenebinDecodeUptoSaid : Prop := scenebinDecodeUptoRow.holds Tryz.pinned (OpenSpec.upto scenebinDecodeSpec)

/-- 'grisaillelaw46.ScenebinCanonical', WHERE WHAT IT READS IS OF BULK AT MOST 1048576: true; the input reads as it did. -/
def scenebinCanonicalUptoRow : OpenClaim := { program := "ytapmgonflgahbaagreatdoor", sum := "bc8fcb205423b96f28952d9ad68731f3b19399763ca9d9633e4b8338b81d2d98", func := "grisaille/grisaillelaw46.ScenebinCanonical", spec := "scenebinCanonical", inPlace := ["internal/reflectlite.ValueOf", "(internal/reflectlite.Value).Type", "(internal/reflectlite.Value).IsNil", "internal/reflectlite.TypeOf", "(internal/reflectlite.Value).Elem", "(internal/reflectlite.Value).Set"], unfollowed := true, recurses := true, named := ["errors.errorType", "unicode/utf8.first", "unicode/utf8.acceptRanges"], apart := false, laid := [("unicode/utf8.acceptRanges", laid_unicode_utf8_acceptRanges), ("errors.errorType", laid_errors_errorType), ("unicode/utf8.first", laid_unicode_utf8_first)], narrowed := true }
def ScenebinCanonicalUptoSaid : Prop := scenebinCanonicalUptoRow.holds Tryz.pinned (OpenSpec.upto scenebinCanonicalSpec)

/-- 'grisaillelaw46.ScenebinDamaged', WHERE WHAT IT READS IS OF BULK AT MOST 1048576: true; the input reads as it did. -/
def scenebinDamagedUptoRow : OpenClaim := { program := "ytapmgonflgahbaagreatdoor", sum := "bc8fcb205423b96f28952d9ad68731f3b19399763ca9d9633e4b8338b81d2d98", func := "grisaille/grisaillelaw46.ScenebinDamaged", spec := "scenebinDamaged", inPlace := ["internal/reflectlite.ValueOf", "(internal/reflectlite.Value).Type", "(internal/reflectlite.Value).IsNil", "internal/reflectlite.TypeOf", "(internal/reflectlite.Value).Elem", "(internal/reflectlite.Value).Set"], unfollowed := true, recurses := true, named := ["errors.errorType", "unicode/utf8.first", "unicode/utf8.acceptRanges"], apart := false, laid := [("unicode/utf8.acceptRanges", laid_unicode_utf8_acceptRanges), ("errors.errorType", laid_errors_errorType), ("unicode/utf8.first", laid_unicode_utf8_first)], narrowed := true }
def ScenebinDamagedUptoSaid : Prop := scenebinDamagedUptoRow.holds Tryz.pinned (OpenSpec.upto scenebinDamagedSpec)

/-- 'grisaillelaw46.ScenebinRoundTrip', WHERE WHAT IT READS IS OF BULK AT MOST 1048576: true; the input reads as it did. -/
def scenebinRoundTripUptoRow : OpenClaim := { program := "ytapmgonflgahbaagreatdoor", sum := "bc8fcb205423b96f28952d9ad68731f3b19399763ca9d9633e4b8338b81d2d98", func := "grisaille/grisaillelaw46.ScenebinRoundTrip", spec := "scenebinRoundTrip", inPlace := ["internal/reflectlite.ValueOf", "(internal/reflectlite.Value).Type", "(internal/reflectlite.Value).IsNil", "internal/reflectlite.TypeOf", "(internal/reflectlite.Value).Elem", "(internal/reflectlite.Value).Set"], unfollowed := true, recurses := true, named := ["errors.errorType", "unicode/utf8.first", "unicode/utf8.acceptRanges"], apart := false, laid := [("unicode/utf8.acceptRanges", laid_unicode_utf8_acceptRanges), ("errors.errorType", laid_errors_errorType), ("unicode/utf8.first", laid_unicode_utf8_first)], narrowed := true }
def ScenebinRoundTripUptoSaid : Prop := scenebinRoundTripUptoRow.holds Tryz.pinned (OpenSpec.upto scenebinRoundTripSpec)

/-- 'grisaillelaw46.ScenebinInjective', WHERE WHAT IT READS IS OF BULK AT MOST 1048576: true; the input reads as it did. -/
def scenebinInjectiveUptoRow : OpenClaim := { program := "ytapmgonflgahbaagreatdoor", sum := "bc8fcb205423b96f28952d9ad68731f3b19399763ca9d9633e4b8338b81d2d98", func := "grisaille/grisaillelaw46.ScenebinInjective", spec := "scenebinInjective", inPlace := ["internal/reflectlite.ValueOf", "(internal/reflectlite.Value).Type", "(internal/reflectlite.Value).IsNil", "internal/reflectlite.TypeOf", "(internal/reflectlite.Value).Elem", "(internal/reflectlite.Value).Set"], unfollowed := true, recurses := true, named := ["errors.errorType", "unicode/utf8.first", "unicode/utf8.acceptRanges"], apart := false, laid := [("unicode/utf8.acceptRanges", laid_unicode_utf8_acceptRanges), ("errors.errorType", laid_errors_errorType), ("unicode/utf8.first", laid_unicode_utf8_first)], narrowed := true }
def ScenebinInjectiveUptoSaid : Prop := scenebinInjectiveUptoRow.holds Tryz.pinned (OpenSpec.upto scenebinInjectiveSpec)

end Rows
end Go.Proofs.YtapmgonflgahbaaGreatDoor
