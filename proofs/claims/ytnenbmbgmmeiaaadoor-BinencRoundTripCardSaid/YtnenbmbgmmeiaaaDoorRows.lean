/-
  NARROWER THAN 'FOR EVERY INPUT', by the rows' own cells (each row's printed sentence says how): BinencUvarint: laid · BinencVarint: laid · BinencBytes: laid · BinencInts: laid · BinencRational: laid · BinencRoundTrip: laid · BinencCanonical: laid · BinencRuns: laid · BinencSequences: laid · BinencSequencesCanonical: laid.
  DERIVED. THE GIVEN ROWS OF THIS SEAT. 10 by the template 'for every input the law returns true; each argument reads behind the call as it read before'; 0 by the template 'total and deterministic' (their statements: YtnenbmbgmmeiaaaDoorTotals.lean).
  GIVEN WITH THE SEED: the statements are not yours to turn. If you find one false, say at which input.
  Laid BY PROGRAM, IN A SANDBOX (cutbox-rows.mjs): the forced cells as the released guide's own fill.sh prints them over the translation 895cf43ce2e61a44… (all of the seat's roots in one cut). By AI agents, Wed Nov 11 2026. No macro, syntax, notation, axiom, sorry.
-/
import Derived.Test.YtnenbmbgmmeiaaaDoorChecked
import GoSem.PinnedTables
import GoSem.Claim
import GoSem.ClaimJoined
import GoSem.ClaimMapViews
import Derived.JoinedTies
import Derived.KernelRfl
namespace Go.Proofs.YtnenbmbgmmeiaaaDoor
/- THE CELL 'sum', in the pinned program and in every row, IS THE sha256 OF THE DUMP (.gsa) THAT YtnenbmbgmmeiaaaDoorProg.lean LOADS. Nothing in Lean hashes anything: it is a label: what it is worth is what the hold of that sum in a sandbox is worth. -/
noncomputable def Tryd.pinned : Pinned := { name := "ytnenbmbgmmeiaaadoor", sum := "895cf43ce2e61a444c7ba926b685bef2e3bfe982eff4a831cd285265f84b96df", checked := Tryd.checked }
namespace Rows
def none {H : Type} : Left H := { results := [], args := [] }

/- WHAT THE LISTED PACKAGE-LEVEL VARIABLES READ AS WHEN THE CALL BEGINS. Each datum BY PROGRAM (the guide's laid-datum.mjs) off the statement by which the dump's own 'gosem.cut.vars' lays the variable. In a bare row this is a premise. The card (YtnenbmbgmmeiaaaDoorCards.lean) ties it to the program's text. -/
def laid_unicode_utf8_acceptRanges {H : Type} : DataW H := .agg [.agg [.lit (.int .u8 128), .lit (.int .u8 191)], .agg [.lit (.int .u8 160), .lit (.int .u8 191)], .agg [.lit (.int .u8 128), .lit (.int .u8 159)], .agg [.lit (.int .u8 144), .lit (.int .u8 191)], .agg [.lit (.int .u8 128), .lit (.int .u8 143)], .agg [.lit (.int .u8 0), .lit (.int .u8 0)], .agg [.lit (.int .u8 0), .lit (.int .u8 0)], .agg [.lit (.int .u8 0), .lit (.int .u8 0)], .agg [.lit (.int .u8 0), .lit (.int .u8 0)], .agg [.lit (.int .u8 0), .lit (.int .u8 0)], .agg [.lit (.int .u8 0), .lit (.int .u8 0)], .agg [.lit (.int .u8 0), .lit (.int .u8 0)], .agg [.lit (.int .u8 0), .lit (.int .u8 0)], .agg [.lit (.int .u8 0), .lit (.int .u8 0)], .agg [.lit (.int .u8 0), .lit (.int .u8 0)], .agg [.lit (.int .u8 0), .lit (.int .u8 0)]]
/-- One of Go's own tables, pinned by name: the form's constant. -/
def laid_unicode_utf8_first : DataW Unit := Go.Pinned.utf8First

/-- 'grisaillelaw06.BinencUvarint': WHATEVER THE INPUT: true; the input reads as it did. -/
def binencUvarintSpec : ChangeSpec := { name := "binencUvarint", fn := fun _ => fun
  | [d1, d2, d3] => { results := [.lit (.bool true)], args := [d1, d2, d3] }
  | _ => none }
def binencUvarintRow : OpenClaim := { program := "ytnenbmbgmmeiaaadoor", sum := "895cf43ce2e61a444c7ba926b685bef2e3bfe982eff4a831cd285265f84b96df", func := "grisaille/grisaillelaw06.BinencUvarint", spec := "binencUvarint", unfollowed := true, recurses := true, named := ["unicode/utf8.first", "unicode/utf8.acceptRanges"], apart := false, laid := [("unicode/utf8.acceptRanges", laid_unicode_utf8_acceptRanges), ("unicode/utf8.first", laid_unicode_utf8_first)] }
def BinencUvarintSaid : Prop := binencUvarintRow.holds Tryd.pinned (OpenSpec.ofChange binencUvarintSpec)

/-- ITS FALSE NEIGHBOUR: 'it returns false'. Refute it at one input. -/
def binencUvarintWrong : ChangeSpec := { name := "binencUvarint", fn := fun _ => fun
  | [d1, d2, d3] => { results := [.lit (.bool false)], args := [d1, d2, d3] }
  | _ => none }
def BinencUvarintWrongFalsely : Prop := binencUvarintRow.holds Tryd.pinned (OpenSpec.ofChange binencUvarintWrong)

/-- 'grisaillelaw06.BinencVarint': WHATEVER THE INPUT: true; the input reads as it did. -/
def binencVarintSpec : ChangeSpec := { name := "binencVarint", fn := fun _ => fun
  | [d1, d2, d3] => { results := [.lit (.bool true)], args := [d1, d2, d3] }
  | _ => none }
def binencVarintRow : OpenClaim := { program := "ytnenbmbgmmeiaaadoor", sum := "895cf43ce2e61a444c7ba926b685bef2e3bfe982eff4a831cd285265f84b96df", func := "grisaille/grisaillelaw06.BinencVarint", spec := "binencVarint", unfollowed := true, recurses := true, named := ["unicode/utf8.first", "unicode/utf8.acceptRanges"], apart := false, laid := [("unicode/utf8.acceptRanges", laid_unicode_utf8_acceptRanges), ("unicode/utf8.first", laid_unicode_utf8_first)] }
def BinencVarintSaid : Prop := binencVarintRow.holds Tryd.pinned (OpenSpec.ofChange binencVarintSpec)

/-- ITS FALSE NEIGHBOUR: 'it returns false'. Refute it at one input. -/
def binencVarintWrong : ChangeSpec := { name := "binencVarint", fn := fun _ => fun
  | [d1, d2, d3] => { results := [.lit (.bool false)], args := [d1, d2, d3] }
  | _ => none }
def BinencVarintWrongFalsely : Prop := binencVarintRow.holds Tryd.pinned (OpenSpec.ofChange binencVarintWrong)

/-- 'grisaillelaw06.BinencBytes': WHATEVER THE INPUT: true; the input reads as it did. -/
def binencBytesSpec : ChangeSpec := { name := "binencBytes", fn := fun _ => fun
  | [d1, d2, d3] => { results := [.lit (.bool true)], args := [d1, d2, d3] }
  | _ => none }
def binencBytesRow : OpenClaim := { program := "ytnenbmbgmmeiaaadoor", sum := "895cf43ce2e61a444c7ba926b685bef2e3bfe982eff4a831cd285265f84b96df", func := "grisaille/grisaillelaw06.BinencBytes", spec := "binencBytes", unfollowed := true, recurses := true, named := ["unicode/utf8.first", "unicode/utf8.acceptRanges"], apart := false, laid := [("unicode/utf8.acceptRanges", laid_unicode_utf8_acceptRanges), ("unicode/utf8.first", laid_unicode_utf8_first)] }
def BinencBytesSaid : Prop := binencBytesRow.holds Tryd.pinned (OpenSpec.ofChange binencBytesSpec)

/-- ITS FALSE NEIGHBOUR: 'it returns false'. Refute it at one input. -/
def binencBytesWrong : ChangeSpec := { name := "binencBytes", fn := fun _ => fun
  | [d1, d2, d3] => { results := [.lit (.bool false)], args := [d1, d2, d3] }
  | _ => none }
def BinencBytesWrongFalsely : Prop := binencBytesRow.holds Tryd.pinned (OpenSpec.ofChange binencBytesWrong)

/-- 'grisaillelaw06.BinencInts': WHATEVER THE INPUT: true; the input reads as it did. -/
def binencIntsSpec : ChangeSpec := { name := "binencInts", fn := fun _ => fun
  | [d1, d2, d3] => { results := [.lit (.bool true)], args := [d1, d2, d3] }
  | _ => none }
def binencIntsRow : OpenClaim := { program := "ytnenbmbgmmeiaaadoor", sum := "895cf43ce2e61a444c7ba926b685bef2e3bfe982eff4a831cd285265f84b96df", func := "grisaille/grisaillelaw06.BinencInts", spec := "binencInts", unfollowed := true, recurses := true, named := ["unicode/utf8.first", "unicode/utf8.acceptRanges"], apart := false, laid := [("unicode/utf8.acceptRanges", laid_unicode_utf8_acceptRanges), ("unicode/utf8.first", laid_unicode_utf8_first)] }
def BinencIntsSaid : Prop := binencIntsRow.holds Tryd.pinned (OpenSpec.ofChange binencIntsSpec)

/-- ITS FALSE NEIGHBOUR: 'it returns false'. Refute it at one input. -/
def binencIntsWrong : ChangeSpec := { name := "binencInts", fn := fun _ => fun
  | [d1, d2, d3] => { results := [.lit (.bool false)], args := [d1, d2, d3] }
  | _ => none }
def BinencIntsWrongFalsely : Prop := binencIntsRow.holds Tryd.pinned (OpenSpec.ofChange binencIntsWrong)

/-- 'grisaillelaw06.BinencRational': WHATEVER THE INPUT: true; the input reads as it did. -/
def binencRationalSpec : ChangeSpec := { name := "binencRational", fn := fun _ => fun
  | [d1, d2, d3] => { results := [.lit (.bool true)], args := [d1, d2, d3] }
  | _ => none }
def binencRationalRow : OpenClaim := { program := "ytnenbmbgmmeiaaadoor", sum := "895cf43ce2e61a444c7ba926b685bef2e3bfe982eff4a831cd285265f84b96df", func := "grisaille/grisaillelaw06.BinencRational", spec := "binencRational", unfollowed := true, recurses := true, named := ["unicode/utf8.first", "unicode/utf8.acceptRanges"], apart := false, laid := [("unicode/utf8.acceptRanges", laid_unicode_utf8_acceptRanges), ("unicode/utf8.first", laid_unicode_utf8_first)] }
def BinencRationalSaid : Prop := binencRationalRow.holds Tryd.pinned (OpenSpec.ofChange binencRationalSpec)

/-- ITS FALSE NEIGHBOUR: 'it returns false'. Refute it at one input. -/
def binencRationalWrong : ChangeSpec := { name := "binencRational", fn := fun _ => fun
  | [d1, d2, d3] => { results := [.lit (.bool false)], args := [d1, d2, d3] }
  | _ => none }
def BinencRationalWrongFalsely : Prop := binencRationalRow.holds Tryd.pinned (OpenSpec.ofChange binencRationalWrong)

/-- 'grisaillelaw06.BinencRoundTrip': WHATEVER THE INPUT: true; the input reads as it did. -/
def binencRoundTripSpec : ChangeSpec := { name := "binencRoundTrip", fn := fun _ => fun
  | [d1, d2, d3] => { results := [.lit (.bool true)], args := [d1, d2, d3] }
  | _ => none }
def binencRoundTripRow : OpenClaim := { program := "ytnenbmbgmmeiaaadoor", sum := "895cf43ce2e61a444c7ba926b685bef2e3bfe982eff4a831cd285265f84b96df", func := "grisaille/grisaillelaw06.BinencRoundTrip", spec := "binencRoundTrip", unfollowed := true, recurses := true, named := ["unicode/utf8.first", "unicode/utf8.acceptRanges"], apart := false, laid := [("unicode/utf8.acceptRanges", laid_unicode_utf8_acceptRanges), ("unicode/utf8.first", laid_unicode_utf8_first)] }
def BinencRoundTripSaid : Prop := binencRoundTripRow.holds Tryd.pinned (OpenSpec.ofChange binencRoundTripSpec)

/-- ITS FALSE NEIGHBOUR: 'it returns false'. Refute it at one input. -/
def binencRoundTripWrong : ChangeSpec := { name := "binencRoundTrip", fn := fun _ => fun
  | [d1, d2, d3] => { results := [.lit (.bool false)], args := [d1, d2, d3] }
  | _ => none }
def BinencRoundTripWrongFalsely : Prop := binencRoundTripRow.holds Tryd.pinned (OpenSpec.ofChange binencRoundTripWrong)

/-- 'grisaillelaw06.BinencCanonical': WHATEVER THE INPUT: true; the input reads as it did. -/
def binencCanonicalSpec : ChangeSpec := { name := "binencCanonical", fn := fun _ => fun
  | [d1, d2] => { results := [.lit (.bool true)], args := [d1, d2] }
  | _ => none }
def binencCanonicalRow : OpenClaim := { program := "ytnenbmbgmmeiaaadoor", sum := "895cf43ce2e61a444c7ba926b685bef2e3bfe982eff4a831cd285265f84b96df", func := "grisaille/grisaillelaw06.BinencCanonical", spec := "binencCanonical", unfollowed := true, recurses := true, named := ["unicode/utf8.first", "unicode/utf8.acceptRanges"], apart := false, laid := [("unicode/utf8.acceptRanges", laid_unicode_utf8_acceptRanges), ("unicode/utf8.first", laid_unicode_utf8_first)] }
def BinencCanonicalSaid : Prop := binencCanonicalRow.holds Tryd.pinned (OpenSpec.ofChange binencCanonicalSpec)

/-- ITS FALSE NEIGHBOUR: 'it returns false'. Refute it at one input. -/
def binencCanonicalWrong : ChangeSpec := { name := "binencCanonical", fn := fun _ => fun
  | [d1, d2] => { results := [.lit (.bool false)], args := [d1, d2] }
  | _ => none }
def BinencCanonicalWrongFalsely : Prop := binencCanonicalRow.holds Tryd.pinned (OpenSpec.ofChange binencCanonicalWrong)

/-- 'grisaillelaw06.BinencRuns': WHATEVER THE INPUT: true; the input reads as it did. -/
def binencRunsSpec : ChangeSpec := { name := "binencRuns", fn := fun _ => fun
  | [d1, d2, d3] => { results := [.lit (.bool true)], args := [d1, d2, d3] }
  | _ => none }
def binencRunsRow : OpenClaim := { program := "ytnenbmbgmmeiaaadoor", sum := "895cf43ce2e61a444c7ba926b685bef2e3bfe982eff4a831cd285265f84b96df", func := "grisaille/grisaillelaw06.BinencRuns", spec := "binencRuns", inPlace := ["internal/bytealg.MakeNoZero"], unfollowed := true, recurses := true, named := ["unicode/utf8.first", "unicode/utf8.acceptRanges"], apart := false, laid := [("unicode/utf8.acceptRanges", laid_unicode_utf8_acceptRanges), ("unicode/utf8.first", laid_unicode_utf8_first)] }
def BinencRunsSaid : Prop := binencRunsRow.holds Tryd.pinned (OpenSpec.ofChange binencRunsSpec)

/-- ITS FALSE NEIGHBOUR: 'it returns false'. Refute it at one input. -/
def binencRunsWrong : ChangeSpec := { name := "binencRuns", fn := fun _ => fun
  | [d1, d2, d3] => { results := [.lit (.bool false)], args := [d1, d2, d3] }
  | _ => none }
def BinencRunsWrongFalsely : Prop := binencRunsRow.holds Tryd.pinned (OpenSpec.ofChange binencRunsWrong)

/-- 'grisaillelaw06.BinencSequences': WHATEVER THE INPUT: true; the input reads as it did. -/
def binencSequencesSpec : ChangeSpec := { name := "binencSequences", fn := fun _ => fun
  | [d1, d2, d3] => { results := [.lit (.bool true)], args := [d1, d2, d3] }
  | _ => none }
def binencSequencesRow : OpenClaim := { program := "ytnenbmbgmmeiaaadoor", sum := "895cf43ce2e61a444c7ba926b685bef2e3bfe982eff4a831cd285265f84b96df", func := "grisaille/grisaillelaw06.BinencSequences", spec := "binencSequences", inPlace := ["internal/bytealg.MakeNoZero"], unfollowed := true, recurses := true, named := ["unicode/utf8.first", "unicode/utf8.acceptRanges"], apart := false, laid := [("unicode/utf8.acceptRanges", laid_unicode_utf8_acceptRanges), ("unicode/utf8.first", laid_unicode_utf8_first)] }
def BinencSequencesSaid : Prop := binencSequencesRow.holds Tryd.pinned (OpenSpec.ofChange binencSequencesSpec)

/-- ITS FALSE NEIGHBOUR: 'it returns false'. Refute it at one input. -/
def binencSequencesWrong : ChangeSpec := { name := "binencSequences", fn := fun _ => fun
  | [d1, d2, d3] => { results := [.lit (.bool false)], args := [d1, d2, d3] }
  | _ => none }
def BinencSequencesWrongFalsely : Prop := binencSequencesRow.holds Tryd.pinned (OpenSpec.ofChange binencSequencesWrong)

/-- 'grisaillelaw06.BinencSequencesCanonical': WHATEVER THE INPUT: true; the input reads as it did. -/
def binencSequencesCanonicalSpec : ChangeSpec := { name := "binencSequencesCanonical", fn := fun _ => fun
  | [d1, d2] => { results := [.lit (.bool true)], args := [d1, d2] }
  | _ => none }
def binencSequencesCanonicalRow : OpenClaim := { program := "ytnenbmbgmmeiaaadoor", sum := "895cf43ce2e61a444c7ba926b685bef2e3bfe982eff4a831cd285265f84b96df", func := "grisaille/grisaillelaw06.BinencSequencesCanonical", spec := "binencSequencesCanonical", inPlace := ["internal/bytealg.MakeNoZero"], unfollowed := true, recurses := true, named := ["unicode/utf8.first", "unicode/utf8.acceptRanges"], apart := false, laid := [("unicode/utf8.acceptRanges", laid_unicode_utf8_acceptRanges), ("unicode/utf8.first", laid_unicode_utf8_first)] }
def BinencSequencesCanonicalSaid : Prop := binencSequencesCanonicalRow.holds Tryd.pinned (OpenSpec.ofChange binencSequencesCanonicalSpec)

/-- ITS FALSE NEIGHBOUR: 'it returns false'. Refute it at one input. -/
def binencSequencesCanonicalWrong : ChangeSpec := { name := "binencSequencesCanonical", fn := fun _ => fun
  | [d1, d2] => { results := [.lit (.bool false)], args := [d1, d2] }
  | _ => none }
def BinencSequencesCanonicalWrongFalsely : Prop := binencSequencesCanonicalRow.holds Tryd.pinned (OpenSpec.ofChange binencSequencesCanonicalWrong)

/- THE SECOND FORM. 'bulk': how many values and letters a reading holds, each counted each time it is reached (what is shared counts as often as it is met; a slice's spare places count too). A statement '..UptoSaid' is the law's where the arguments, and the package variables that the reading takes, are together of bulk at most 1048576: NARROWER than '..Said'. Prove '..Said' where nothing that the law and all that it calls make is longer than what came in: it says more and counts as full. Else prove '..UptoSaid'. A law counts once. -/
mutual
def uptoBulk {H : Type} : DataW H → Nat
  | .lit (.string bytes) => bytes.length + 1
  | .lit _ => 1
  | .nil => 1
  | .ptr d => uptoBulk d + 1
  | .slice elems spare => uptoBulkAll elems + uptoBulkAll spare + 1
  | .agg parts => uptoBulkAll parts + 1
  | .iface _ d => uptoBulk d + 1
  | .map entries => uptoBulkEntries entries + 1
  | .held _ => 1
def uptoBulkAll {H : Type} : List (DataW H) → Nat
  | [] => 0
  | d :: r => uptoBulk d + uptoBulkAll r
def uptoBulkEntries {H : Type} : List (Lit × DataW H) → Nat
  | [] => 0
  | x :: r => uptoBulkEntry x + uptoBulkEntries r
def uptoBulkEntry {H : Type} : Lit × DataW H → Nat
  | (.string bytes, d) => bytes.length + uptoBulk d + 1
  | (_, d) => uptoBulk d + 1
 end
def uptoSmall : (H : Type) → List (DataW H) → Bool := fun _ ds => decide (uptoBulkAll ds ≤ 1048576)
def OpenSpec.upto (s : _root_.Go.ChangeSpec) : _root_.Go.OpenSpec := { _root_.Go.OpenSpec.ofChange s with cond := some uptoSmall }

/-- 'grisaillelaw06.BinencUvarint', WHERE WHAT IT READS IS OF BULK AT MOST 1048576: true; the input reads as it did. -/
def binencUvarintUptoRow : OpenClaim := { program := "ytnenbmbgmmeiaaadoor", sum := "895cf43ce2e61a444c7ba926b685bef2e3bfe982eff4a831cd285265f84b96df", func := "grisaille/grisaillelaw06.BinencUvarint", spec := "binencUvarint", unfollowed := true, recurses := true, named := ["unicode/utf8.first", "unicode/utf8.acceptRanges"], apart := false, laid := [("unicode/utf8.acceptRanges", laid_unicode_utf8_acceptRanges), ("unicode/utf8.first", laid_unicode_utf8_first)], narrowed := true }
def BinencUvarintUptoSaid : Prop := binencUvarintUptoRow.holds Tryd.pinned (OpenSpec.upto binencUvarintSpec)

/-- 'grisaillelaw06.BinencVarint', WHERE WHAT IT READS IS OF BULK AT MOST 1048576: true; the input reads as it did. -/
def binencVarintUptoRow : OpenClaim := { program := "ytnenbmbgmmeiaaadoor", sum := "895cf43ce2e61a444c7ba926b685bef2e3bfe982eff4a831cd285265f84b96df", func := "grisaille/grisaillelaw06.BinencVarint", spec := "binencVarint", unfollowed := true, recurses := true, named := ["unicode/utf8.first", "unicode/utf8.acceptRanges"], apart := false, laid := [("unicode/utf8.acceptRanges", laid_unicode_utf8_acceptRanges), ("unicode/utf8.first", laid_unicode_utf8_first)], narrowed := true }
def BinencVarintUptoSaid : Prop := binencVarintUptoRow.holds Tryd.pinned (OpenSpec.upto binencVarintSpec)

/-- 'grisaillelaw06.BinencBytes', WHERE WHAT IT READS IS OF BULK AT MOST 1048576: true; the input reads as it did. -/
def binencBytesUptoRow : OpenClaim := { program := "ytnenbmbgmmeiaaadoor", sum := "895cf43ce2e61a444c7ba926b685bef2e3bfe982eff4a831cd285265f84b96df", func := "grisaille/grisaillelaw06.BinencBytes", spec := "binencBytes", unfollowed := true, recurses := true, named := ["unicode/utf8.first", "unicode/utf8.acceptRanges"], apart := false, laid := [("unicode/utf8.acceptRanges", laid_unicode_utf8_acceptRanges), ("unicode/utf8.first", laid_unicode_utf8_first)], narrowed := true }
def BinencBytesUptoSaid : Prop := binencBytesUptoRow.holds Tryd.pinned (OpenSpec.upto binencBytesSpec)

/-- 'grisaillelaw06.BinencInts', WHERE WHAT IT READS IS OF BULK AT MOST 1048576: true; the input reads as it did. -/
def binencIntsUptoRow : OpenClaim := { program := "ytnenbmbgmmeiaaadoor", sum := "895cf43ce2e61a444c7ba926b685bef2e3bfe982eff4a831cd285265f84b96df", func := "grisaille/grisaillelaw06.BinencInts", spec := "binencInts", unfollowed := true, recurses := true, named := ["unicode/utf8.first", "unicode/utf8.acceptRanges"], apart := false, laid := [("unicode/utf8.acceptRanges", laid_unicode_utf8_acceptRanges), ("unicode/utf8.first", laid_unicode_utf8_first)], narrowed := true }
def BinencIntsUptoSaid : Prop := binencIntsUptoRow.holds Tryd.pinned (OpenSpec.upto binencIntsSpec)

/-- 'grisaillelaw06.BinencRational', WHERE WHAT IT READS IS OF BULK AT MOST 1048576: true; the input reads as it did. -/
def binencRationalUptoRow : OpenClaim := { program := "ytnenbmbgmmeiaaadoor", sum := "895cf43ce2e61a444c7ba926b685bef2e3bfe982eff4a831cd285265f84b96df", func := "grisaille/grisaillelaw06.BinencRational", spec := "binencRational", unfollowed := true, recurses := true, named := ["unicode/utf8.first", "unicode/utf8.acceptRanges"], apart := false, laid := [("unicode/utf8.acceptRanges", laid_unicode_utf8_acceptRanges), ("unicode/utf8.first", laid_unicode_utf8_first)], narrowed := true }
def BinencRationalUptoSaid : Prop := binencRationalUptoRow.holds Tryd.pinned (OpenSpec.upto binencRationalSpec)

/-- 'grisaillelaw06.BinencRoundTrip', WHERE WHAT IT READS IS OF BULK AT MOST 1048576: true; the input reads as it did. -/
def binencRoundTripUptoRow : OpenClaim := { program := "ytnenbmbgmmeiaaadoor", sum := "895cf43ce2e61a444c7ba926b685bef2e3bfe982eff4a831cd285265f84b96df", func := "grisaille/grisaillelaw06.BinencRoundTrip", spec := "binencRoundTrip", unfollowed := true, recurses := true, named := ["unicode/utf8.first", "unicode/utf8.acceptRanges"], apart := false, laid := [("unicode/utf8.acceptRanges", laid_unicode_utf8_acceptRanges), ("unicode/utf8.first", laid_unicode_utf8_first)], narrowed := true }
def BinencRoundTripUptoSaid : Prop := binencRoundTripUptoRow.holds Tryd.pinned (OpenSpec.upto binencRoundTripSpec)

/-- 'grisaillelaw06.BinencCanonical', WHERE WHAT IT READS IS OF BULK AT MOST 1048576: true; the input reads as it did. -/
def binencCanonicalUptoRow : OpenClaim := { program := "ytnenbmbgmmeiaaadoor", sum := "895cf43ce2e61a444c7ba926b685bef2e3bfe982eff4a831cd285265f84b96df", func := "grisaille/grisaillelaw06.BinencCanonical", spec := "binencCanonical", unfollowed := true, recurses := true, named := ["unicode/utf8.first", "unicode/utf8.acceptRanges"], apart := false, laid := [("unicode/utf8.acceptRanges", laid_unicode_utf8_acceptRanges), ("unicode/utf8.first", laid_unicode_utf8_first)], narrowed := true }
def BinencCanonicalUptoSaid : Prop := binencCanonicalUptoRow.holds Tryd.pinned (OpenSpec.upto binencCanonicalSpec)

/-- 'grisaillelaw06.BinencRuns', WHERE WHAT IT READS IS OF BULK AT MOST 1048576: true; the input reads as it did. -/
def binencRunsUptoRow : OpenClaim := { program := "ytnenbmbgmmeiaaadoor", sum := "895cf43ce2e61a444c7ba926b685bef2e3bfe982eff4a831cd285265f84b96df", func := "grisaille/grisaillelaw06.BinencRuns", spec := "binencRuns", inPlace := ["internal/bytealg.MakeNoZero"], unfollowed := true, recurses := true, named := ["unicode/utf8.first", "unicode/utf8.acceptRanges"], apart := false, laid := [("unicode/utf8.acceptRanges", laid_unicode_utf8_acceptRanges), ("unicode/utf8.first", laid_unicode_utf8_first)], narrowed := true }
def BinencRunsUptoSaid : Prop := binencRunsUptoRow.holds Tryd.pinned (OpenSpec.upto binencRunsSpec)

/-- 'grisaillelaw06.BinencSequences', WHERE WHAT IT READS IS OF BULK AT MOST 1048576: true; the input reads as it did. -/
def binencSequencesUptoRow : OpenClaim := { program := "ytnenbmbgmmeiaaadoor", sum := "895cf43ce2e61a444c7ba926b685bef2e3bfe982eff4a831cd285265f84b96df", func := "grisaille/grisaillelaw06.BinencSequences", spec := "binencSequences", inPlace := ["internal/bytealg.MakeNoZero"], unfollowed := true, recurses := true, named := ["unicode/utf8.first", "unicode/utf8.acceptRanges"], apart := false, laid := [("unicode/utf8.acceptRanges", laid_unicode_utf8_acceptRanges), ("unicode/utf8.first", laid_unicode_utf8_first)], narrowed := true }
def BinencSequencesUptoSaid : Prop := binencSequencesUptoRow.holds Tryd.pinned (OpenSpec.upto binencSequencesSpec)

/-- 'grisaillelaw06.BinencSequencesCanonical', WHERE WHAT IT READS IS OF BULK AT MOST 1048576: true; the input reads as it did. -/
def binencSequencesCanonicalUptoRow : OpenClaim := { program := "ytnenbmbgmmeiaaadoor", sum := "895cf43ce2e61a444c7ba926b685bef2e3bfe982eff4a831cd285265f84b96df", func := "grisaille/grisaillelaw06.BinencSequencesCanonical", spec := "binencSequencesCanonical", inPlace := ["internal/bytealg.MakeNoZero"], unfollowed := true, recurses := true, named := ["unicode/utf8.first", "unicode/utf8.acceptRanges"], apart := false, laid := [("unicode/utf8.acceptRanges", laid_unicode_utf8_acceptRanges), ("unicode/utf8.first", laid_unicode_utf8_first)], narrowed := true }
def BinencSequencesCanonicalUptoSaid : Prop := binencSequencesCanonicalUptoRow.holds Tryd.pinned (OpenSpec.upto binencSequencesCanonicalSpec)

end Rows
end Go.Proofs.YtnenbmbgmmeiaaaDoor
