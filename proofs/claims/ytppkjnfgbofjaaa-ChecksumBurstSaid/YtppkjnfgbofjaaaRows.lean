/-
  No cell of these rows narrows 'for every input' (looked for: loops, veiled, ifaces, maps, wideKeys, modest, calm, conditions, laid).
  DERIVED. THE GIVEN ROWS OF THIS SEAT. 6 by the template 'for every input the law returns true; each argument reads behind the call as it read before'; 0 by the template 'total and deterministic' (their statements: YtppkjnfgbofjaaaTotals.lean).
  GIVEN WITH THE SEED: the statements are not yours to turn. If you find one false, say at which input.
  Laid BY PROGRAM, IN A SANDBOX (cutbox-rows.mjs): the forced cells as the released guide's own fill.sh prints them over the translation 28a2c7417b46b5b0… (all of the seat's roots in one cut). By AI agents, Wed Nov 11 2026. No macro, syntax, notation, axiom, sorry.
-/
import Derived.Test.YtppkjnfgbofjaaaChecked
import GoSem.Claim
import GoSem.ClaimJoined
import GoSem.ClaimMapViews
import Derived.JoinedTies
import Derived.KernelRfl
namespace Go.Proofs.Ytppkjnfgbofjaaa
/- THE CELL 'sum', in the pinned program and in every row, IS THE sha256 OF THE DUMP (.gsa) THAT YtppkjnfgbofjaaaProg.lean LOADS. Nothing in Lean hashes anything: it is a label: what it is worth is what the hold of that sum in a sandbox is worth. -/
noncomputable def Try.pinned : Pinned := { name := "ytppkjnfgbofjaaa", sum := "28a2c7417b46b5b0a7ce45c0ccee2f1a4e4a77c7afd8f21685c0c67521406912", checked := Try.checked }
namespace Rows
def none {H : Type} : Left H := { results := [], args := [] }

/-- 'grisaillelaw07.ChecksumValues': WHATEVER THE INPUT: true; the input reads as it did. -/
def checksumValuesSpec : ChangeSpec := { name := "checksumValues", fn := fun _ => fun
  | [d1, d2, d3] => { results := [.lit (.bool true)], args := [d1, d2, d3] }
  | _ => none }
def checksumValuesRow : OpenClaim := { program := "ytppkjnfgbofjaaa", sum := "28a2c7417b46b5b0a7ce45c0ccee2f1a4e4a77c7afd8f21685c0c67521406912", func := "grisaille/grisaillelaw07.ChecksumValues", spec := "checksumValues", apart := false }
def ChecksumValuesSaid : Prop := checksumValuesRow.holds Try.pinned (OpenSpec.ofChange checksumValuesSpec)

/-- ITS FALSE NEIGHBOUR: 'it returns false'. Refute it at one input. -/
def checksumValuesWrong : ChangeSpec := { name := "checksumValues", fn := fun _ => fun
  | [d1, d2, d3] => { results := [.lit (.bool false)], args := [d1, d2, d3] }
  | _ => none }
def ChecksumValuesWrongFalsely : Prop := checksumValuesRow.holds Try.pinned (OpenSpec.ofChange checksumValuesWrong)

/-- 'grisaillelaw07.ChecksumConcatenation': WHATEVER THE INPUT: true; the input reads as it did. -/
def checksumConcatenationSpec : ChangeSpec := { name := "checksumConcatenation", fn := fun _ => fun
  | [d] => { results := [.lit (.bool true)], args := [d] }
  | _ => none }
def checksumConcatenationRow : OpenClaim := { program := "ytppkjnfgbofjaaa", sum := "28a2c7417b46b5b0a7ce45c0ccee2f1a4e4a77c7afd8f21685c0c67521406912", func := "grisaille/grisaillelaw07.ChecksumConcatenation", spec := "checksumConcatenation", apart := false }
def ChecksumConcatenationSaid : Prop := checksumConcatenationRow.holds Try.pinned (OpenSpec.ofChange checksumConcatenationSpec)

/-- ITS FALSE NEIGHBOUR: 'it returns false'. Refute it at one input. -/
def checksumConcatenationWrong : ChangeSpec := { name := "checksumConcatenation", fn := fun _ => fun
  | [d] => { results := [.lit (.bool false)], args := [d] }
  | _ => none }
def ChecksumConcatenationWrongFalsely : Prop := checksumConcatenationRow.holds Try.pinned (OpenSpec.ofChange checksumConcatenationWrong)

/-- 'grisaillelaw07.ChecksumAppendVerify': WHATEVER THE INPUT: true; the input reads as it did. -/
def checksumAppendVerifySpec : ChangeSpec := { name := "checksumAppendVerify", fn := fun _ => fun
  | [d1, d2] => { results := [.lit (.bool true)], args := [d1, d2] }
  | _ => none }
def checksumAppendVerifyRow : OpenClaim := { program := "ytppkjnfgbofjaaa", sum := "28a2c7417b46b5b0a7ce45c0ccee2f1a4e4a77c7afd8f21685c0c67521406912", func := "grisaille/grisaillelaw07.ChecksumAppendVerify", spec := "checksumAppendVerify", apart := false }
def ChecksumAppendVerifySaid : Prop := checksumAppendVerifyRow.holds Try.pinned (OpenSpec.ofChange checksumAppendVerifySpec)

/-- ITS FALSE NEIGHBOUR: 'it returns false'. Refute it at one input. -/
def checksumAppendVerifyWrong : ChangeSpec := { name := "checksumAppendVerify", fn := fun _ => fun
  | [d1, d2] => { results := [.lit (.bool false)], args := [d1, d2] }
  | _ => none }
def ChecksumAppendVerifyWrongFalsely : Prop := checksumAppendVerifyRow.holds Try.pinned (OpenSpec.ofChange checksumAppendVerifyWrong)

/-- 'grisaillelaw07.ChecksumRoundTrip': WHATEVER THE INPUT: true; the input reads as it did. -/
def checksumRoundTripSpec : ChangeSpec := { name := "checksumRoundTrip", fn := fun _ => fun
  | [d1, d2] => { results := [.lit (.bool true)], args := [d1, d2] }
  | _ => none }
def checksumRoundTripRow : OpenClaim := { program := "ytppkjnfgbofjaaa", sum := "28a2c7417b46b5b0a7ce45c0ccee2f1a4e4a77c7afd8f21685c0c67521406912", func := "grisaille/grisaillelaw07.ChecksumRoundTrip", spec := "checksumRoundTrip", apart := false }
def ChecksumRoundTripSaid : Prop := checksumRoundTripRow.holds Try.pinned (OpenSpec.ofChange checksumRoundTripSpec)

/-- ITS FALSE NEIGHBOUR: 'it returns false'. Refute it at one input. -/
def checksumRoundTripWrong : ChangeSpec := { name := "checksumRoundTrip", fn := fun _ => fun
  | [d1, d2] => { results := [.lit (.bool false)], args := [d1, d2] }
  | _ => none }
def ChecksumRoundTripWrongFalsely : Prop := checksumRoundTripRow.holds Try.pinned (OpenSpec.ofChange checksumRoundTripWrong)

/-- 'grisaillelaw07.ChecksumBurst': WHATEVER THE INPUT: true; the input reads as it did. -/
def checksumBurstSpec : ChangeSpec := { name := "checksumBurst", fn := fun _ => fun
  | [d1, d2, d3] => { results := [.lit (.bool true)], args := [d1, d2, d3] }
  | _ => none }
def checksumBurstRow : OpenClaim := { program := "ytppkjnfgbofjaaa", sum := "28a2c7417b46b5b0a7ce45c0ccee2f1a4e4a77c7afd8f21685c0c67521406912", func := "grisaille/grisaillelaw07.ChecksumBurst", spec := "checksumBurst", apart := false }
def ChecksumBurstSaid : Prop := checksumBurstRow.holds Try.pinned (OpenSpec.ofChange checksumBurstSpec)

/-- ITS FALSE NEIGHBOUR: 'it returns false'. Refute it at one input. -/
def checksumBurstWrong : ChangeSpec := { name := "checksumBurst", fn := fun _ => fun
  | [d1, d2, d3] => { results := [.lit (.bool false)], args := [d1, d2, d3] }
  | _ => none }
def ChecksumBurstWrongFalsely : Prop := checksumBurstRow.holds Try.pinned (OpenSpec.ofChange checksumBurstWrong)

/-- 'grisaillelaw07.ChecksumFNVStep': WHATEVER THE INPUT: true; the input reads as it did. -/
def checksumFNVStepSpec : ChangeSpec := { name := "checksumFNVStep", fn := fun _ => fun
  | [d1, d2, d3] => { results := [.lit (.bool true)], args := [d1, d2, d3] }
  | _ => none }
def checksumFNVStepRow : OpenClaim := { program := "ytppkjnfgbofjaaa", sum := "28a2c7417b46b5b0a7ce45c0ccee2f1a4e4a77c7afd8f21685c0c67521406912", func := "grisaille/grisaillelaw07.ChecksumFNVStep", spec := "checksumFNVStep", apart := false }
def ChecksumFNVStepSaid : Prop := checksumFNVStepRow.holds Try.pinned (OpenSpec.ofChange checksumFNVStepSpec)

/-- ITS FALSE NEIGHBOUR: 'it returns false'. Refute it at one input. -/
def checksumFNVStepWrong : ChangeSpec := { name := "checksumFNVStep", fn := fun _ => fun
  | [d1, d2, d3] => { results := [.lit (.bool false)], args := [d1, d2, d3] }
  | _ => none }
def ChecksumFNVStepWrongFalsely : Prop := checksumFNVStepRow.holds Try.pinned (OpenSpec.ofChange checksumFNVStepWrong)

/- THE SECOND FORM. 'bulk': how many values and letters a reading holds, each counted each time it is reached (what is shared counts as often as it is met; a slice's spare places count too). A statement '..UptoSaid' is the law's where the arguments, and the package variables that the reading takes, are together of bulk at most 1048576: NARROWER than '..Said'. Prove '..Said' where nothing that the law and all that it calls make is longer than what came in: it says more and counts as full. Else prove '..UptoSaid'. A law counts once. -/
mutual
def uptoBulk {H : Type} : DataW H → Nat
  | .lit (.string bytes) => bytes.length + 1
  | .lit _ => 1
  | .nil => 1
  | .ptr d => uptoBulk d + 1
  | .slice elems spare => uptoBulkAll elems + uptoBulkAll spare + 1
  | .agg parts => uptoBulkAll parts + 1
  | .iface _ d => uptoBulk d + 1
  | .map entries => uptoBulkEntries entries + 1
  | .held _ => 1
def uptoBulkAll {H : Type} : List (DataW H) → Nat
  | [] => 0
  | d :: r => uptoBulk d + uptoBulkAll r
def uptoBulkEntries {H : Type} : List (Lit × DataW H) → Nat
  | [] => 0
  | x :: r => uptoBulkEntry x + uptoBulkEntries r
def uptoBulkEntry {H : Type} : Lit × DataW H → Nat
  | (.string bytes, d) => bytes.length + uptoBulk d + 1
  | (_, d) => uptoBulk d + 1
 end
def uptoSmall : (H : Type) → List (DataW H) → Bool := fun _ ds => decide (uptoBulkAll ds ≤ 1048576)
def OpenSpec.upto (s : _root_.Go.ChangeSpec) : _root_.Go.OpenSpec := { _root_.Go.OpenSpec.ofChange s with cond := some uptoSmall }

/-- 'grisaillelaw07.ChecksumValues', WHERE WHAT IT READS IS OF BULK AT MOST 1048576: true; the input reads as it did. -/
def checksumValuesUptoRow : OpenClaim := { program := "ytppkjnfgbofjaaa", sum := "28a2c7417b46b5b0a7ce45c0ccee2f1a4e4a77c7afd8f21685c0c67521406912", func := "grisaille/grisaillelaw07.ChecksumValues", spec := "checksumValues", apart := false, narrowed := true }
def ChecksumValuesUptoSaid : Prop := checksumValuesUptoRow.holds Try.pinned (OpenSpec.upto checksumValuesSpec)

/-- 'grisaillelaw07.ChecksumConcatenation', WHERE WHAT IT READS IS OF BULK AT MOST 1048576: true; the input reads as it did. -/
def checksumConcatenationUptoRow : OpenClaim := { program := "ytppkjnfgbofjaaa", sum := "28a2c7417b46b5b0a7ce45c0ccee2f1a4e4a77c7afd8f21685c0c67521406912", func := "grisaille/grisaillelaw07.ChecksumConcatenation", spec := "checksumConcatenation", apart := false, narrowed := true }
def ChecksumConcatenationUptoSaid : Prop := checksumConcatenationUptoRow.holds Try.pinned (OpenSpec.upto checksumConcatenationSpec)

/-- 'grisaillelaw07.ChecksumAppendVerify', WHERE WHAT IT READS IS OF BULK AT MOST 1048576: true; the input reads as it did. -/
def checksumAppendVerifyUptoRow : OpenClaim := { program := "ytppkjnfgbofjaaa", sum := "28a2c7417b46b5b0a7ce45c0ccee2f1a4e4a77c7afd8f21685c0c67521406912", func := "grisaille/grisaillelaw07.ChecksumAppendVerify", spec := "checksumAppendVerify", apart := false, narrowed := true }
def ChecksumAppendVerifyUptoSaid : Prop := checksumAppendVerifyUptoRow.holds Try.pinned (OpenSpec.upto checksumAppendVerifySpec)

/-- 'grisaillelaw07.ChecksumRoundTrip', WHERE WHAT IT READS IS OF BULK AT MOST 1048576: true; the input reads as it did. -/
def checksumRoundTripUptoRow : OpenClaim := { program := "ytppkjnfgbofjaaa", sum := "28a2c7417b46b5b0a7ce45c0ccee2f1a4e4a77c7afd8f21685c0c67521406912", func := "grisaille/grisaillelaw07.ChecksumRoundTrip", spec := "checksumRoundTrip", apart := false, narrowed := true }
def ChecksumRoundTripUptoSaid : Prop := checksumRoundTripUptoRow.holds Try.pinned (OpenSpec.upto checksumRoundTripSpec)

/-- 'grisaillelaw07.ChecksumBurst', WHERE WHAT IT READS IS OF BULK AT MOST 1048576: true; the input reads as it did. -/
def checksumBurstUptoRow : OpenClaim := { program := "ytppkjnfgbofjaaa", sum := "28a2c7417b46b5b0a7ce45c0ccee2f1a4e4a77c7afd8f21685c0c67521406912", func := "grisaille/grisaillelaw07.ChecksumBurst", spec := "checksumBurst", apart := false, narrowed := true }
def ChecksumBurstUptoSaid : Prop := checksumBurstUptoRow.holds Try.pinned (OpenSpec.upto checksumBurstSpec)

/-- 'grisaillelaw07.ChecksumFNVStep', WHERE WHAT IT READS IS OF BULK AT MOST 1048576: true; the input reads as it did. -/
def checksumFNVStepUptoRow : OpenClaim := { program := "ytppkjnfgbofjaaa", sum := "28a2c7417b46b5b0a7ce45c0ccee2f1a4e4a77c7afd8f21685c0c67521406912", func := "grisaille/grisaillelaw07.ChecksumFNVStep", spec := "checksumFNVStep", apart := false, narrowed := true }
def ChecksumFNVStepUptoSaid : Prop := checksumFNVStepUptoRow.holds Try.pinned (OpenSpec.upto checksumFNVStepSpec)

end Rows
end Go.Proofs.Ytppkjnfgbofjaaa
