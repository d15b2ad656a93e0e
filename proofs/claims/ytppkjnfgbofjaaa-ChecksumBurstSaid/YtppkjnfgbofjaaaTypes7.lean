/- What the program's tables say of the slice types of chapter 7. -/
import Derived.Test.YtppkjnfgbofjaaaProg
import Derived.Test.YtppkjnfgbofjaaaBase
namespace Go.Proofs.Ytppkjnfgbofjaaa
theorem tyU8 : SliceTy Try.prog 24 5 (.int .u8 0) 1 1 := ⟨Try.underlying24, info_parts (by kernel_rfl), rfl, by decide⟩
theorem tyParts : SliceTy Try.prog 22 24 (.slice none 0 0) 1 24 := ⟨Try.underlying22, info_parts (by kernel_rfl), rfl, by decide⟩
end Go.Proofs.Ytppkjnfgbofjaaa
