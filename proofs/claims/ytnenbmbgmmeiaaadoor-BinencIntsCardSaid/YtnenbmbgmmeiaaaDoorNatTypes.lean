/- What the program's tables say of the slices of digits and of bytes. -/
import Derived.Test.YtnenbmbgmmeiaaaDoorProg
import Derived.Test.YtnenbmbgmmeiaaaDoorBase
namespace Go.Proofs.YtnenbmbgmmeiaaaDoor
theorem tyU32 : SliceTy Tryd.prog 47 75 (.int .u32 0) 1 4 := ⟨Tryd.underlying47, info_parts (by kernel_rfl), rfl, by decide⟩
theorem tyU8 : SliceTy Tryd.prog 23 5 (.int .u8 0) 1 1 := ⟨Tryd.underlying23, info_parts (by kernel_rfl), rfl, by decide⟩
end Go.Proofs.YtnenbmbgmmeiaaaDoor
