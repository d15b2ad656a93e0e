/- Arguments that came in: ints. No program in sight. -/
import Derived.Test.YtnenbmbgmmeiaaaDoorOpen
namespace Go.Proofs.YtnenbmbgmmeiaaaDoor
open Go.RowKit
variable {α : Type}
end Go.Proofs.YtnenbmbgmmeiaaaDoor
