/- 'RowsKinds' evaluated, part 0. Own work; no condition. -/
import Derived.Test.YtkkbfljipfndgaaDoorRRowsKinds
namespace Go.Proofs.YtkkbfljipfndgaaDoor.Ab
open Go Go.AI
set_option maxRecDepth 100000
namespace RowsKinds
theorem run_0 : (p 0) = true := by kernel_rfl
theorem run_4 : (p 4) = true := by kernel_rfl
theorem run_8 : (p 8) = true := by kernel_rfl
theorem run_12 : (p 12) = true := by kernel_rfl
end RowsKinds
end Go.Proofs.YtkkbfljipfndgaaDoor.Ab
