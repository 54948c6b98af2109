/- 'RowsKinds' evaluated, part 1. Own work; no condition. -/
import Derived.Test.YtkkbfljipfndgaaDoorRRowsKinds
namespace Go.Proofs.YtkkbfljipfndgaaDoor.Ab
open Go Go.AI
set_option maxRecDepth 100000
namespace RowsKinds
theorem run_1 : (p 1) = true := by kernel_rfl
theorem run_5 : (p 5) = true := by kernel_rfl
theorem run_9 : (p 9) = true := by kernel_rfl
theorem run_13 : (p 13) = true := by kernel_rfl
end RowsKinds
end Go.Proofs.YtkkbfljipfndgaaDoor.Ab
