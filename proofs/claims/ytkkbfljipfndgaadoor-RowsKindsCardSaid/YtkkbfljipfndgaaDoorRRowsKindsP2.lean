/- 'RowsKinds' evaluated, part 2. Own work; no condition. -/
import Derived.Test.YtkkbfljipfndgaaDoorRRowsKinds
namespace Go.Proofs.YtkkbfljipfndgaaDoor.Ab
open Go Go.AI
set_option maxRecDepth 100000
namespace RowsKinds
theorem run_2 : (p 2) = true := by kernel_rfl
theorem run_6 : (p 6) = true := by kernel_rfl
theorem run_10 : (p 10) = true := by kernel_rfl
end RowsKinds
end Go.Proofs.YtkkbfljipfndgaaDoor.Ab
