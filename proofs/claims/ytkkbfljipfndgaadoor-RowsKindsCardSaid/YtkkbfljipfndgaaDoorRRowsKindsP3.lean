/- 'RowsKinds' evaluated, part 3. Own work; no condition. -/
import Derived.Test.YtkkbfljipfndgaaDoorRRowsKinds
namespace Go.Proofs.YtkkbfljipfndgaaDoor.Ab
open Go Go.AI
set_option maxRecDepth 100000
namespace RowsKinds
theorem run_3 : (p 3) = true := by kernel_rfl
theorem run_7 : (p 7) = true := by kernel_rfl
theorem run_11 : (p 11) = true := by kernel_rfl
end RowsKinds
end Go.Proofs.YtkkbfljipfndgaaDoor.Ab
