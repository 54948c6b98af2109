/- 'RowsDeep' evaluated, part 0. Own work; no condition. -/
import Derived.Test.YtkkbfljipfndgaaDoorRRowsDeep
namespace Go.Proofs.YtkkbfljipfndgaaDoor.Ab
open Go Go.AI
set_option maxRecDepth 100000
namespace RowsDeep
theorem run_0 : (p 0 true && p 0 false) = true := by kernel_rfl
theorem run_4 : (p 4 true && p 4 false) = true := by kernel_rfl
end RowsDeep
end Go.Proofs.YtkkbfljipfndgaaDoor.Ab
