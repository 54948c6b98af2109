/- 'RowsDeep' evaluated, part 1. Own work; no condition. -/
import Derived.Test.YtkkbfljipfndgaaDoorRRowsDeep
namespace Go.Proofs.YtkkbfljipfndgaaDoor.Ab
open Go Go.AI
set_option maxRecDepth 100000
namespace RowsDeep
theorem run_1 : (p 1 true && p 1 false) = true := by kernel_rfl
theorem run_5 : (p 5 true && p 5 false) = true := by kernel_rfl
end RowsDeep
end Go.Proofs.YtkkbfljipfndgaaDoor.Ab
