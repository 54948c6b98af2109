/- 'RowsDeep' evaluated, part 2. Own work; no condition. -/
import Derived.Test.YtkkbfljipfndgaaDoorRRowsDeep
namespace Go.Proofs.YtkkbfljipfndgaaDoor.Ab
open Go Go.AI
set_option maxRecDepth 100000
namespace RowsDeep
theorem run_2 : (p 2 true && p 2 false) = true := by kernel_rfl
end RowsDeep
end Go.Proofs.YtkkbfljipfndgaaDoor.Ab
