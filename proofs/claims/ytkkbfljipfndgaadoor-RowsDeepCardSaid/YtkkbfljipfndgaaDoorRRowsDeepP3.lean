/- 'RowsDeep' evaluated, part 3. Own work; no condition. -/
import Derived.Test.YtkkbfljipfndgaaDoorRRowsDeep
namespace Go.Proofs.YtkkbfljipfndgaaDoor.Ab
open Go Go.AI
set_option maxRecDepth 100000
namespace RowsDeep
theorem run_3 : (p 3 true && p 3 false) = true := by kernel_rfl
end RowsDeep
end Go.Proofs.YtkkbfljipfndgaaDoor.Ab
