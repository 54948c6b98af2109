/- 'TreeBounds' evaluated, part 3. Own work; no condition. -/
import Derived.Test.YtegimihckejnkaaDoorRTreeBounds
namespace Go.Proofs.YtegimihckejnkaaDoor.Ab
open Go Go.AI
set_option maxRecDepth 100000
namespace TreeBounds
theorem run_3 : (p 3 true && p 3 false) = true := by kernel_rfl
end TreeBounds
end Go.Proofs.YtegimihckejnkaaDoor.Ab
