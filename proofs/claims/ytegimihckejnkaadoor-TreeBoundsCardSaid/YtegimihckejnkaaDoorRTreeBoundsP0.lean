/- 'TreeBounds' evaluated, part 0. Own work; no condition. -/
import Derived.Test.YtegimihckejnkaaDoorRTreeBounds
namespace Go.Proofs.YtegimihckejnkaaDoor.Ab
open Go Go.AI
set_option maxRecDepth 100000
namespace TreeBounds
theorem run_0 : (p 0 true && p 0 false) = true := by kernel_rfl
end TreeBounds
end Go.Proofs.YtegimihckejnkaaDoor.Ab
