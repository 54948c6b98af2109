/- 'TreeBounds' evaluated, part 1. Own work; no condition. -/
import Derived.Test.YtegimihckejnkaaDoorRTreeBounds
namespace Go.Proofs.YtegimihckejnkaaDoor.Ab
open Go Go.AI
set_option maxRecDepth 100000
namespace TreeBounds
theorem run_1 : (p 1 true && p 1 false) = true := by kernel_rfl
end TreeBounds
end Go.Proofs.YtegimihckejnkaaDoor.Ab
