/- 'TreeBounds' evaluated, part 2. Own work; no condition. -/
import Derived.Test.YtegimihckejnkaaDoorRTreeBounds
namespace Go.Proofs.YtegimihckejnkaaDoor.Ab
open Go Go.AI
set_option maxRecDepth 100000
namespace TreeBounds
theorem run_2 : (p 2 true && p 2 false) = true := by kernel_rfl
end TreeBounds
end Go.Proofs.YtegimihckejnkaaDoor.Ab
