/- 'TreePaths' evaluated, part 1. Own work; no condition. -/
import Derived.Test.YtegimihckejnkaaDoorRTreePaths
namespace Go.Proofs.YtegimihckejnkaaDoor.Ab
open Go Go.AI
set_option maxRecDepth 100000
namespace TreePaths
theorem run_0_1 : (((List.range 4).all fun r3 => p 0 1 r3 true && p 0 1 r3 false)) = true := by kernel_rfl
theorem run_2_1 : (((List.range 4).all fun r3 => p 2 1 r3 true && p 2 1 r3 false)) = true := by kernel_rfl
end TreePaths
end Go.Proofs.YtegimihckejnkaaDoor.Ab
