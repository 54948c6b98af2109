/- 'TreePaths' evaluated, part 5. Own work; no condition. -/
import Derived.Test.YtegimihckejnkaaDoorRTreePaths
namespace Go.Proofs.YtegimihckejnkaaDoor.Ab
open Go Go.AI
set_option maxRecDepth 100000
namespace TreePaths
theorem run_1_1 : (((List.range 4).all fun r3 => p 1 1 r3 true && p 1 1 r3 false)) = true := by kernel_rfl
theorem run_3_1 : (((List.range 4).all fun r3 => p 3 1 r3 true && p 3 1 r3 false)) = true := by kernel_rfl
end TreePaths
end Go.Proofs.YtegimihckejnkaaDoor.Ab
