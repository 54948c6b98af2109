/- 'TreePaths' evaluated, part 4. Own work; no condition. -/
import Derived.Test.YtegimihckejnkaaDoorRTreePaths
namespace Go.Proofs.YtegimihckejnkaaDoor.Ab
open Go Go.AI
set_option maxRecDepth 100000
namespace TreePaths
theorem run_1_0 : (((List.range 4).all fun r3 => p 1 0 r3 true && p 1 0 r3 false)) = true := by kernel_rfl
theorem run_3_0 : (((List.range 4).all fun r3 => p 3 0 r3 true && p 3 0 r3 false)) = true := by kernel_rfl
end TreePaths
end Go.Proofs.YtegimihckejnkaaDoor.Ab
