/- 'TreePaths' evaluated, part 0. Own work; no condition. -/
import Derived.Test.YtegimihckejnkaaDoorRTreePaths
namespace Go.Proofs.YtegimihckejnkaaDoor.Ab
open Go Go.AI
set_option maxRecDepth 100000
namespace TreePaths
theorem run_0_0 : (((List.range 4).all fun r3 => p 0 0 r3 true && p 0 0 r3 false)) = true := by kernel_rfl
theorem run_2_0 : (((List.range 4).all fun r3 => p 2 0 r3 true && p 2 0 r3 false)) = true := by kernel_rfl
end TreePaths
end Go.Proofs.YtegimihckejnkaaDoor.Ab
