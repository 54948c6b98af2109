/- 'TreePaths' evaluated, part 6. Own work; no condition. -/
import Derived.Test.YtegimihckejnkaaDoorRTreePaths
namespace Go.Proofs.YtegimihckejnkaaDoor.Ab
open Go Go.AI
set_option maxRecDepth 100000
namespace TreePaths
theorem run_1_2 : (((List.range 4).all fun r3 => p 1 2 r3 true && p 1 2 r3 false)) = true := by kernel_rfl
theorem run_3_2 : (((List.range 4).all fun r3 => p 3 2 r3 true && p 3 2 r3 false)) = true := by kernel_rfl
end TreePaths
end Go.Proofs.YtegimihckejnkaaDoor.Ab
