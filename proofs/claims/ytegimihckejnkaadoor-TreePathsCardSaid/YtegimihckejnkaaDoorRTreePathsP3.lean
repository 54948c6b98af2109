/- 'TreePaths' evaluated, part 3. Own work; no condition. -/
import Derived.Test.YtegimihckejnkaaDoorRTreePaths
namespace Go.Proofs.YtegimihckejnkaaDoor.Ab
open Go Go.AI
set_option maxRecDepth 100000
namespace TreePaths
theorem run_0_3 : (((List.range 4).all fun r3 => p 0 3 r3 true && p 0 3 r3 false)) = true := by kernel_rfl
theorem run_2_3 : (((List.range 4).all fun r3 => p 2 3 r3 true && p 2 3 r3 false)) = true := by kernel_rfl
end TreePaths
end Go.Proofs.YtegimihckejnkaaDoor.Ab
