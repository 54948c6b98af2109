/- 'TreeDefines' evaluated, part 19. Own work; no condition. -/
import Derived.Test.YtegimihckejnkaaDoorRTreeDefines
namespace Go.Proofs.YtegimihckejnkaaDoor.Ab
open Go Go.AI
set_option maxRecDepth 100000
namespace TreeDefines
theorem run_4_3 : (p 4 3) = true := by kernel_rfl
theorem run_9_3 : (p 9 3) = true := by kernel_rfl
theorem run_14_3 : (p 14 3) = true := by kernel_rfl
end TreeDefines
end Go.Proofs.YtegimihckejnkaaDoor.Ab
