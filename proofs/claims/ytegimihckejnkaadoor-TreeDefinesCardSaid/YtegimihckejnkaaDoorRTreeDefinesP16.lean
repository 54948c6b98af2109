/- 'TreeDefines' evaluated, part 16. Own work; no condition. -/
import Derived.Test.YtegimihckejnkaaDoorRTreeDefines
namespace Go.Proofs.YtegimihckejnkaaDoor.Ab
open Go Go.AI
set_option maxRecDepth 100000
namespace TreeDefines
theorem run_4_0 : (p 4 0) = true := by kernel_rfl
theorem run_9_0 : (p 9 0) = true := by kernel_rfl
theorem run_14_0 : (p 14 0) = true := by kernel_rfl
end TreeDefines
end Go.Proofs.YtegimihckejnkaaDoor.Ab
