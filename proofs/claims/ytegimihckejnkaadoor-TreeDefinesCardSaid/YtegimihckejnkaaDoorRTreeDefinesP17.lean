/- 'TreeDefines' evaluated, part 17. Own work; no condition. -/
import Derived.Test.YtegimihckejnkaaDoorRTreeDefines
namespace Go.Proofs.YtegimihckejnkaaDoor.Ab
open Go Go.AI
set_option maxRecDepth 100000
namespace TreeDefines
theorem run_4_1 : (p 4 1) = true := by kernel_rfl
theorem run_9_1 : (p 9 1) = true := by kernel_rfl
theorem run_14_1 : (p 14 1) = true := by kernel_rfl
end TreeDefines
end Go.Proofs.YtegimihckejnkaaDoor.Ab
