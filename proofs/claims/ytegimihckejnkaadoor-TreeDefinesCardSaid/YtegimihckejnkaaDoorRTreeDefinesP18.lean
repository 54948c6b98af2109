/- 'TreeDefines' evaluated, part 18. Own work; no condition. -/
import Derived.Test.YtegimihckejnkaaDoorRTreeDefines
namespace Go.Proofs.YtegimihckejnkaaDoor.Ab
open Go Go.AI
set_option maxRecDepth 100000
namespace TreeDefines
theorem run_4_2 : (p 4 2) = true := by kernel_rfl
theorem run_9_2 : (p 9 2) = true := by kernel_rfl
theorem run_14_2 : (p 14 2) = true := by kernel_rfl
end TreeDefines
end Go.Proofs.YtegimihckejnkaaDoor.Ab
