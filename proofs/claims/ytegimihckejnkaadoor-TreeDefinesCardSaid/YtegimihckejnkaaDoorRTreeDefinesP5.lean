/- 'TreeDefines' evaluated, part 5. Own work; no condition. -/
import Derived.Test.YtegimihckejnkaaDoorRTreeDefines
namespace Go.Proofs.YtegimihckejnkaaDoor.Ab
open Go Go.AI
set_option maxRecDepth 100000
namespace TreeDefines
theorem run_1_1 : (p 1 1) = true := by kernel_rfl
theorem run_6_1 : (p 6 1) = true := by kernel_rfl
theorem run_11_1 : (p 11 1) = true := by kernel_rfl
end TreeDefines
end Go.Proofs.YtegimihckejnkaaDoor.Ab
