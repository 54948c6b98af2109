/- 'TreeDefines' evaluated, part 7. Own work; no condition. -/
import Derived.Test.YtegimihckejnkaaDoorRTreeDefines
namespace Go.Proofs.YtegimihckejnkaaDoor.Ab
open Go Go.AI
set_option maxRecDepth 100000
namespace TreeDefines
theorem run_1_3 : (p 1 3) = true := by kernel_rfl
theorem run_6_3 : (p 6 3) = true := by kernel_rfl
theorem run_11_3 : (p 11 3) = true := by kernel_rfl
end TreeDefines
end Go.Proofs.YtegimihckejnkaaDoor.Ab
