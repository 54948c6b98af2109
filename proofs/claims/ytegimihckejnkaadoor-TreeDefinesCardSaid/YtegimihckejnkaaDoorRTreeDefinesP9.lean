/- 'TreeDefines' evaluated, part 9. Own work; no condition. -/
import Derived.Test.YtegimihckejnkaaDoorRTreeDefines
namespace Go.Proofs.YtegimihckejnkaaDoor.Ab
open Go Go.AI
set_option maxRecDepth 100000
namespace TreeDefines
theorem run_2_1 : (p 2 1) = true := by kernel_rfl
theorem run_7_1 : (p 7 1) = true := by kernel_rfl
theorem run_12_1 : (p 12 1) = true := by kernel_rfl
end TreeDefines
end Go.Proofs.YtegimihckejnkaaDoor.Ab
