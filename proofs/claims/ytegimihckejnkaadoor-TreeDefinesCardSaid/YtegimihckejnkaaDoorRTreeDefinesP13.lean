/- 'TreeDefines' evaluated, part 13. Own work; no condition. -/
import Derived.Test.YtegimihckejnkaaDoorRTreeDefines
namespace Go.Proofs.YtegimihckejnkaaDoor.Ab
open Go Go.AI
set_option maxRecDepth 100000
namespace TreeDefines
theorem run_3_1 : (p 3 1) = true := by kernel_rfl
theorem run_8_1 : (p 8 1) = true := by kernel_rfl
theorem run_13_1 : (p 13 1) = true := by kernel_rfl
end TreeDefines
end Go.Proofs.YtegimihckejnkaaDoor.Ab
