/- 'TreeDefines' evaluated, part 15. Own work; no condition. -/
import Derived.Test.YtegimihckejnkaaDoorRTreeDefines
namespace Go.Proofs.YtegimihckejnkaaDoor.Ab
open Go Go.AI
set_option maxRecDepth 100000
namespace TreeDefines
theorem run_3_3 : (p 3 3) = true := by kernel_rfl
theorem run_8_3 : (p 8 3) = true := by kernel_rfl
theorem run_13_3 : (p 13 3) = true := by kernel_rfl
end TreeDefines
end Go.Proofs.YtegimihckejnkaaDoor.Ab
