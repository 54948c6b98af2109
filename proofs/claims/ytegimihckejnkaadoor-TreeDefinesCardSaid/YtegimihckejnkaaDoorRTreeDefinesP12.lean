/- 'TreeDefines' evaluated, part 12. Own work; no condition. -/
import Derived.Test.YtegimihckejnkaaDoorRTreeDefines
namespace Go.Proofs.YtegimihckejnkaaDoor.Ab
open Go Go.AI
set_option maxRecDepth 100000
namespace TreeDefines
theorem run_3_0 : (p 3 0) = true := by kernel_rfl
theorem run_8_0 : (p 8 0) = true := by kernel_rfl
theorem run_13_0 : (p 13 0) = true := by kernel_rfl
end TreeDefines
end Go.Proofs.YtegimihckejnkaaDoor.Ab
