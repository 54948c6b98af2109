/- 'TreeDefines' evaluated, part 8. Own work; no condition. -/
import Derived.Test.YtegimihckejnkaaDoorRTreeDefines
namespace Go.Proofs.YtegimihckejnkaaDoor.Ab
open Go Go.AI
set_option maxRecDepth 100000
namespace TreeDefines
theorem run_2_0 : (p 2 0) = true := by kernel_rfl
theorem run_7_0 : (p 7 0) = true := by kernel_rfl
theorem run_12_0 : (p 12 0) = true := by kernel_rfl
end TreeDefines
end Go.Proofs.YtegimihckejnkaaDoor.Ab
