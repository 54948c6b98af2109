/- 'TreeDefines' evaluated, part 4. Own work; no condition. -/
import Derived.Test.YtegimihckejnkaaDoorRTreeDefines
namespace Go.Proofs.YtegimihckejnkaaDoor.Ab
open Go Go.AI
set_option maxRecDepth 100000
namespace TreeDefines
theorem run_1_0 : (p 1 0) = true := by kernel_rfl
theorem run_6_0 : (p 6 0) = true := by kernel_rfl
theorem run_11_0 : (p 11 0) = true := by kernel_rfl
end TreeDefines
end Go.Proofs.YtegimihckejnkaaDoor.Ab
