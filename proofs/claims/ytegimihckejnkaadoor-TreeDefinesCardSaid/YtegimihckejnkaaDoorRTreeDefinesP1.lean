/- 'TreeDefines' evaluated, part 1. Own work; no condition. -/
import Derived.Test.YtegimihckejnkaaDoorRTreeDefines
namespace Go.Proofs.YtegimihckejnkaaDoor.Ab
open Go Go.AI
set_option maxRecDepth 100000
namespace TreeDefines
theorem run_0_1 : (p 0 1) = true := by kernel_rfl
theorem run_5_1 : (p 5 1) = true := by kernel_rfl
theorem run_10_1 : (p 10 1) = true := by kernel_rfl
end TreeDefines
end Go.Proofs.YtegimihckejnkaaDoor.Ab
