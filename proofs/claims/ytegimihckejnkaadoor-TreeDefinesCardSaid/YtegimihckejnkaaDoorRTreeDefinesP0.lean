/- 'TreeDefines' evaluated, part 0. Own work; no condition. -/
import Derived.Test.YtegimihckejnkaaDoorRTreeDefines
namespace Go.Proofs.YtegimihckejnkaaDoor.Ab
open Go Go.AI
set_option maxRecDepth 100000
namespace TreeDefines
theorem run_0_0 : (p 0 0) = true := by kernel_rfl
theorem run_5_0 : (p 5 0) = true := by kernel_rfl
theorem run_10_0 : (p 10 0) = true := by kernel_rfl
end TreeDefines
end Go.Proofs.YtegimihckejnkaaDoor.Ab
