/- 'TreeDefines' evaluated, part 3. Own work; no condition. -/
import Derived.Test.YtegimihckejnkaaDoorRTreeDefines
namespace Go.Proofs.YtegimihckejnkaaDoor.Ab
open Go Go.AI
set_option maxRecDepth 100000
namespace TreeDefines
theorem run_0_3 : (p 0 3) = true := by kernel_rfl
theorem run_5_3 : (p 5 3) = true := by kernel_rfl
theorem run_10_3 : (p 10 3) = true := by kernel_rfl
end TreeDefines
end Go.Proofs.YtegimihckejnkaaDoor.Ab
