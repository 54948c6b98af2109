/- 'TreeDefines' evaluated, part 2. Own work; no condition. -/
import Derived.Test.YtegimihckejnkaaDoorRTreeDefines
namespace Go.Proofs.YtegimihckejnkaaDoor.Ab
open Go Go.AI
set_option maxRecDepth 100000
namespace TreeDefines
theorem run_0_2 : (p 0 2) = true := by kernel_rfl
theorem run_5_2 : (p 5 2) = true := by kernel_rfl
theorem run_10_2 : (p 10 2) = true := by kernel_rfl
end TreeDefines
end Go.Proofs.YtegimihckejnkaaDoor.Ab
