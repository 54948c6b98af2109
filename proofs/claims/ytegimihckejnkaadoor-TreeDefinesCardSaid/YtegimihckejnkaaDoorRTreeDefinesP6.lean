/- 'TreeDefines' evaluated, part 6. Own work; no condition. -/
import Derived.Test.YtegimihckejnkaaDoorRTreeDefines
namespace Go.Proofs.YtegimihckejnkaaDoor.Ab
open Go Go.AI
set_option maxRecDepth 100000
namespace TreeDefines
theorem run_1_2 : (p 1 2) = true := by kernel_rfl
theorem run_6_2 : (p 6 2) = true := by kernel_rfl
theorem run_11_2 : (p 11 2) = true := by kernel_rfl
end TreeDefines
end Go.Proofs.YtegimihckejnkaaDoor.Ab
