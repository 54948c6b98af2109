/- 'TreeDefines' evaluated, part 10. Own work; no condition. -/
import Derived.Test.YtegimihckejnkaaDoorRTreeDefines
namespace Go.Proofs.YtegimihckejnkaaDoor.Ab
open Go Go.AI
set_option maxRecDepth 100000
namespace TreeDefines
theorem run_2_2 : (p 2 2) = true := by kernel_rfl
theorem run_7_2 : (p 7 2) = true := by kernel_rfl
theorem run_12_2 : (p 12 2) = true := by kernel_rfl
end TreeDefines
end Go.Proofs.YtegimihckejnkaaDoor.Ab
