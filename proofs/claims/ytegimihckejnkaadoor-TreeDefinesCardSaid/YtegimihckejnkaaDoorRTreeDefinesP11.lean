/- 'TreeDefines' evaluated, part 11. Own work; no condition. -/
import Derived.Test.YtegimihckejnkaaDoorRTreeDefines
namespace Go.Proofs.YtegimihckejnkaaDoor.Ab
open Go Go.AI
set_option maxRecDepth 100000
namespace TreeDefines
theorem run_2_3 : (p 2 3) = true := by kernel_rfl
theorem run_7_3 : (p 7 3) = true := by kernel_rfl
theorem run_12_3 : (p 12 3) = true := by kernel_rfl
end TreeDefines
end Go.Proofs.YtegimihckejnkaaDoor.Ab
