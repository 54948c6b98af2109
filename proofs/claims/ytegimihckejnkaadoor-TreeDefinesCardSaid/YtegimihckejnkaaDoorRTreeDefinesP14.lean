/- 'TreeDefines' evaluated, part 14. Own work; no condition. -/
import Derived.Test.YtegimihckejnkaaDoorRTreeDefines
namespace Go.Proofs.YtegimihckejnkaaDoor.Ab
open Go Go.AI
set_option maxRecDepth 100000
namespace TreeDefines
theorem run_3_2 : (p 3 2) = true := by kernel_rfl
theorem run_8_2 : (p 8 2) = true := by kernel_rfl
theorem run_13_2 : (p 13 2) = true := by kernel_rfl
end TreeDefines
end Go.Proofs.YtegimihckejnkaaDoor.Ab
