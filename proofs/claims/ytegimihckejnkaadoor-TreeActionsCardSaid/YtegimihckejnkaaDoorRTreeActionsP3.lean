/- 'TreeActions' evaluated, part 3. Own work; no condition. -/
import Derived.Test.YtegimihckejnkaaDoorRTreeActions
namespace Go.Proofs.YtegimihckejnkaaDoor.Ab
open Go Go.AI
set_option maxRecDepth 100000
namespace TreeActions
theorem run_3 : (p 3) = true := by kernel_rfl
theorem run_9 : (p 9) = true := by kernel_rfl
theorem run_15 : (p 15) = true := by kernel_rfl
theorem run_21 : (p 21) = true := by kernel_rfl
end TreeActions
end Go.Proofs.YtegimihckejnkaaDoor.Ab
