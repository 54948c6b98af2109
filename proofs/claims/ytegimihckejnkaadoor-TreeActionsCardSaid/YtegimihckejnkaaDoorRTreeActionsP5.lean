/- 'TreeActions' evaluated, part 5. Own work; no condition. -/
import Derived.Test.YtegimihckejnkaaDoorRTreeActions
namespace Go.Proofs.YtegimihckejnkaaDoor.Ab
open Go Go.AI
set_option maxRecDepth 100000
namespace TreeActions
theorem run_5 : (p 5) = true := by kernel_rfl
theorem run_11 : (p 11) = true := by kernel_rfl
theorem run_17 : (p 17) = true := by kernel_rfl
theorem run_23 : (p 23) = true := by kernel_rfl
end TreeActions
end Go.Proofs.YtegimihckejnkaaDoor.Ab
