/- 'TreeActions' evaluated, part 1. Own work; no condition. -/
import Derived.Test.YtegimihckejnkaaDoorRTreeActions
namespace Go.Proofs.YtegimihckejnkaaDoor.Ab
open Go Go.AI
set_option maxRecDepth 100000
namespace TreeActions
theorem run_1 : (p 1) = true := by kernel_rfl
theorem run_7 : (p 7) = true := by kernel_rfl
theorem run_13 : (p 13) = true := by kernel_rfl
theorem run_19 : (p 19) = true := by kernel_rfl
theorem run_25 : (p 25) = true := by kernel_rfl
end TreeActions
end Go.Proofs.YtegimihckejnkaaDoor.Ab
