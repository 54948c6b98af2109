/- 'TreeActions' evaluated, part 0. Own work; no condition. -/
import Derived.Test.YtegimihckejnkaaDoorRTreeActions
namespace Go.Proofs.YtegimihckejnkaaDoor.Ab
open Go Go.AI
set_option maxRecDepth 100000
namespace TreeActions
theorem run_0 : (p 0) = true := by kernel_rfl
theorem run_6 : (p 6) = true := by kernel_rfl
theorem run_12 : (p 12) = true := by kernel_rfl
theorem run_18 : (p 18) = true := by kernel_rfl
theorem run_24 : (p 24) = true := by kernel_rfl
end TreeActions
end Go.Proofs.YtegimihckejnkaaDoor.Ab
