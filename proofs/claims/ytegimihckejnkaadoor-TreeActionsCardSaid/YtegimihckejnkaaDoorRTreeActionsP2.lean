/- 'TreeActions' evaluated, part 2. Own work; no condition. -/
import Derived.Test.YtegimihckejnkaaDoorRTreeActions
namespace Go.Proofs.YtegimihckejnkaaDoor.Ab
open Go Go.AI
set_option maxRecDepth 100000
namespace TreeActions
theorem run_2 : (p 2) = true := by kernel_rfl
theorem run_8 : (p 8) = true := by kernel_rfl
theorem run_14 : (p 14) = true := by kernel_rfl
theorem run_20 : (p 20) = true := by kernel_rfl
theorem run_26 : (p 26) = true := by kernel_rfl
end TreeActions
end Go.Proofs.YtegimihckejnkaaDoor.Ab
