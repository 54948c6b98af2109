/- 'TreeActions' evaluated, part 4. Own work; no condition. -/
import Derived.Test.YtegimihckejnkaaDoorRTreeActions
namespace Go.Proofs.YtegimihckejnkaaDoor.Ab
open Go Go.AI
set_option maxRecDepth 100000
namespace TreeActions
theorem run_4 : (p 4) = true := by kernel_rfl
theorem run_10 : (p 10) = true := by kernel_rfl
theorem run_16 : (p 16) = true := by kernel_rfl
theorem run_22 : (p 22) = true := by kernel_rfl
end TreeActions
end Go.Proofs.YtegimihckejnkaaDoor.Ab
