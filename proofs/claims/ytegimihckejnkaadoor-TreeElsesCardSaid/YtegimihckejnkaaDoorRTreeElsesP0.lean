/- 'TreeElses' evaluated, part 0. Own work; no condition. -/
import Derived.Test.YtegimihckejnkaaDoorRTreeElses
namespace Go.Proofs.YtegimihckejnkaaDoor.Ab
open Go Go.AI
set_option maxRecDepth 100000
namespace TreeElses
theorem run_0 : (p 0) = true := by kernel_rfl
theorem run_4 : (p 4) = true := by kernel_rfl
theorem run_8 : (p 8) = true := by kernel_rfl
end TreeElses
end Go.Proofs.YtegimihckejnkaaDoor.Ab
