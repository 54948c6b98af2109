/- 'TreeElses' evaluated, part 1. Own work; no condition. -/
import Derived.Test.YtegimihckejnkaaDoorRTreeElses
namespace Go.Proofs.YtegimihckejnkaaDoor.Ab
open Go Go.AI
set_option maxRecDepth 100000
namespace TreeElses
theorem run_1 : (p 1) = true := by kernel_rfl
theorem run_5 : (p 5) = true := by kernel_rfl
theorem run_9 : (p 9) = true := by kernel_rfl
end TreeElses
end Go.Proofs.YtegimihckejnkaaDoor.Ab
