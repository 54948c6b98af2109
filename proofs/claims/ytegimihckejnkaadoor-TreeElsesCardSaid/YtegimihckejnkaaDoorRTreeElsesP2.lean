/- 'TreeElses' evaluated, part 2. Own work; no condition. -/
import Derived.Test.YtegimihckejnkaaDoorRTreeElses
namespace Go.Proofs.YtegimihckejnkaaDoor.Ab
open Go Go.AI
set_option maxRecDepth 100000
namespace TreeElses
theorem run_2 : (p 2) = true := by kernel_rfl
theorem run_6 : (p 6) = true := by kernel_rfl
end TreeElses
end Go.Proofs.YtegimihckejnkaaDoor.Ab
