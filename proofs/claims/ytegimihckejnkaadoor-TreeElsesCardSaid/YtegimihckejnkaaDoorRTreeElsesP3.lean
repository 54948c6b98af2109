/- 'TreeElses' evaluated, part 3. Own work; no condition. -/
import Derived.Test.YtegimihckejnkaaDoorRTreeElses
namespace Go.Proofs.YtegimihckejnkaaDoor.Ab
open Go Go.AI
set_option maxRecDepth 100000
namespace TreeElses
theorem run_3 : (p 3) = true := by kernel_rfl
theorem run_7 : (p 7) = true := by kernel_rfl
end TreeElses
end Go.Proofs.YtegimihckejnkaaDoor.Ab
