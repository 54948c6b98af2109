/- 'TreeWords' evaluated, part 3. Own work; no condition. -/
import Derived.Test.YtegimihckejnkaaDoorRTreeWords
namespace Go.Proofs.YtegimihckejnkaaDoor.Ab
open Go Go.AI
set_option maxRecDepth 100000
namespace TreeWords
theorem run_3 : (p 3) = true := by kernel_rfl
theorem run_7 : (p 7) = true := by kernel_rfl
end TreeWords
end Go.Proofs.YtegimihckejnkaaDoor.Ab
