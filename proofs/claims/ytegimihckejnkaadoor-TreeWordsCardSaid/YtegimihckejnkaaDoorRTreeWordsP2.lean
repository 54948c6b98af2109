/- 'TreeWords' evaluated, part 2. Own work; no condition. -/
import Derived.Test.YtegimihckejnkaaDoorRTreeWords
namespace Go.Proofs.YtegimihckejnkaaDoor.Ab
open Go Go.AI
set_option maxRecDepth 100000
namespace TreeWords
theorem run_2 : (p 2) = true := by kernel_rfl
theorem run_6 : (p 6) = true := by kernel_rfl
theorem run_10 : (p 10) = true := by kernel_rfl
end TreeWords
end Go.Proofs.YtegimihckejnkaaDoor.Ab
