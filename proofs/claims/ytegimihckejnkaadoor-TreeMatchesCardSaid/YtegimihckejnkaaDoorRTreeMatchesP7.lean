/- 'TreeMatches' evaluated, part 7. Own work; no condition. -/
import Derived.Test.YtegimihckejnkaaDoorRTreeMatches
namespace Go.Proofs.YtegimihckejnkaaDoor.Ab
open Go Go.AI
set_option maxRecDepth 100000
namespace TreeMatches
theorem run_7 : (((List.range 6).all fun r1 => p 7 r1)) = true := by kernel_rfl
end TreeMatches
end Go.Proofs.YtegimihckejnkaaDoor.Ab
