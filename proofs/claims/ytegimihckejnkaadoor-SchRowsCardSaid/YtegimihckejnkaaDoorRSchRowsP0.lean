/- 'SchRows' evaluated, part 0. Own work; no condition. -/
import Derived.Test.YtegimihckejnkaaDoorRSchRows
namespace Go.Proofs.YtegimihckejnkaaDoor.Ab
open Go Go.AI
set_option maxRecDepth 100000
namespace SchRows
theorem run_0 : (p 0) = true := by kernel_rfl
theorem run_3 : (p 3) = true := by kernel_rfl
theorem run_6 : (p 6) = true := by kernel_rfl
theorem run_9 : (p 9) = true := by kernel_rfl
theorem run_12 : (p 12) = true := by kernel_rfl
theorem run_15 : (p 15) = true := by kernel_rfl
end SchRows
end Go.Proofs.YtegimihckejnkaaDoor.Ab
