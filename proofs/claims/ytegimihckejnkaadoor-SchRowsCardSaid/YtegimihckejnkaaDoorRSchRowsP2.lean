/- 'SchRows' evaluated, part 2. Own work; no condition. -/
import Derived.Test.YtegimihckejnkaaDoorRSchRows
namespace Go.Proofs.YtegimihckejnkaaDoor.Ab
open Go Go.AI
set_option maxRecDepth 100000
namespace SchRows
theorem run_2 : (p 2) = true := by kernel_rfl
theorem run_5 : (p 5) = true := by kernel_rfl
theorem run_8 : (p 8) = true := by kernel_rfl
theorem run_11 : (p 11) = true := by kernel_rfl
theorem run_14 : (p 14) = true := by kernel_rfl
theorem run_17 : (p 17) = true := by kernel_rfl
end SchRows
end Go.Proofs.YtegimihckejnkaaDoor.Ab
