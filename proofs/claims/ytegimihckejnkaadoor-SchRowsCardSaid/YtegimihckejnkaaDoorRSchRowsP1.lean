/- 'SchRows' evaluated, part 1. Own work; no condition. -/
import Derived.Test.YtegimihckejnkaaDoorRSchRows
namespace Go.Proofs.YtegimihckejnkaaDoor.Ab
open Go Go.AI
set_option maxRecDepth 100000
namespace SchRows
theorem run_1 : (p 1) = true := by kernel_rfl
theorem run_4 : (p 4) = true := by kernel_rfl
theorem run_7 : (p 7) = true := by kernel_rfl
theorem run_10 : (p 10) = true := by kernel_rfl
theorem run_13 : (p 13) = true := by kernel_rfl
theorem run_16 : (p 16) = true := by kernel_rfl
end SchRows
end Go.Proofs.YtegimihckejnkaaDoor.Ab
