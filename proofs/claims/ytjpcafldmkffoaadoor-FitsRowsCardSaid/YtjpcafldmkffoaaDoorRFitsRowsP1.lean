/- 'FitsRows' evaluated, part 1. Own work; no condition. -/
import Derived.Test.YtjpcafldmkffoaaDoorRFitsRows
namespace Go.Proofs.YtjpcafldmkffoaaDoor.Ab
open Go Go.AI
set_option maxRecDepth 100000
namespace FitsRows
theorem run_1 : (p 1) = true := by kernel_rfl
theorem run_3 : (p 3) = true := by kernel_rfl
theorem run_5 : (p 5) = true := by kernel_rfl
theorem run_7 : (p 7) = true := by kernel_rfl
theorem run_9 : (p 9) = true := by kernel_rfl
theorem run_11 : (p 11) = true := by kernel_rfl
theorem run_13 : (p 13) = true := by kernel_rfl
theorem run_15 : (p 15) = true := by kernel_rfl
end FitsRows
end Go.Proofs.YtjpcafldmkffoaaDoor.Ab
