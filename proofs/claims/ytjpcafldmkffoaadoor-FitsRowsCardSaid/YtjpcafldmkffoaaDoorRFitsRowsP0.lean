/- 'FitsRows' evaluated, part 0. Own work; no condition. -/
import Derived.Test.YtjpcafldmkffoaaDoorRFitsRows
namespace Go.Proofs.YtjpcafldmkffoaaDoor.Ab
open Go Go.AI
set_option maxRecDepth 100000
namespace FitsRows
theorem run_0 : (p 0) = true := by kernel_rfl
theorem run_2 : (p 2) = true := by kernel_rfl
theorem run_4 : (p 4) = true := by kernel_rfl
theorem run_6 : (p 6) = true := by kernel_rfl
theorem run_8 : (p 8) = true := by kernel_rfl
theorem run_10 : (p 10) = true := by kernel_rfl
theorem run_12 : (p 12) = true := by kernel_rfl
theorem run_14 : (p 14) = true := by kernel_rfl
end FitsRows
end Go.Proofs.YtjpcafldmkffoaaDoor.Ab
