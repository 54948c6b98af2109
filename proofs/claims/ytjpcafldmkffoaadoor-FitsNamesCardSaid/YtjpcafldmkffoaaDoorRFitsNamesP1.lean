/- 'FitsNames' evaluated, part 1. Own work; no condition. -/
import Derived.Test.YtjpcafldmkffoaaDoorRFitsNames
namespace Go.Proofs.YtjpcafldmkffoaaDoor.Ab
open Go Go.AI
set_option maxRecDepth 100000
namespace FitsNames
theorem run_0_1 : (p 0 1 true && p 0 1 false) = true := by kernel_rfl
theorem run_0_6 : (p 0 6 true && p 0 6 false) = true := by kernel_rfl
theorem run_1_2 : (p 1 2 true && p 1 2 false) = true := by kernel_rfl
theorem run_1_7 : (p 1 7 true && p 1 7 false) = true := by kernel_rfl
theorem run_2_3 : (p 2 3 true && p 2 3 false) = true := by kernel_rfl
theorem run_2_8 : (p 2 8 true && p 2 8 false) = true := by kernel_rfl
theorem run_3_4 : (p 3 4 true && p 3 4 false) = true := by kernel_rfl
theorem run_4_0 : (p 4 0 true && p 4 0 false) = true := by kernel_rfl
theorem run_4_5 : (p 4 5 true && p 4 5 false) = true := by kernel_rfl
end FitsNames
end Go.Proofs.YtjpcafldmkffoaaDoor.Ab
