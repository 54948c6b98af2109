/- 'FitsNames' evaluated, part 0. Own work; no condition. -/
import Derived.Test.YtjpcafldmkffoaaDoorRFitsNames
namespace Go.Proofs.YtjpcafldmkffoaaDoor.Ab
open Go Go.AI
set_option maxRecDepth 100000
namespace FitsNames
theorem run_0_0 : (p 0 0 true && p 0 0 false) = true := by kernel_rfl
theorem run_0_5 : (p 0 5 true && p 0 5 false) = true := by kernel_rfl
theorem run_1_1 : (p 1 1 true && p 1 1 false) = true := by kernel_rfl
theorem run_1_6 : (p 1 6 true && p 1 6 false) = true := by kernel_rfl
theorem run_2_2 : (p 2 2 true && p 2 2 false) = true := by kernel_rfl
theorem run_2_7 : (p 2 7 true && p 2 7 false) = true := by kernel_rfl
theorem run_3_3 : (p 3 3 true && p 3 3 false) = true := by kernel_rfl
theorem run_3_8 : (p 3 8 true && p 3 8 false) = true := by kernel_rfl
theorem run_4_4 : (p 4 4 true && p 4 4 false) = true := by kernel_rfl
end FitsNames
end Go.Proofs.YtjpcafldmkffoaaDoor.Ab
