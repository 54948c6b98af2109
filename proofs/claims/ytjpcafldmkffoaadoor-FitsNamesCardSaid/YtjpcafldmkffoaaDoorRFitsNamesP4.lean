/- 'FitsNames' evaluated, part 4. Own work; no condition. -/
import Derived.Test.YtjpcafldmkffoaaDoorRFitsNames
namespace Go.Proofs.YtjpcafldmkffoaaDoor.Ab
open Go Go.AI
set_option maxRecDepth 100000
namespace FitsNames
theorem run_0_4 : (p 0 4 true && p 0 4 false) = true := by kernel_rfl
theorem run_1_0 : (p 1 0 true && p 1 0 false) = true := by kernel_rfl
theorem run_1_5 : (p 1 5 true && p 1 5 false) = true := by kernel_rfl
theorem run_2_1 : (p 2 1 true && p 2 1 false) = true := by kernel_rfl
theorem run_2_6 : (p 2 6 true && p 2 6 false) = true := by kernel_rfl
theorem run_3_2 : (p 3 2 true && p 3 2 false) = true := by kernel_rfl
theorem run_3_7 : (p 3 7 true && p 3 7 false) = true := by kernel_rfl
theorem run_4_3 : (p 4 3 true && p 4 3 false) = true := by kernel_rfl
theorem run_4_8 : (p 4 8 true && p 4 8 false) = true := by kernel_rfl
end FitsNames
end Go.Proofs.YtjpcafldmkffoaaDoor.Ab
