/- 'FitsNames' evaluated, part 2. Own work; no condition. -/
import Derived.Test.YtjpcafldmkffoaaDoorRFitsNames
namespace Go.Proofs.YtjpcafldmkffoaaDoor.Ab
open Go Go.AI
set_option maxRecDepth 100000
namespace FitsNames
theorem run_0_2 : (p 0 2 true && p 0 2 false) = true := by kernel_rfl
theorem run_0_7 : (p 0 7 true && p 0 7 false) = true := by kernel_rfl
theorem run_1_3 : (p 1 3 true && p 1 3 false) = true := by kernel_rfl
theorem run_1_8 : (p 1 8 true && p 1 8 false) = true := by kernel_rfl
theorem run_2_4 : (p 2 4 true && p 2 4 false) = true := by kernel_rfl
theorem run_3_0 : (p 3 0 true && p 3 0 false) = true := by kernel_rfl
theorem run_3_5 : (p 3 5 true && p 3 5 false) = true := by kernel_rfl
theorem run_4_1 : (p 4 1 true && p 4 1 false) = true := by kernel_rfl
theorem run_4_6 : (p 4 6 true && p 4 6 false) = true := by kernel_rfl
end FitsNames
end Go.Proofs.YtjpcafldmkffoaaDoor.Ab
