/- 'FitsNames' evaluated, part 3. Own work; no condition. -/
import Derived.Test.YtjpcafldmkffoaaDoorRFitsNames
namespace Go.Proofs.YtjpcafldmkffoaaDoor.Ab
open Go Go.AI
set_option maxRecDepth 100000
namespace FitsNames
theorem run_0_3 : (p 0 3 true && p 0 3 false) = true := by kernel_rfl
theorem run_0_8 : (p 0 8 true && p 0 8 false) = true := by kernel_rfl
theorem run_1_4 : (p 1 4 true && p 1 4 false) = true := by kernel_rfl
theorem run_2_0 : (p 2 0 true && p 2 0 false) = true := by kernel_rfl
theorem run_2_5 : (p 2 5 true && p 2 5 false) = true := by kernel_rfl
theorem run_3_1 : (p 3 1 true && p 3 1 false) = true := by kernel_rfl
theorem run_3_6 : (p 3 6 true && p 3 6 false) = true := by kernel_rfl
theorem run_4_2 : (p 4 2 true && p 4 2 false) = true := by kernel_rfl
theorem run_4_7 : (p 4 7 true && p 4 7 false) = true := by kernel_rfl
end FitsNames
end Go.Proofs.YtjpcafldmkffoaaDoor.Ab
