/- 'FitsKinds' evaluated, part 2. Own work; no condition. -/
import Derived.Test.YtjpcafldmkffoaaDoorRFitsKinds
namespace Go.Proofs.YtjpcafldmkffoaaDoor.Ab
open Go Go.AI
set_option maxRecDepth 100000
namespace FitsKinds
theorem run_0_2 : (p 0 2 true && p 0 2 false) = true := by kernel_rfl
theorem run_0_5 : (p 0 5 true && p 0 5 false) = true := by kernel_rfl
theorem run_1_0 : (p 1 0 true && p 1 0 false) = true := by kernel_rfl
theorem run_1_3 : (p 1 3 true && p 1 3 false) = true := by kernel_rfl
theorem run_1_6 : (p 1 6 true && p 1 6 false) = true := by kernel_rfl
theorem run_2_1 : (p 2 1 true && p 2 1 false) = true := by kernel_rfl
theorem run_2_4 : (p 2 4 true && p 2 4 false) = true := by kernel_rfl
theorem run_2_7 : (p 2 7 true && p 2 7 false) = true := by kernel_rfl
theorem run_3_2 : (p 3 2 true && p 3 2 false) = true := by kernel_rfl
theorem run_3_5 : (p 3 5 true && p 3 5 false) = true := by kernel_rfl
theorem run_4_0 : (p 4 0 true && p 4 0 false) = true := by kernel_rfl
theorem run_4_3 : (p 4 3 true && p 4 3 false) = true := by kernel_rfl
theorem run_4_6 : (p 4 6 true && p 4 6 false) = true := by kernel_rfl
theorem run_5_1 : (p 5 1 true && p 5 1 false) = true := by kernel_rfl
theorem run_5_4 : (p 5 4 true && p 5 4 false) = true := by kernel_rfl
theorem run_5_7 : (p 5 7 true && p 5 7 false) = true := by kernel_rfl
theorem run_6_2 : (p 6 2 true && p 6 2 false) = true := by kernel_rfl
theorem run_6_5 : (p 6 5 true && p 6 5 false) = true := by kernel_rfl
end FitsKinds
end Go.Proofs.YtjpcafldmkffoaaDoor.Ab
