/- 'FitsKinds' evaluated, part 0. Own work; no condition. -/
import Derived.Test.YtjpcafldmkffoaaDoorRFitsKinds
namespace Go.Proofs.YtjpcafldmkffoaaDoor.Ab
open Go Go.AI
set_option maxRecDepth 100000
namespace FitsKinds
theorem run_0_0 : (p 0 0 true && p 0 0 false) = true := by kernel_rfl
theorem run_0_3 : (p 0 3 true && p 0 3 false) = true := by kernel_rfl
theorem run_0_6 : (p 0 6 true && p 0 6 false) = true := by kernel_rfl
theorem run_1_1 : (p 1 1 true && p 1 1 false) = true := by kernel_rfl
theorem run_1_4 : (p 1 4 true && p 1 4 false) = true := by kernel_rfl
theorem run_1_7 : (p 1 7 true && p 1 7 false) = true := by kernel_rfl
theorem run_2_2 : (p 2 2 true && p 2 2 false) = true := by kernel_rfl
theorem run_2_5 : (p 2 5 true && p 2 5 false) = true := by kernel_rfl
theorem run_3_0 : (p 3 0 true && p 3 0 false) = true := by kernel_rfl
theorem run_3_3 : (p 3 3 true && p 3 3 false) = true := by kernel_rfl
theorem run_3_6 : (p 3 6 true && p 3 6 false) = true := by kernel_rfl
theorem run_4_1 : (p 4 1 true && p 4 1 false) = true := by kernel_rfl
theorem run_4_4 : (p 4 4 true && p 4 4 false) = true := by kernel_rfl
theorem run_4_7 : (p 4 7 true && p 4 7 false) = true := by kernel_rfl
theorem run_5_2 : (p 5 2 true && p 5 2 false) = true := by kernel_rfl
theorem run_5_5 : (p 5 5 true && p 5 5 false) = true := by kernel_rfl
theorem run_6_0 : (p 6 0 true && p 6 0 false) = true := by kernel_rfl
theorem run_6_3 : (p 6 3 true && p 6 3 false) = true := by kernel_rfl
theorem run_6_6 : (p 6 6 true && p 6 6 false) = true := by kernel_rfl
end FitsKinds
end Go.Proofs.YtjpcafldmkffoaaDoor.Ab
