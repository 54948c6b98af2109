/- 'FitsKinds' evaluated, part 1. Own work; no condition. -/
import Derived.Test.YtjpcafldmkffoaaDoorRFitsKinds
namespace Go.Proofs.YtjpcafldmkffoaaDoor.Ab
open Go Go.AI
set_option maxRecDepth 100000
namespace FitsKinds
theorem run_0_1 : (p 0 1 true && p 0 1 false) = true := by kernel_rfl
theorem run_0_4 : (p 0 4 true && p 0 4 false) = true := by kernel_rfl
theorem run_0_7 : (p 0 7 true && p 0 7 false) = true := by kernel_rfl
theorem run_1_2 : (p 1 2 true && p 1 2 false) = true := by kernel_rfl
theorem run_1_5 : (p 1 5 true && p 1 5 false) = true := by kernel_rfl
theorem run_2_0 : (p 2 0 true && p 2 0 false) = true := by kernel_rfl
theorem run_2_3 : (p 2 3 true && p 2 3 false) = true := by kernel_rfl
theorem run_2_6 : (p 2 6 true && p 2 6 false) = true := by kernel_rfl
theorem run_3_1 : (p 3 1 true && p 3 1 false) = true := by kernel_rfl
theorem run_3_4 : (p 3 4 true && p 3 4 false) = true := by kernel_rfl
theorem run_3_7 : (p 3 7 true && p 3 7 false) = true := by kernel_rfl
theorem run_4_2 : (p 4 2 true && p 4 2 false) = true := by kernel_rfl
theorem run_4_5 : (p 4 5 true && p 4 5 false) = true := by kernel_rfl
theorem run_5_0 : (p 5 0 true && p 5 0 false) = true := by kernel_rfl
theorem run_5_3 : (p 5 3 true && p 5 3 false) = true := by kernel_rfl
theorem run_5_6 : (p 5 6 true && p 5 6 false) = true := by kernel_rfl
theorem run_6_1 : (p 6 1 true && p 6 1 false) = true := by kernel_rfl
theorem run_6_4 : (p 6 4 true && p 6 4 false) = true := by kernel_rfl
theorem run_6_7 : (p 6 7 true && p 6 7 false) = true := by kernel_rfl
end FitsKinds
end Go.Proofs.YtjpcafldmkffoaaDoor.Ab
