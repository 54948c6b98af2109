/- 'SchCommas' evaluated, part 5. Own work; no condition. -/
import Derived.Test.YtegimihckejnkaaDoorRSchCommas
namespace Go.Proofs.YtegimihckejnkaaDoor.Ab
open Go Go.AI
set_option maxRecDepth 100000
namespace SchCommas
theorem run_0_5 : (p 0 5) = true := by kernel_rfl
theorem run_1_0 : (p 1 0) = true := by kernel_rfl
theorem run_1_8 : (p 1 8) = true := by kernel_rfl
theorem run_2_3 : (p 2 3) = true := by kernel_rfl
theorem run_2_11 : (p 2 11) = true := by kernel_rfl
theorem run_3_6 : (p 3 6) = true := by kernel_rfl
theorem run_4_1 : (p 4 1) = true := by kernel_rfl
theorem run_4_9 : (p 4 9) = true := by kernel_rfl
theorem run_5_4 : (p 5 4) = true := by kernel_rfl
theorem run_5_12 : (p 5 12) = true := by kernel_rfl
end SchCommas
end Go.Proofs.YtegimihckejnkaaDoor.Ab
