/- 'SchCommas' evaluated, part 0. Own work; no condition. -/
import Derived.Test.YtegimihckejnkaaDoorRSchCommas
namespace Go.Proofs.YtegimihckejnkaaDoor.Ab
open Go Go.AI
set_option maxRecDepth 100000
namespace SchCommas
theorem run_0_0 : (p 0 0) = true := by kernel_rfl
theorem run_0_8 : (p 0 8) = true := by kernel_rfl
theorem run_1_3 : (p 1 3) = true := by kernel_rfl
theorem run_1_11 : (p 1 11) = true := by kernel_rfl
theorem run_2_6 : (p 2 6) = true := by kernel_rfl
theorem run_3_1 : (p 3 1) = true := by kernel_rfl
theorem run_3_9 : (p 3 9) = true := by kernel_rfl
theorem run_4_4 : (p 4 4) = true := by kernel_rfl
theorem run_4_12 : (p 4 12) = true := by kernel_rfl
theorem run_5_7 : (p 5 7) = true := by kernel_rfl
end SchCommas
end Go.Proofs.YtegimihckejnkaaDoor.Ab
