/- 'SchCommas' evaluated, part 3. Own work; no condition. -/
import Derived.Test.YtegimihckejnkaaDoorRSchCommas
namespace Go.Proofs.YtegimihckejnkaaDoor.Ab
open Go Go.AI
set_option maxRecDepth 100000
namespace SchCommas
theorem run_0_3 : (p 0 3) = true := by kernel_rfl
theorem run_0_11 : (p 0 11) = true := by kernel_rfl
theorem run_1_6 : (p 1 6) = true := by kernel_rfl
theorem run_2_1 : (p 2 1) = true := by kernel_rfl
theorem run_2_9 : (p 2 9) = true := by kernel_rfl
theorem run_3_4 : (p 3 4) = true := by kernel_rfl
theorem run_3_12 : (p 3 12) = true := by kernel_rfl
theorem run_4_7 : (p 4 7) = true := by kernel_rfl
theorem run_5_2 : (p 5 2) = true := by kernel_rfl
theorem run_5_10 : (p 5 10) = true := by kernel_rfl
end SchCommas
end Go.Proofs.YtegimihckejnkaaDoor.Ab
