/- 'SchCommas' evaluated, part 2. Own work; no condition. -/
import Derived.Test.YtegimihckejnkaaDoorRSchCommas
namespace Go.Proofs.YtegimihckejnkaaDoor.Ab
open Go Go.AI
set_option maxRecDepth 100000
namespace SchCommas
theorem run_0_2 : (p 0 2) = true := by kernel_rfl
theorem run_0_10 : (p 0 10) = true := by kernel_rfl
theorem run_1_5 : (p 1 5) = true := by kernel_rfl
theorem run_2_0 : (p 2 0) = true := by kernel_rfl
theorem run_2_8 : (p 2 8) = true := by kernel_rfl
theorem run_3_3 : (p 3 3) = true := by kernel_rfl
theorem run_3_11 : (p 3 11) = true := by kernel_rfl
theorem run_4_6 : (p 4 6) = true := by kernel_rfl
theorem run_5_1 : (p 5 1) = true := by kernel_rfl
theorem run_5_9 : (p 5 9) = true := by kernel_rfl
end SchCommas
end Go.Proofs.YtegimihckejnkaaDoor.Ab
