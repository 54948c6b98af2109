/- 'SchCommas' evaluated, part 6. Own work; no condition. -/
import Derived.Test.YtegimihckejnkaaDoorRSchCommas
namespace Go.Proofs.YtegimihckejnkaaDoor.Ab
open Go Go.AI
set_option maxRecDepth 100000
namespace SchCommas
theorem run_0_6 : (p 0 6) = true := by kernel_rfl
theorem run_1_1 : (p 1 1) = true := by kernel_rfl
theorem run_1_9 : (p 1 9) = true := by kernel_rfl
theorem run_2_4 : (p 2 4) = true := by kernel_rfl
theorem run_2_12 : (p 2 12) = true := by kernel_rfl
theorem run_3_7 : (p 3 7) = true := by kernel_rfl
theorem run_4_2 : (p 4 2) = true := by kernel_rfl
theorem run_4_10 : (p 4 10) = true := by kernel_rfl
theorem run_5_5 : (p 5 5) = true := by kernel_rfl
end SchCommas
end Go.Proofs.YtegimihckejnkaaDoor.Ab
