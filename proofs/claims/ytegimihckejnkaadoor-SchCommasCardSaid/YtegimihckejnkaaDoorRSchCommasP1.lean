/- 'SchCommas' evaluated, part 1. Own work; no condition. -/
import Derived.Test.YtegimihckejnkaaDoorRSchCommas
namespace Go.Proofs.YtegimihckejnkaaDoor.Ab
open Go Go.AI
set_option maxRecDepth 100000
namespace SchCommas
theorem run_0_1 : (p 0 1) = true := by kernel_rfl
theorem run_0_9 : (p 0 9) = true := by kernel_rfl
theorem run_1_4 : (p 1 4) = true := by kernel_rfl
theorem run_1_12 : (p 1 12) = true := by kernel_rfl
theorem run_2_7 : (p 2 7) = true := by kernel_rfl
theorem run_3_2 : (p 3 2) = true := by kernel_rfl
theorem run_3_10 : (p 3 10) = true := by kernel_rfl
theorem run_4_5 : (p 4 5) = true := by kernel_rfl
theorem run_5_0 : (p 5 0) = true := by kernel_rfl
theorem run_5_8 : (p 5 8) = true := by kernel_rfl
end SchCommas
end Go.Proofs.YtegimihckejnkaaDoor.Ab
