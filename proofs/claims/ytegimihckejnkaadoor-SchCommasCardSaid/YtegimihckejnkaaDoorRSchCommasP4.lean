/- 'SchCommas' evaluated, part 4. Own work; no condition. -/
import Derived.Test.YtegimihckejnkaaDoorRSchCommas
namespace Go.Proofs.YtegimihckejnkaaDoor.Ab
open Go Go.AI
set_option maxRecDepth 100000
namespace SchCommas
theorem run_0_4 : (p 0 4) = true := by kernel_rfl
theorem run_0_12 : (p 0 12) = true := by kernel_rfl
theorem run_1_7 : (p 1 7) = true := by kernel_rfl
theorem run_2_2 : (p 2 2) = true := by kernel_rfl
theorem run_2_10 : (p 2 10) = true := by kernel_rfl
theorem run_3_5 : (p 3 5) = true := by kernel_rfl
theorem run_4_0 : (p 4 0) = true := by kernel_rfl
theorem run_4_8 : (p 4 8) = true := by kernel_rfl
theorem run_5_3 : (p 5 3) = true := by kernel_rfl
theorem run_5_11 : (p 5 11) = true := by kernel_rfl
end SchCommas
end Go.Proofs.YtegimihckejnkaaDoor.Ab
