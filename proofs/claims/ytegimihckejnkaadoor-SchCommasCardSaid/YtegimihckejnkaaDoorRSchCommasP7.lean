/- 'SchCommas' evaluated, part 7. Own work; no condition. -/
import Derived.Test.YtegimihckejnkaaDoorRSchCommas
namespace Go.Proofs.YtegimihckejnkaaDoor.Ab
open Go Go.AI
set_option maxRecDepth 100000
namespace SchCommas
theorem run_0_7 : (p 0 7) = true := by kernel_rfl
theorem run_1_2 : (p 1 2) = true := by kernel_rfl
theorem run_1_10 : (p 1 10) = true := by kernel_rfl
theorem run_2_5 : (p 2 5) = true := by kernel_rfl
theorem run_3_0 : (p 3 0) = true := by kernel_rfl
theorem run_3_8 : (p 3 8) = true := by kernel_rfl
theorem run_4_3 : (p 4 3) = true := by kernel_rfl
theorem run_4_11 : (p 4 11) = true := by kernel_rfl
theorem run_5_6 : (p 5 6) = true := by kernel_rfl
end SchCommas
end Go.Proofs.YtegimihckejnkaaDoor.Ab
