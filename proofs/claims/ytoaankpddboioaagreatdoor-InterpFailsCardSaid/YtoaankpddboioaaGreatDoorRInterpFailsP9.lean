/- 'InterpFails' evaluated, part 9. Own work; no condition. -/
import Derived.Test.YtoaankpddboioaaGreatDoorRInterpFails
namespace Go.Proofs.YtoaankpddboioaaGreatDoor.Ab
open Go Go.AI
set_option maxRecDepth 100000
namespace InterpFails
theorem run_0_9 : (p 0 9) = true := by kernel_rfl
theorem run_1_7 : (p 1 7) = true := by kernel_rfl
theorem run_2_5 : (p 2 5) = true := by kernel_rfl
theorem run_3_3 : (p 3 3) = true := by kernel_rfl
theorem run_4_1 : (p 4 1) = true := by kernel_rfl
theorem run_4_13 : (p 4 13) = true := by kernel_rfl
theorem run_5_11 : (p 5 11) = true := by kernel_rfl
theorem run_6_9 : (p 6 9) = true := by kernel_rfl
theorem run_7_7 : (p 7 7) = true := by kernel_rfl
theorem run_8_5 : (p 8 5) = true := by kernel_rfl
theorem run_9_3 : (p 9 3) = true := by kernel_rfl
theorem run_10_1 : (p 10 1) = true := by kernel_rfl
theorem run_10_13 : (p 10 13) = true := by kernel_rfl
theorem run_11_11 : (p 11 11) = true := by kernel_rfl
end InterpFails
end Go.Proofs.YtoaankpddboioaaGreatDoor.Ab
