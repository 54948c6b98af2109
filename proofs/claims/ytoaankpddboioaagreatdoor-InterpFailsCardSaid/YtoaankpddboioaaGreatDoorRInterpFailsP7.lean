/- 'InterpFails' evaluated, part 7. Own work; no condition. -/
import Derived.Test.YtoaankpddboioaaGreatDoorRInterpFails
namespace Go.Proofs.YtoaankpddboioaaGreatDoor.Ab
open Go Go.AI
set_option maxRecDepth 100000
namespace InterpFails
theorem run_0_7 : (p 0 7) = true := by kernel_rfl
theorem run_1_5 : (p 1 5) = true := by kernel_rfl
theorem run_2_3 : (p 2 3) = true := by kernel_rfl
theorem run_3_1 : (p 3 1) = true := by kernel_rfl
theorem run_3_13 : (p 3 13) = true := by kernel_rfl
theorem run_4_11 : (p 4 11) = true := by kernel_rfl
theorem run_5_9 : (p 5 9) = true := by kernel_rfl
theorem run_6_7 : (p 6 7) = true := by kernel_rfl
theorem run_7_5 : (p 7 5) = true := by kernel_rfl
theorem run_8_3 : (p 8 3) = true := by kernel_rfl
theorem run_9_1 : (p 9 1) = true := by kernel_rfl
theorem run_9_13 : (p 9 13) = true := by kernel_rfl
theorem run_10_11 : (p 10 11) = true := by kernel_rfl
theorem run_11_9 : (p 11 9) = true := by kernel_rfl
end InterpFails
end Go.Proofs.YtoaankpddboioaaGreatDoor.Ab
