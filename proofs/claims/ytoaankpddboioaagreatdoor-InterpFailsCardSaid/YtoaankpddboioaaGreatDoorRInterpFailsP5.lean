/- 'InterpFails' evaluated, part 5. Own work; no condition. -/
import Derived.Test.YtoaankpddboioaaGreatDoorRInterpFails
namespace Go.Proofs.YtoaankpddboioaaGreatDoor.Ab
open Go Go.AI
set_option maxRecDepth 100000
namespace InterpFails
theorem run_0_5 : (p 0 5) = true := by kernel_rfl
theorem run_1_3 : (p 1 3) = true := by kernel_rfl
theorem run_2_1 : (p 2 1) = true := by kernel_rfl
theorem run_2_13 : (p 2 13) = true := by kernel_rfl
theorem run_3_11 : (p 3 11) = true := by kernel_rfl
theorem run_4_9 : (p 4 9) = true := by kernel_rfl
theorem run_5_7 : (p 5 7) = true := by kernel_rfl
theorem run_6_5 : (p 6 5) = true := by kernel_rfl
theorem run_7_3 : (p 7 3) = true := by kernel_rfl
theorem run_8_1 : (p 8 1) = true := by kernel_rfl
theorem run_8_13 : (p 8 13) = true := by kernel_rfl
theorem run_9_11 : (p 9 11) = true := by kernel_rfl
theorem run_10_9 : (p 10 9) = true := by kernel_rfl
theorem run_11_7 : (p 11 7) = true := by kernel_rfl
end InterpFails
end Go.Proofs.YtoaankpddboioaaGreatDoor.Ab
