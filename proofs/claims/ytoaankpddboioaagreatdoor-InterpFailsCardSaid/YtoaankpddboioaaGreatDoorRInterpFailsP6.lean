/- 'InterpFails' evaluated, part 6. Own work; no condition. -/
import Derived.Test.YtoaankpddboioaaGreatDoorRInterpFails
namespace Go.Proofs.YtoaankpddboioaaGreatDoor.Ab
open Go Go.AI
set_option maxRecDepth 100000
namespace InterpFails
theorem run_0_6 : (p 0 6) = true := by kernel_rfl
theorem run_1_4 : (p 1 4) = true := by kernel_rfl
theorem run_2_2 : (p 2 2) = true := by kernel_rfl
theorem run_3_0 : (p 3 0) = true := by kernel_rfl
theorem run_3_12 : (p 3 12) = true := by kernel_rfl
theorem run_4_10 : (p 4 10) = true := by kernel_rfl
theorem run_5_8 : (p 5 8) = true := by kernel_rfl
theorem run_6_6 : (p 6 6) = true := by kernel_rfl
theorem run_7_4 : (p 7 4) = true := by kernel_rfl
theorem run_8_2 : (p 8 2) = true := by kernel_rfl
theorem run_9_0 : (p 9 0) = true := by kernel_rfl
theorem run_9_12 : (p 9 12) = true := by kernel_rfl
theorem run_10_10 : (p 10 10) = true := by kernel_rfl
theorem run_11_8 : (p 11 8) = true := by kernel_rfl
end InterpFails
end Go.Proofs.YtoaankpddboioaaGreatDoor.Ab
