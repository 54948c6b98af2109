/- 'InterpFails' evaluated, part 4. Own work; no condition. -/
import Derived.Test.YtoaankpddboioaaGreatDoorRInterpFails
namespace Go.Proofs.YtoaankpddboioaaGreatDoor.Ab
open Go Go.AI
set_option maxRecDepth 100000
namespace InterpFails
theorem run_0_4 : (p 0 4) = true := by kernel_rfl
theorem run_1_2 : (p 1 2) = true := by kernel_rfl
theorem run_2_0 : (p 2 0) = true := by kernel_rfl
theorem run_2_12 : (p 2 12) = true := by kernel_rfl
theorem run_3_10 : (p 3 10) = true := by kernel_rfl
theorem run_4_8 : (p 4 8) = true := by kernel_rfl
theorem run_5_6 : (p 5 6) = true := by kernel_rfl
theorem run_6_4 : (p 6 4) = true := by kernel_rfl
theorem run_7_2 : (p 7 2) = true := by kernel_rfl
theorem run_8_0 : (p 8 0) = true := by kernel_rfl
theorem run_8_12 : (p 8 12) = true := by kernel_rfl
theorem run_9_10 : (p 9 10) = true := by kernel_rfl
theorem run_10_8 : (p 10 8) = true := by kernel_rfl
theorem run_11_6 : (p 11 6) = true := by kernel_rfl
end InterpFails
end Go.Proofs.YtoaankpddboioaaGreatDoor.Ab
