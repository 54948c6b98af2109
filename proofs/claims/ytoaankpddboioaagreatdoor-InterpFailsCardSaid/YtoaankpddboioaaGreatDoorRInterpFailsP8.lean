/- 'InterpFails' evaluated, part 8. Own work; no condition. -/
import Derived.Test.YtoaankpddboioaaGreatDoorRInterpFails
namespace Go.Proofs.YtoaankpddboioaaGreatDoor.Ab
open Go Go.AI
set_option maxRecDepth 100000
namespace InterpFails
theorem run_0_8 : (p 0 8) = true := by kernel_rfl
theorem run_1_6 : (p 1 6) = true := by kernel_rfl
theorem run_2_4 : (p 2 4) = true := by kernel_rfl
theorem run_3_2 : (p 3 2) = true := by kernel_rfl
theorem run_4_0 : (p 4 0) = true := by kernel_rfl
theorem run_4_12 : (p 4 12) = true := by kernel_rfl
theorem run_5_10 : (p 5 10) = true := by kernel_rfl
theorem run_6_8 : (p 6 8) = true := by kernel_rfl
theorem run_7_6 : (p 7 6) = true := by kernel_rfl
theorem run_8_4 : (p 8 4) = true := by kernel_rfl
theorem run_9_2 : (p 9 2) = true := by kernel_rfl
theorem run_10_0 : (p 10 0) = true := by kernel_rfl
theorem run_10_12 : (p 10 12) = true := by kernel_rfl
theorem run_11_10 : (p 11 10) = true := by kernel_rfl
end InterpFails
end Go.Proofs.YtoaankpddboioaaGreatDoor.Ab
