/- 'InterpFails' evaluated, part 10. Own work; no condition. -/
import Derived.Test.YtoaankpddboioaaGreatDoorRInterpFails
namespace Go.Proofs.YtoaankpddboioaaGreatDoor.Ab
open Go Go.AI
set_option maxRecDepth 100000
namespace InterpFails
theorem run_0_10 : (p 0 10) = true := by kernel_rfl
theorem run_1_8 : (p 1 8) = true := by kernel_rfl
theorem run_2_6 : (p 2 6) = true := by kernel_rfl
theorem run_3_4 : (p 3 4) = true := by kernel_rfl
theorem run_4_2 : (p 4 2) = true := by kernel_rfl
theorem run_5_0 : (p 5 0) = true := by kernel_rfl
theorem run_5_12 : (p 5 12) = true := by kernel_rfl
theorem run_6_10 : (p 6 10) = true := by kernel_rfl
theorem run_7_8 : (p 7 8) = true := by kernel_rfl
theorem run_8_6 : (p 8 6) = true := by kernel_rfl
theorem run_9_4 : (p 9 4) = true := by kernel_rfl
theorem run_10_2 : (p 10 2) = true := by kernel_rfl
theorem run_11_0 : (p 11 0) = true := by kernel_rfl
theorem run_11_12 : (p 11 12) = true := by kernel_rfl
end InterpFails
end Go.Proofs.YtoaankpddboioaaGreatDoor.Ab
