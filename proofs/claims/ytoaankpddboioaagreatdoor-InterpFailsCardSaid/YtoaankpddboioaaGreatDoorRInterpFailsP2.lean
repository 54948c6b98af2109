/- 'InterpFails' evaluated, part 2. Own work; no condition. -/
import Derived.Test.YtoaankpddboioaaGreatDoorRInterpFails
namespace Go.Proofs.YtoaankpddboioaaGreatDoor.Ab
open Go Go.AI
set_option maxRecDepth 100000
namespace InterpFails
theorem run_0_2 : (p 0 2) = true := by kernel_rfl
theorem run_1_0 : (p 1 0) = true := by kernel_rfl
theorem run_1_12 : (p 1 12) = true := by kernel_rfl
theorem run_2_10 : (p 2 10) = true := by kernel_rfl
theorem run_3_8 : (p 3 8) = true := by kernel_rfl
theorem run_4_6 : (p 4 6) = true := by kernel_rfl
theorem run_5_4 : (p 5 4) = true := by kernel_rfl
theorem run_6_2 : (p 6 2) = true := by kernel_rfl
theorem run_7_0 : (p 7 0) = true := by kernel_rfl
theorem run_7_12 : (p 7 12) = true := by kernel_rfl
theorem run_8_10 : (p 8 10) = true := by kernel_rfl
theorem run_9_8 : (p 9 8) = true := by kernel_rfl
theorem run_10_6 : (p 10 6) = true := by kernel_rfl
theorem run_11_4 : (p 11 4) = true := by kernel_rfl
end InterpFails
end Go.Proofs.YtoaankpddboioaaGreatDoor.Ab
