/- 'InterpFails' evaluated, part 0. Own work; no condition. -/
import Derived.Test.YtoaankpddboioaaGreatDoorRInterpFails
namespace Go.Proofs.YtoaankpddboioaaGreatDoor.Ab
open Go Go.AI
set_option maxRecDepth 100000
namespace InterpFails
theorem run_0_0 : (p 0 0) = true := by kernel_rfl
theorem run_0_12 : (p 0 12) = true := by kernel_rfl
theorem run_1_10 : (p 1 10) = true := by kernel_rfl
theorem run_2_8 : (p 2 8) = true := by kernel_rfl
theorem run_3_6 : (p 3 6) = true := by kernel_rfl
theorem run_4_4 : (p 4 4) = true := by kernel_rfl
theorem run_5_2 : (p 5 2) = true := by kernel_rfl
theorem run_6_0 : (p 6 0) = true := by kernel_rfl
theorem run_6_12 : (p 6 12) = true := by kernel_rfl
theorem run_7_10 : (p 7 10) = true := by kernel_rfl
theorem run_8_8 : (p 8 8) = true := by kernel_rfl
theorem run_9_6 : (p 9 6) = true := by kernel_rfl
theorem run_10_4 : (p 10 4) = true := by kernel_rfl
theorem run_11_2 : (p 11 2) = true := by kernel_rfl
end InterpFails
end Go.Proofs.YtoaankpddboioaaGreatDoor.Ab
