/- 'InterpFails' evaluated, part 1. Own work; no condition. -/
import Derived.Test.YtoaankpddboioaaGreatDoorRInterpFails
namespace Go.Proofs.YtoaankpddboioaaGreatDoor.Ab
open Go Go.AI
set_option maxRecDepth 100000
namespace InterpFails
theorem run_0_1 : (p 0 1) = true := by kernel_rfl
theorem run_0_13 : (p 0 13) = true := by kernel_rfl
theorem run_1_11 : (p 1 11) = true := by kernel_rfl
theorem run_2_9 : (p 2 9) = true := by kernel_rfl
theorem run_3_7 : (p 3 7) = true := by kernel_rfl
theorem run_4_5 : (p 4 5) = true := by kernel_rfl
theorem run_5_3 : (p 5 3) = true := by kernel_rfl
theorem run_6_1 : (p 6 1) = true := by kernel_rfl
theorem run_6_13 : (p 6 13) = true := by kernel_rfl
theorem run_7_11 : (p 7 11) = true := by kernel_rfl
theorem run_8_9 : (p 8 9) = true := by kernel_rfl
theorem run_9_7 : (p 9 7) = true := by kernel_rfl
theorem run_10_5 : (p 10 5) = true := by kernel_rfl
theorem run_11_3 : (p 11 3) = true := by kernel_rfl
end InterpFails
end Go.Proofs.YtoaankpddboioaaGreatDoor.Ab
