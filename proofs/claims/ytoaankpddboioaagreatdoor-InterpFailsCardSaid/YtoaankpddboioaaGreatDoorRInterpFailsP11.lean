/- 'InterpFails' evaluated, part 11. Own work; no condition. -/
import Derived.Test.YtoaankpddboioaaGreatDoorRInterpFails
namespace Go.Proofs.YtoaankpddboioaaGreatDoor.Ab
open Go Go.AI
set_option maxRecDepth 100000
namespace InterpFails
theorem run_0_11 : (p 0 11) = true := by kernel_rfl
theorem run_1_9 : (p 1 9) = true := by kernel_rfl
theorem run_2_7 : (p 2 7) = true := by kernel_rfl
theorem run_3_5 : (p 3 5) = true := by kernel_rfl
theorem run_4_3 : (p 4 3) = true := by kernel_rfl
theorem run_5_1 : (p 5 1) = true := by kernel_rfl
theorem run_5_13 : (p 5 13) = true := by kernel_rfl
theorem run_6_11 : (p 6 11) = true := by kernel_rfl
theorem run_7_9 : (p 7 9) = true := by kernel_rfl
theorem run_8_7 : (p 8 7) = true := by kernel_rfl
theorem run_9_5 : (p 9 5) = true := by kernel_rfl
theorem run_10_3 : (p 10 3) = true := by kernel_rfl
theorem run_11_1 : (p 11 1) = true := by kernel_rfl
theorem run_11_13 : (p 11 13) = true := by kernel_rfl
end InterpFails
end Go.Proofs.YtoaankpddboioaaGreatDoor.Ab
