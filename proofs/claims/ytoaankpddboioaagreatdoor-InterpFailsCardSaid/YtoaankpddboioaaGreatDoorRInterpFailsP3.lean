/- 'InterpFails' evaluated, part 3. Own work; no condition. -/
import Derived.Test.YtoaankpddboioaaGreatDoorRInterpFails
namespace Go.Proofs.YtoaankpddboioaaGreatDoor.Ab
open Go Go.AI
set_option maxRecDepth 100000
namespace InterpFails
theorem run_0_3 : (p 0 3) = true := by kernel_rfl
theorem run_1_1 : (p 1 1) = true := by kernel_rfl
theorem run_1_13 : (p 1 13) = true := by kernel_rfl
theorem run_2_11 : (p 2 11) = true := by kernel_rfl
theorem run_3_9 : (p 3 9) = true := by kernel_rfl
theorem run_4_7 : (p 4 7) = true := by kernel_rfl
theorem run_5_5 : (p 5 5) = true := by kernel_rfl
theorem run_6_3 : (p 6 3) = true := by kernel_rfl
theorem run_7_1 : (p 7 1) = true := by kernel_rfl
theorem run_7_13 : (p 7 13) = true := by kernel_rfl
theorem run_8_11 : (p 8 11) = true := by kernel_rfl
theorem run_9_9 : (p 9 9) = true := by kernel_rfl
theorem run_10_7 : (p 10 7) = true := by kernel_rfl
theorem run_11_5 : (p 11 5) = true := by kernel_rfl
end InterpFails
end Go.Proofs.YtoaankpddboioaaGreatDoor.Ab
