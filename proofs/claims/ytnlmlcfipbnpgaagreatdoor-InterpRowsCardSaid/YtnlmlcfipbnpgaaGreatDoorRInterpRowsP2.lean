/- 'InterpRows' evaluated, part 2. Own work; no condition. -/
import Derived.Test.YtnlmlcfipbnpgaaGreatDoorRInterpRows
namespace Go.Proofs.YtnlmlcfipbnpgaaGreatDoor.Ab
open Go Go.AI
set_option maxRecDepth 100000
namespace InterpRows
theorem run_2 : (p 2) = true := by kernel_rfl
theorem run_7 : (p 7) = true := by kernel_rfl
theorem run_12 : (p 12) = true := by kernel_rfl
theorem run_17 : (p 17) = true := by kernel_rfl
theorem run_22 : (p 22) = true := by kernel_rfl
theorem run_27 : (p 27) = true := by kernel_rfl
theorem run_32 : (p 32) = true := by kernel_rfl
end InterpRows
end Go.Proofs.YtnlmlcfipbnpgaaGreatDoor.Ab
