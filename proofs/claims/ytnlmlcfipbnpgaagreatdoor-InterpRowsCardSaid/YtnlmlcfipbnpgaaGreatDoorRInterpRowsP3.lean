/- 'InterpRows' evaluated, part 3. Own work; no condition. -/
import Derived.Test.YtnlmlcfipbnpgaaGreatDoorRInterpRows
namespace Go.Proofs.YtnlmlcfipbnpgaaGreatDoor.Ab
open Go Go.AI
set_option maxRecDepth 100000
namespace InterpRows
theorem run_3 : (p 3) = true := by kernel_rfl
theorem run_8 : (p 8) = true := by kernel_rfl
theorem run_13 : (p 13) = true := by kernel_rfl
theorem run_18 : (p 18) = true := by kernel_rfl
theorem run_23 : (p 23) = true := by kernel_rfl
theorem run_28 : (p 28) = true := by kernel_rfl
end InterpRows
end Go.Proofs.YtnlmlcfipbnpgaaGreatDoor.Ab
