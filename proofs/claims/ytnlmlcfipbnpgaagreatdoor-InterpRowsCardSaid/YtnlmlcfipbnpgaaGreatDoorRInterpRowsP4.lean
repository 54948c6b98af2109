/- 'InterpRows' evaluated, part 4. Own work; no condition. -/
import Derived.Test.YtnlmlcfipbnpgaaGreatDoorRInterpRows
namespace Go.Proofs.YtnlmlcfipbnpgaaGreatDoor.Ab
open Go Go.AI
set_option maxRecDepth 100000
namespace InterpRows
theorem run_4 : (p 4) = true := by kernel_rfl
theorem run_9 : (p 9) = true := by kernel_rfl
theorem run_14 : (p 14) = true := by kernel_rfl
theorem run_19 : (p 19) = true := by kernel_rfl
theorem run_24 : (p 24) = true := by kernel_rfl
theorem run_29 : (p 29) = true := by kernel_rfl
end InterpRows
end Go.Proofs.YtnlmlcfipbnpgaaGreatDoor.Ab
