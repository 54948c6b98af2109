/- 'InterpOrder' evaluated, part 0. Own work; no condition. -/
import Derived.Test.YtnlmlcfipbnpgaaGreatDoorRInterpOrder
namespace Go.Proofs.YtnlmlcfipbnpgaaGreatDoor.Ab
open Go Go.AI
set_option maxRecDepth 100000
namespace InterpOrder
theorem run_0 : (p 0) = true := by kernel_rfl
theorem run_3 : (p 3) = true := by kernel_rfl
theorem run_6 : (p 6) = true := by kernel_rfl
theorem run_9 : (p 9) = true := by kernel_rfl
end InterpOrder
end Go.Proofs.YtnlmlcfipbnpgaaGreatDoor.Ab
