/- 'InterpOrder' evaluated, part 1. Own work; no condition. -/
import Derived.Test.YtnlmlcfipbnpgaaGreatDoorRInterpOrder
namespace Go.Proofs.YtnlmlcfipbnpgaaGreatDoor.Ab
open Go Go.AI
set_option maxRecDepth 100000
namespace InterpOrder
theorem run_1 : (p 1) = true := by kernel_rfl
theorem run_4 : (p 4) = true := by kernel_rfl
theorem run_7 : (p 7) = true := by kernel_rfl
end InterpOrder
end Go.Proofs.YtnlmlcfipbnpgaaGreatDoor.Ab
