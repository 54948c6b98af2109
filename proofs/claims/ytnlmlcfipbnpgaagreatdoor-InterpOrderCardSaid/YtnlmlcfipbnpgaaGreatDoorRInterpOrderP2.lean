/- 'InterpOrder' evaluated, part 2. Own work; no condition. -/
import Derived.Test.YtnlmlcfipbnpgaaGreatDoorRInterpOrder
namespace Go.Proofs.YtnlmlcfipbnpgaaGreatDoor.Ab
open Go Go.AI
set_option maxRecDepth 100000
namespace InterpOrder
theorem run_2 : (p 2) = true := by kernel_rfl
theorem run_5 : (p 5) = true := by kernel_rfl
theorem run_8 : (p 8) = true := by kernel_rfl
end InterpOrder
end Go.Proofs.YtnlmlcfipbnpgaaGreatDoor.Ab
