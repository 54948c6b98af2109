/- 'DataBounds' evaluated, part 5. Own work; no condition. -/
import Derived.Test.YtiahgnkffnokfaaGreatDoorRDataBounds
namespace Go.Proofs.YtiahgnkffnokfaaGreatDoor.Ab
open Go Go.AI
set_option maxRecDepth 100000
namespace DataBounds
theorem run_1_1 : (p 1 1) = true := by kernel_rfl
end DataBounds
end Go.Proofs.YtiahgnkffnokfaaGreatDoor.Ab
