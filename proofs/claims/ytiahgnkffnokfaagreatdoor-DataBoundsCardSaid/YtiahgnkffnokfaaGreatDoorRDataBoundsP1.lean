/- 'DataBounds' evaluated, part 1. Own work; no condition. -/
import Derived.Test.YtiahgnkffnokfaaGreatDoorRDataBounds
namespace Go.Proofs.YtiahgnkffnokfaaGreatDoor.Ab
open Go Go.AI
set_option maxRecDepth 100000
namespace DataBounds
theorem run_0_1 : (p 0 1) = true := by kernel_rfl
end DataBounds
end Go.Proofs.YtiahgnkffnokfaaGreatDoor.Ab
