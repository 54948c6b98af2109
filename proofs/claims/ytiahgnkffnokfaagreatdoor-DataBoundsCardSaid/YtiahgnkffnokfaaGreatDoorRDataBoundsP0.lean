/- 'DataBounds' evaluated, part 0. Own work; no condition. -/
import Derived.Test.YtiahgnkffnokfaaGreatDoorRDataBounds
namespace Go.Proofs.YtiahgnkffnokfaaGreatDoor.Ab
open Go Go.AI
set_option maxRecDepth 100000
namespace DataBounds
theorem run_0_0 : (p 0 0) = true := by kernel_rfl
end DataBounds
end Go.Proofs.YtiahgnkffnokfaaGreatDoor.Ab
