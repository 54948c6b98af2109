/- 'DataBounds' evaluated, part 2. Own work; no condition. -/
import Derived.Test.YtiahgnkffnokfaaGreatDoorRDataBounds
namespace Go.Proofs.YtiahgnkffnokfaaGreatDoor.Ab
open Go Go.AI
set_option maxRecDepth 100000
namespace DataBounds
theorem run_0_2 : (p 0 2) = true := by kernel_rfl
end DataBounds
end Go.Proofs.YtiahgnkffnokfaaGreatDoor.Ab
