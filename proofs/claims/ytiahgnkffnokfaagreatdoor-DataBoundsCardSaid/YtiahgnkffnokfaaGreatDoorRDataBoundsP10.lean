/- 'DataBounds' evaluated, part 10. Own work; no condition. -/
import Derived.Test.YtiahgnkffnokfaaGreatDoorRDataBounds
namespace Go.Proofs.YtiahgnkffnokfaaGreatDoor.Ab
open Go Go.AI
set_option maxRecDepth 100000
namespace DataBounds
theorem run_2_2 : (p 2 2) = true := by kernel_rfl
end DataBounds
end Go.Proofs.YtiahgnkffnokfaaGreatDoor.Ab
