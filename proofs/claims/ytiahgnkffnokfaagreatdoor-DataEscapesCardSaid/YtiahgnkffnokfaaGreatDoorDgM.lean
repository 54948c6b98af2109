/- A key and a value, put at their place. -/
import Derived.Test.YtiahgnkffnokfaaGreatDoorDgL
set_option linter.all false
set_option linter.unusedVariables false
set_option linter.unusedSimpArgs false
set_option maxRecDepth 100000
namespace Go.Proofs.YtiahgnkffnokfaaGreatDoor.Ab
open Go Go.AI
end Go.Proofs.YtiahgnkffnokfaaGreatDoor.Ab
