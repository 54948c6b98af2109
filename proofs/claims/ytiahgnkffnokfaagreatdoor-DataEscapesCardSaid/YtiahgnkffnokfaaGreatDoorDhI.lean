/- Numerals: how many digits a number has. -/
import Derived.Test.YtiahgnkffnokfaaGreatDoorDhH
set_option linter.all false
set_option linter.unusedVariables false
set_option linter.unusedSimpArgs false
set_option maxRecDepth 100000
namespace Go.Proofs.YtiahgnkffnokfaaGreatDoor.Ab
open Go Go.AI
end Go.Proofs.YtiahgnkffnokfaaGreatDoor.Ab
