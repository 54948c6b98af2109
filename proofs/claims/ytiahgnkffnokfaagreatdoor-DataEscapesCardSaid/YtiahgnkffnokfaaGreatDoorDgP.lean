/- Values of their own. -/
import Derived.Test.YtiahgnkffnokfaaGreatDoorDgM
import Derived.Test.YtiahgnkffnokfaaGreatDoorMaU
set_option linter.all false
set_option linter.unusedVariables false
set_option linter.unusedSimpArgs false
set_option maxRecDepth 100000
namespace Go.Proofs.YtiahgnkffnokfaaGreatDoor.Ab
open Go Go.AI
abbrev o1 : TVal := .v (.c (.ptr (.own 1 1) 0))
abbrev o2 : TVal := .v (.c (.ptr (.own 2 1) 0))
end Go.Proofs.YtiahgnkffnokfaaGreatDoor.Ab
