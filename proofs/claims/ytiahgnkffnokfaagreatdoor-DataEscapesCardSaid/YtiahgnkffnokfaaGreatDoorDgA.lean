/- Where the contracts stand: the program's machine; rows of names. -/
import Derived.Test.YtiahgnkffnokfaaGreatDoorTabEW
import Derived.Test.YtiahgnkffnokfaaGreatDoorVtA
import Derived.Test.YtiahgnkffnokfaaGreatDoorQuO
set_option linter.all false
set_option linter.unusedVariables false
set_option linter.unusedSimpArgs false
set_option maxRecDepth 100000
namespace Go.Proofs.YtiahgnkffnokfaaGreatDoor.Ab
open Go Go.AI
noncomputable def S : Oracle := orS (SQ 31) (orS (SI 102) (SJ 32))
noncomputable abbrev W : Mach := lim tab.get S
noncomputable abbrev Om : Oracle := orc S W
abbrev kA (r : List PVal) : TVal := .v (.agg (pcells r))
end Go.Proofs.YtiahgnkffnokfaaGreatDoor.Ab
