/- Builtin functions of values: places. -/
import Derived.Test.YtiahgnkffnokfaaGreatDoorDgQ
set_option linter.all false
set_option linter.unusedVariables false
set_option linter.unusedSimpArgs false
set_option maxRecDepth 100000
namespace Go.Proofs.YtiahgnkffnokfaaGreatDoor.Ab
open Go Go.AI
theorem known11 : Om 11 [] [] = some (kB true, []) := (orc_none rfl).trans (machU_le blks_ok 3000 11 0 0 _ _ _ (by kernel_rfl))
end Go.Proofs.YtiahgnkffnokfaaGreatDoor.Ab
