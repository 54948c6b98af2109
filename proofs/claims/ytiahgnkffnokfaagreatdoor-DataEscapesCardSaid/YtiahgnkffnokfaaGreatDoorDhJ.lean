/- Numerals: digits are written from the back. -/
import Derived.Test.YtiahgnkffnokfaaGreatDoorDhI
set_option linter.all false
set_option linter.unusedVariables false
set_option linter.unusedSimpArgs false
set_option maxRecDepth 100000
namespace Go.Proofs.YtiahgnkffnokfaaGreatDoor.Ab
open Go Go.AI
def dig (x : Int) : Cell := .p (.int .u8 (48 + x % 10))
def wr : List Cell → Nat → Int → Nat → List Cell
 | cs, _, _, 0 => cs
 | cs, i, u, k + 1 => wr (cs.set i (dig u)) (i - 1) (u / 10) k
end Go.Proofs.YtiahgnkffnokfaaGreatDoor.Ab
