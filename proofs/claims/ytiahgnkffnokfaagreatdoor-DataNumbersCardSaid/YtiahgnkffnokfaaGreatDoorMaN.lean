/- Arguments of any type that is made of numbers, texts, truths, structs and slices, as deep as may be: what they are to the machine. Own work. Condition: what each theorem names. -/
import Derived.Test.YtiahgnkffnokfaaGreatDoorAd
set_option linter.all false
set_option linter.unusedVariables false
set_option linter.unusedSimpArgs false
namespace Go.AI
open Go.RowKit Go.ChangeShapes Go.WideShapes
section
variable [Sym] {H : Type} {enc : TypeId × Value → H} {P : Program} {w : World} {spare : Nat → Bool} {held : Bool} {b0 : Nat}
end
end Go.AI
