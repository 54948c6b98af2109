/- Arguments of any type that is made of numbers, texts, truths, structs and slices, as deep as may be: what they are to the machine. Own work. Condition: what each theorem names. -/
import Derived.Test.YtiahgnkffnokfaaGreatDoorAd
set_option linter.all false
set_option linter.unusedVariables false
set_option linter.unusedSimpArgs false
namespace Go.AI
open Go.RowKit Go.ChangeShapes Go.WideShapes
def contig (P : Program) : List Field → Nat → Nat → Bool
 | [], o, n => o == n
 | f :: fs, o, n => f.offset == o && contig P fs (o + P.cellsOf f.type) n
/-- A row of types that lead to one another alone. -/
def plainB (P : Program) (ts : List TypeId) : Bool := ts.all fun t => match P.underlying t with
 | some .bool | some (.int _) | some .string => true
 | some (.slice e) => ts.contains e && Nat.blt 0 (P.cellsOf e)
 | some (.struct fs) => contig P fs.toList 0 (P.cellsOf t) && fs.toList.all fun f => ts.contains f.type
 | _ => false
section
variable [Sym] {H : Type} {enc : TypeId × Value → H} {P : Program} {w : World} {spare : Nat → Bool} {held : Bool} {b0 : Nat}
end
end Go.AI
