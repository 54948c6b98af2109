/- Rules, continued: rows that may be written, made anew, handed back. Own work; no condition but what each names. -/
import Derived.Test.YtiahgnkffnokfaaGreatDoorVtC
set_option linter.all false
set_option linter.unusedVariables false
set_option linter.unusedSimpArgs false
namespace Go.AI
section
variable {β : Type} {O : Oracle} {h : Heap} {d : Nat} {k : TVal → Heap → Option β} {kt : TVal → Heap → Touch → Option β}
end
end Go.AI
