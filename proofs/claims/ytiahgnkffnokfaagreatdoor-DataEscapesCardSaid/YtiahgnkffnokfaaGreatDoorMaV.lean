/- Rules, continued: arrays handed on as slices, texts read off a block. Own work; no condition but what each names. -/
import Derived.Test.YtiahgnkffnokfaaGreatDoorMaU
set_option linter.all false
set_option linter.unusedVariables false
set_option linter.unusedSimpArgs false
namespace Go.AI
section
variable {β : Type} {O : Oracle} {h : Heap} {d : Nat} {k : TVal → Heap → Option β} {kt : TVal → Heap → Touch → Option β}
end
end Go.AI
namespace Go.AI
section
variable {β : Type} {O : Oracle} {h : Heap} {d : Nat} {k : TVal → Heap → Option β}
end
end Go.AI
