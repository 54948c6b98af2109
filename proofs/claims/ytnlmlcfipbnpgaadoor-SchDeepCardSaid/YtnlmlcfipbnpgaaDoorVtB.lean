/- Raw values; pieces of slices. Own work; no condition but what each names. -/
import Derived.Test.YtnlmlcfipbnpgaaDoorVtA
import Derived.Test.YtnlmlcfipbnpgaaDoorMaT
set_option linter.all false
set_option linter.unusedVariables false
set_option linter.unusedSimpArgs false
namespace Go.AI
def bRow (b : UInt8) : List PVal := [.int .u8 (b.toNat : Int)]
/-- spruelaw13.Raw. -/
inductive RT where
 | mk (kind n : Int) (s : Sl UInt8) (keys : Sl Int) (kids : Sl RT)
namespace RT
def kind : RT → Int | .mk k _ _ _ _ => k
def n : RT → Int | .mk _ n _ _ _ => n
def s : RT → Sl UInt8 | .mk _ _ s _ _ => s
def keys : RT → Sl Int | .mk _ _ _ k _ => k
def kids : RT → Sl RT | .mk _ _ _ _ l => l
mutual
def row : RT → List PVal
 | .mk k n s ks l => [.int .i64 k, .int .i64 n, slP 1 bRow s, slP 1 iRow ks, slRow l]
def slRow : Sl RT → PVal
 | .nil => .nilslice
 | .mk t l => .slice 5 t (rows l)
def rows : List RT → List (List PVal)
 | [] => []
 | v :: vs => row v :: rows vs
end
end RT
section
variable {β : Type} {O : Oracle} {h : Heap} {d : Nat} {k : TVal → Heap → Option β} {kt : TVal → Heap → Touch → Option β}
end
end Go.AI
