/- 'FitsRows' evaluated in each of its cases, by the abstract interpreter. Own work; no condition. -/
import Derived.Test.YtjpcafldmkffoaaDoorTab
namespace Go.Proofs.YtjpcafldmkffoaaDoor.Ab
open Go Go.AI
set_option maxRecDepth 100000
namespace FitsRows
noncomputable def jt (r0 : Int) (i : Nat) (n : Int) : Option Int := bif Nat.beq i 0 && beqI n 16 then some r0 else none
def args  : List TVal := [.pv (.sym .i64 0 (.ofNat 0) (-9223372036854775808) 9223372036854775807)]
noncomputable def p (r0 : Nat) : Bool := okB (fullK tab.get (SW 9 (jt (.ofNat r0))) 100000 4 (args ) [])
end FitsRows
end Go.Proofs.YtjpcafldmkffoaaDoor.Ab
