/- 'FitsNames' evaluated in each of its cases, by the abstract interpreter. Own work; no condition. -/
import Derived.Test.YtjpcafldmkffoaaDoorTab
namespace Go.Proofs.YtjpcafldmkffoaaDoor.Ab
open Go Go.AI
set_option maxRecDepth 100000
namespace FitsNames
noncomputable def jt (r0 : Int) (r1 : Int) (i : Nat) (n : Int) : Option Int := bif Nat.beq i 0 && beqI n 5 then some r0 else bif Nat.beq i 1 && beqI n 9 then some r1 else none
def args (b2 : Bool) : List TVal := [.pv (.sym .i64 0 (.ofNat 0) (-9223372036854775808) 9223372036854775807), .pv (.sym .i64 1 (.ofNat 0) (-9223372036854775808) 9223372036854775807), .pv (.bool b2)]
noncomputable def p (r0 : Nat) (r1 : Nat) (b2 : Bool) : Bool := okB (fullK tab.get (SW 9 (jt (.ofNat r0) (.ofNat r1))) 100000 5 (args b2) [])
end FitsNames
end Go.Proofs.YtjpcafldmkffoaaDoor.Ab
