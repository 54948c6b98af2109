/- 'RowsDeep' evaluated in each of its cases, by the abstract interpreter. Own work; no condition. -/
import Derived.Test.YtkkbfljipfndgaaDoorTabR
namespace Go.Proofs.YtkkbfljipfndgaaDoor.Ab
open Go Go.AI
set_option maxRecDepth 100000
namespace RowsDeep
noncomputable def jt (r0 : Int) (i : Nat) (off n : Int) : Option Int := bif Nat.beq i 0 && (beqI n 6 && beqI off 0) then some r0 else none
def args (b1 : Bool) : List TVal := [.pv (.sym .i64 0 (.ofNat 0) (-9223372036854775808) 9223372036854775807), .pv (.bool b1)]
noncomputable def p (r0 : Nat) (b1 : Bool) : Bool := okB (machU blks.get (orS (SW 15 (jt (.ofNat r0))) (SI 117)) 100000 6 0 0 (args b1) h0)
end RowsDeep
end Go.Proofs.YtkkbfljipfndgaaDoor.Ab
