/- 'TreeBounds' evaluated in each of its cases, by the abstract interpreter. Own work; no condition. -/
import Derived.Test.YtegimihckejnkaaDoorLay
namespace Go.Proofs.YtegimihckejnkaaDoor.Ab
open Go Go.AI
set_option maxRecDepth 100000
namespace TreeBounds
noncomputable def jt (r0 : Int) (i : Nat) (off n : Int) : Option Int := bif Nat.beq i 0 && (beqI n 4 && beqI off 0) then some r0 else none
def args (b1 : Bool) : List TVal := [.pv (.sym .i64 0 (.ofNat 0) (-9223372036854775808) 9223372036854775807), .pv (.bool b1)]
noncomputable def p (r0 : Nat) (b1 : Bool) : Bool := okB (machU blks.get (orS SLay (orS (orS (SW 15 (jt (.ofNat r0))) (SI 78)) (SJ 96))) 100000 7 0 0 (args b1) h0)
end TreeBounds
end Go.Proofs.YtegimihckejnkaaDoor.Ab
