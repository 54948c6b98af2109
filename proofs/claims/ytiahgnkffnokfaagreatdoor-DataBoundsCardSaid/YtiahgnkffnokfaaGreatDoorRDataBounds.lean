/- 'DataBounds' evaluated in each of its cases, by the abstract interpreter. Own work; no condition. -/
import Derived.Test.YtiahgnkffnokfaaGreatDoorDjC
namespace Go.Proofs.YtiahgnkffnokfaaGreatDoor.Ab
open Go Go.AI
set_option maxRecDepth 100000
namespace DataBounds
noncomputable def jt (r0 : Int) (r1 : Int) (i : Nat) (off n : Int) : Option Int := bif Nat.beq i 0 && (beqI n 4 && beqI off 0) then some r0 else bif Nat.beq i 1 && (beqI n 4 && beqI off 0) then some r1 else none
def args  : List TVal := [.pv (.sym .i64 0 (.ofNat 0) (-9223372036854775808) 9223372036854775807), .pv (.sym .i64 1 (.ofNat 0) (-9223372036854775808) 9223372036854775807)]
noncomputable def p (r0 : Nat) (r1 : Nat) : Bool := okB (machU blks.get (orS SLayC (orS (orS (SW 12 (jt (.ofNat r0) (.ofNat r1))) (SI 102)) (SJ 32))) 100000 10 0 0 (args ) h0)
end DataBounds
end Go.Proofs.YtiahgnkffnokfaaGreatDoor.Ab
