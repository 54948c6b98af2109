/- 'InterpRows' evaluated in each of its cases, by the abstract interpreter. Own work; no condition. -/
import Derived.Test.YtnlmlcfipbnpgaaGreatDoorFi
namespace Go.Proofs.YtnlmlcfipbnpgaaGreatDoor.Ab
open Go Go.AI
set_option maxRecDepth 100000
namespace InterpRows
noncomputable def jt (r0 : Int) (i : Nat) (off n : Int) : Option Int := bif Nat.beq i 0 && (beqI n 33 && beqI off 0) then some r0 else none
def args  : List TVal := [.pv (.sym .i64 0 (.ofNat 0) (-9223372036854775808) 9223372036854775807)]
noncomputable def p (r0 : Nat) : Bool := okB (machU blks.get (orS SLay (orS (orS (SW 23 (jt (.ofNat r0))) (SI 264)) (SJ 40))) 100000 5 0 0 (args ) h0)
end InterpRows
end Go.Proofs.YtnlmlcfipbnpgaaGreatDoor.Ab
