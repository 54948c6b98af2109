/- 'CallsTruths' evaluated in each of its cases, by the abstract interpreter. Own work; no condition. -/
import Derived.Test.YtkkbfljipfndgaaDoorTabC
namespace Go.Proofs.YtkkbfljipfndgaaDoor.Ab
open Go Go.AI
set_option maxRecDepth 100000
namespace CallsTruths
def args (b0 : Bool) (b1 : Bool) : List TVal := [.pv (.bool b0), .pv (.bool b1), .pv (.sym .i64 2 (.ofNat 0) (-9223372036854775808) 9223372036854775807)]
noncomputable def p (b0 : Bool) (b1 : Bool) : Bool := okB (machU blks.get (orS (fun _ _ _ => none) (SI 117)) 100000 3 0 0 (args b0 b1) h0)
theorem run : (p true true && p true false && p false true && p false false) = true := by kernel_rfl
end CallsTruths
end Go.Proofs.YtkkbfljipfndgaaDoor.Ab
