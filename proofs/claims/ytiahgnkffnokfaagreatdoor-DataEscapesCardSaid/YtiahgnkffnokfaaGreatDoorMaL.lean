/- Laws of bits, shifts, opened regions, for proofs about all inputs. Own work; no condition but what each names. -/
import Derived.Test.YtiahgnkffnokfaaGreatDoorMaK
set_option linter.all false
set_option linter.unusedVariables false
set_option linter.unusedSimpArgs false
namespace Go.AI
section
variable {β : Type} {O : Oracle} {h : Heap} {d : Nat} {k : TVal → Heap → Option β} {kt : TVal → Heap → Touch → Option β}
theorem vbin_of (op : BinOp) (kd : Nat) (x y c : Cell) (hb : binV op kd x y = some c) : vbin op kd (.v (.c x)) (.v (.c y)) h k = k (.v (.c c)) h := by
 show bnd (binF op kd x y) (fun c => k (.v (.c c)) h) = _
 rw [binF_eq, hb, bnd_some]
end
end Go.AI
