/- Laws of regions whose order is open, for proofs about all inputs. Own work; no condition but what each names. -/
import Derived.Test.YtiahgnkffnokfaaGreatDoorMaJ
set_option linter.all false
set_option linter.unusedVariables false
set_option linter.unusedSimpArgs false
namespace Go.AI
section
variable {β : Type} {O : Oracle} {h : Heap} {d : Nat} {k : TVal → Heap → Touch → Option β}
theorem vtouch_plan (op : AOp) (v : TVal) (hb : plan .nil op = some (.pure v)) : vtouch O op h d k = k v h noTouch := by
 show bnd (plan2 op .nil) (fun p => bnd (p.exec O d h) fun x => k x.1 x.2.1 x.2.2) = _
 rw [plan2_eq, hb]; rfl
end
end Go.AI
