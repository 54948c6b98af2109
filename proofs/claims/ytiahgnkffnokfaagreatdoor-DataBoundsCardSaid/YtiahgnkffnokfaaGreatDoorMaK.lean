/- Laws of regions whose order is open, for proofs about all inputs. Own work; no condition but what each names. -/
import Derived.Test.YtiahgnkffnokfaaGreatDoorMaJ
set_option linter.all false
set_option linter.unusedVariables false
set_option linter.unusedSimpArgs false
namespace Go.AI
section
variable {β : Type} {O : Oracle} {h : Heap} {d : Nat} {k : TVal → Heap → Touch → Option β}
theorem vguardT_tt (doit : (TVal → Heap → Touch → Option β) → Option β) : vguardT (kB true) true doit h k = doit k := id rfl
theorem vguardT_ff (doit : (TVal → Heap → Touch → Option β) → Option β) : vguardT (kB false) false doit h k = doit k := id rfl
theorem vguardT_tf (doit : (TVal → Heap → Touch → Option β) → Option β) : vguardT (kB true) false doit h k = k .undef h noTouch := id rfl
theorem vguardT_ft (doit : (TVal → Heap → Touch → Option β) → Option β) : vguardT (kB false) true doit h k = k .undef h noTouch := id rfl
theorem vguardT_undef (w : Bool) (doit : (TVal → Heap → Touch → Option β) → Option β) : vguardT .undef w doit h k = k .undef h noTouch := id rfl
theorem vtouch_plan (op : AOp) (v : TVal) (hb : plan .nil op = some (.pure v)) : vtouch O op h d k = k v h noTouch := by
 show bnd (plan2 op .nil) (fun p => bnd (p.exec O d h) fun x => k x.1 x.2.1 x.2.2) = _
 rw [plan2_eq, hb]; rfl
theorem vtouch_call (g : FuncId) (as : List TVal) (v : TVal) (ha : allB pT as = true) (ho : O g as [] = some (v, [])) (hv : pT v = true) : vtouch O (.call (.k (.v (.c (.func g [])))) (as.map .k)) h d k = k v h noTouch := by
 obtain ⟨a1, a2, a3⟩ := pT_args ha
 obtain ⟨_, _, q3, _⟩ := pT_props hv
 have hb : plan .nil (.call (.k (.v (.c (.func g [])))) (as.map .k)) = some (.call g as) := by
  have hm : (as.map X.k).mapM (fun x => X.ev .nil x) = some as := by
   clear ha ho a1 a2 a3
   induction as with
   | nil => rfl
   | cons a as ih => rw [List.map_cons, List.mapM_cons, ih]; rfl
  show ((as.map X.k).mapM (fun x => X.ev .nil x)).bind (fun vs => some (Plan.call g (vs ++ []))) = _
  rw [hm]; simp
 have hc : callOp O g as d h = some (v, h, noTouch) := by
  unfold callOp
  simp [a1, a2, reach, fuelReach, a3, ho, q3, putAll, noTouch]
  rfl
 show bnd (plan2 (.call (.k (.v (.c (.func g [])))) (as.map .k)) .nil) (fun p => bnd (p.exec O d h) fun x => k x.1 x.2.1 x.2.2) = _
 rw [plan2_eq, hb]
 show bnd (callOp O g as d h) _ = _
 rw [hc]
end
end Go.AI
