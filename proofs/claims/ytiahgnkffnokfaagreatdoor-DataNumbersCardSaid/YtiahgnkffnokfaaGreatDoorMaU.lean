/- Rules, continued: rows that may be written, made anew, handed back. Own work; no condition but what each names. -/
import Derived.Test.YtiahgnkffnokfaaGreatDoorVtC
set_option linter.all false
set_option linter.unusedVariables false
set_option linter.unusedSimpArgs false
namespace Go.AI
section
variable {β : Type} {O : Oracle} {h : Heap} {d : Nat} {k : TVal → Heap → Option β} {kt : TVal → Heap → Touch → Option β}
theorem push_get_own (h : Heap) (o : AObj) (d g : Nat) : (h.push o).get (.own d g) = h.get (.own d g) := rfl
theorem push_gen (h : Heap) (o : AObj) (d : Nat) : (h.push o).gen d = h.gen d := rfl
theorem x_len_sref (r : Ref) (off len sz : Nat) (cap : Option Nat) : vlen O 2 (.v (.c (.sref r off len cap sz))) h d k = k (kI (len : Int)) h := by
 show opK O (.len 2 (.k _)) .nil h d k = _
 rw [opK_eq]; rfl
theorem exU :
  (∀ (h : Heap) (o : AObj) (d g : Nat), (h.push o).get (.own d g) = h.get (.own d g)) ∧ (∀ (h : Heap) (o : AObj) (d : Nat), (h.push o).gen d = h.gen d) ∧ (∀ (h : Heap) (d g : Nat) (o : AObj), (h.own d g o).ims.length = h.ims.length) ∧ (h0.ims.length = 0) ∧
  (∀ {β : Type} {O : Oracle} {h : Heap} {d : Nat} {k : TVal → Heap → Option β} (r : Ref) (off len sz : Nat) (cap : Option Nat), vlen O 2 (.v (.c (.sref r off len cap sz))) h d k = k (kI (len : Int)) h) :=
 ⟨push_get_own, push_gen, fun _ _ _ _ => rfl, rfl, x_len_sref⟩
end
end Go.AI
