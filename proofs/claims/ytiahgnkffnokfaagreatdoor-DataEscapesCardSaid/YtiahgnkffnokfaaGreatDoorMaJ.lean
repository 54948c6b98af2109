/- Blocks behind the others: made, read, killed; rows appended to there. Own work; no condition but what each names. -/
import Derived.Test.YtiahgnkffnokfaaGreatDoorAd
set_option linter.all false
set_option linter.unusedVariables false
set_option linter.unusedSimpArgs false
namespace Go.AI
section
variable {β : Type} {O : Oracle} {h : Heap} {d : Nat} {k : TVal → Heap → Option β}
theorem Heap.get_lt {h : Heap} {i : Nat} {o : AObj} (hh : h.get (.im i) = some o) : i < h.ims.length := by
 rcases Nat.lt_or_ge i h.ims.length with q | q
 ·exact q
 ·have : h.ims[i]? = none := by simp; exact q
  have e : (match h.ims[i]? with | some .dead => none | o => o) = some o := hh
  rw [this] at e; cases e
theorem Heap.get_put_eq (h : Heap) {i : Nat} {o : AObj} (hi : i < h.ims.length) (ho : o ≠ .dead) : (h.put (.im i) o).get (.im i) = some o := by
 show (match (h.ims.set i o)[i]? with | some .dead => none | o => o) = some o
 rw [List.getElem?_set_self hi]
 split
 ·rename_i e; cases e; exact absurd rfl ho
 ·rfl
/-- A slice whose cells are a block of the heap behind others, from 'b' on. -/
def HG (b sz : Nat) (v : Cell) (rows : List (List PVal)) (h : Heap) : Prop :=
 b ≤ h.ims.length ∧ ((rows = [] ∧ v = .p .nilslice) ∨ (rows ≠ [] ∧ ∃ n, b ≤ n ∧ v = .sref (.im n) 0 rows.length none sz ∧ h.get (.im n) = some (.cells (pcells rows.flatten) 0)))
theorem HG.nil (b sz : Nat) (h : Heap) (hb : b ≤ h.ims.length) : HG b sz (.p .nilslice) [] h := ⟨hb, .inl ⟨rfl, rfl⟩⟩
end
end Go.AI
