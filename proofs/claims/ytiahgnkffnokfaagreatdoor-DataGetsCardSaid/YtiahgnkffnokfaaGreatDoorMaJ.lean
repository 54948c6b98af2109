/- Blocks behind the others: made, read, killed; rows appended to there. Own work; no condition but what each names. -/
import Derived.Test.YtiahgnkffnokfaaGreatDoorAd
set_option linter.all false
set_option linter.unusedVariables false
set_option linter.unusedSimpArgs false
namespace Go.AI
section
variable {β : Type} {O : Oracle} {h : Heap} {d : Nat} {k : TVal → Heap → Option β}
def Heap.push (h : Heap) (o : AObj) : Heap := { h with ims := h.ims ++ [o] }
theorem Heap.get_push_eq (h : Heap) {o : AObj} (ho : o ≠ .dead) : (h.push o).get (.im h.ims.length) = some o := by
 show (match (h.ims ++ [o])[h.ims.length]? with | some .dead => none | o => o) = some o
 rw [List.getElem?_append_right (Nat.le_refl _), Nat.sub_self]
 show (match some o with | some .dead => none | o => o) = some o
 split
 ·rename_i e; cases e; exact absurd rfl ho
 ·rfl
theorem Heap.get_lt {h : Heap} {i : Nat} {o : AObj} (hh : h.get (.im i) = some o) : i < h.ims.length := by
 rcases Nat.lt_or_ge i h.ims.length with q | q
 ·exact q
 ·have : h.ims[i]? = none := by simp; exact q
  have e : (match h.ims[i]? with | some .dead => none | o => o) = some o := hh
  rw [this] at e; cases e
theorem Heap.get_put_eq (h : Heap) {i : Nat} {o : AObj} (hi : i < h.ims.length) (ho : o ≠ .dead) : (h.put (.im i) o).get (.im i) = some o := by
 show (match (h.ims.set i o)[i]? with | some .dead => none | o => o) = some o
 rw [List.getElem?_set_self hi]
 split
 ·rename_i e; cases e; exact absurd rfl ho
 ·rfl
/-- A slice whose cells are a block of the heap behind others, from 'b' on. -/
def HG (b sz : Nat) (v : Cell) (rows : List (List PVal)) (h : Heap) : Prop :=
 b ≤ h.ims.length ∧ ((rows = [] ∧ v = .p .nilslice) ∨ (rows ≠ [] ∧ ∃ n, b ≤ n ∧ v = .sref (.im n) 0 rows.length none sz ∧ h.get (.im n) = some (.cells (pcells rows.flatten) 0)))
theorem HG.nil (b sz : Nat) (h : Heap) (hb : b ≤ h.ims.length) : HG b sz (.p .nilslice) [] h := ⟨hb, .inl ⟨rfl, rfl⟩⟩
theorem flat_len {sz : Nat} : ∀ {rows : List (List PVal)}, (∀ r ∈ rows, r.length = sz) → (pcells rows.flatten).length = rows.length * sz := by
 intro rows
 unfold pcells
 rw [List.length_map]
 induction rows with
 | nil => intro _; simp
 | cons a r ih => intro hr; rw [List.flatten_cons, List.length_append, ih (fun x hx => hr x (by simp [hx])), hr a (by simp), List.length_cons, Nat.succ_mul, Nat.add_comm]
end
end Go.AI
