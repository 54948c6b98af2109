/- ScanSigns: the signs read one after the other, as the law sets them side by side. -/
import Derived.Test.YtljhpmggifjigaaDoorScQ
set_option linter.all false
set_option linter.unusedVariables false
set_option linter.unusedSimpArgs false
set_option maxRecDepth 100000
namespace Go.Proofs.YtljhpmggifjigaaDoor.Ab
open Go Go.AI
def stepM (m : List (List UInt8)) (x : List UInt8) : List (List UInt8) := if m.getLast? = some [58] ∧ x = [61] then m.dropLast ++ [[58, 61]] else m ++ [x]
theorem stepM_cons (y : List UInt8) (m : List (List UInt8)) (x : List UInt8) (h : m ≠ [] ∨ y ≠ [58]) : stepM (y :: m) x = y :: stepM m x := by
 cases m with
 | nil =>
  have : y ≠ [58] := by rcases h with h | h <;> simp_all
  simp [stepM, this]
 | cons z m =>
  unfold stepM
  rw [List.getLast?_cons_cons]
  split
  ·rw [List.dropLast_cons₂]; rfl
  ·rfl
theorem mergeM_ne (l : List (List UInt8)) (h : l ≠ []) : mergeM l ≠ [] := by
 match l, h with
 | [a], _ => simp [mergeM]
 | a :: b :: r, _ => rw [mergeM]; split <;> simp
theorem mergeM_snoc (x : List UInt8) : ∀ (n : Nat) (l : List (List UInt8)), l.length ≤ n → mergeM (l ++ [x]) = stepM (mergeM l) x := by
 intro n
 induction n with
 | zero => intro l hn; obtain rfl : l = [] := List.length_eq_zero_iff.1 (by omega); simp [mergeM, stepM]
 | succ n ih =>
  intro l hn
  match l, hn with
  | [], _ => simp [mergeM, stepM]
  | [a], _ =>
   show mergeM [a, x] = stepM [a] x
   simp only [mergeM]
   by_cases h : a = [58] ∧ x = [61]
   ·obtain ⟨rfl, rfl⟩ := h; simp [mergeM, stepM]
   ·rw [if_neg h]; simp [mergeM, stepM, h]
  | a :: b :: r, hn =>
   show mergeM (a :: b :: (r ++ [x])) = _
   rw [mergeM, mergeM]
   by_cases h : a = [58] ∧ b = [61]
   ·rw [if_pos h, if_pos h, ih r (by simp at hn; omega), stepM_cons _ _ _ (Or.inr (by simp))]
   ·rw [if_neg h, if_neg h, stepM_cons _ _ _ (Or.inl (mergeM_ne _ (by simp))), ← ih (b :: r) (by simp at hn ⊢; omega)]; rfl
end Go.Proofs.YtljhpmggifjigaaDoor.Ab
