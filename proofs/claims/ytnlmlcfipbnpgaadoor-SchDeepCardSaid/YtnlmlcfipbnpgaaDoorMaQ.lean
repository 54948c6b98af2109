/- Rules, continued: rows that grow, handed to calls and handed back. Own work; no condition but what each names. -/
import Derived.Test.YtnlmlcfipbnpgaaDoorMaP
set_option linter.all false
set_option linter.unusedVariables false
set_option linter.unusedSimpArgs false
namespace Go.AI
section
variable {β : Type} {O : Oracle} {h : Heap} {d : Nat} {k : TVal → Heap → Option β}
/-- A row of names, of numbers, of structs that grows: a cell that bears it. -/
def Bears (sz : Nat) (v : Cell) (rows : List (List PVal)) : Prop := (rows = [] ∧ v = .p .nilslice) ∨ (rows ≠ [] ∧ ∃ r, v = .tsl sz rows r)
theorem Grow.bears {D : List Nat} {sz : Nat} {v : Cell} {rows : List (List PVal)} {h : Heap} (G : Grow D sz v rows h) : Bears sz v rows := by
 rcases G with ⟨a, b⟩ | ⟨a, e, g, _, b, _⟩
 ·exact .inl ⟨a, b⟩
 ·exact .inr ⟨a, _, b⟩
theorem Bears.len {sz : Nat} {v : Cell} {rows : List (List PVal)} (G : Bears sz v rows) : vlen O 2 (.v (.c v)) h d k = k (kI (rows.length : Int)) h := by
 rcases G with ⟨rfl, rfl⟩ | ⟨_, r, rfl⟩
 ·rfl
 ·exact vlen_tsl _ _ _
theorem Bears.at {sz : Nat} {v : Cell} {rows : List (List PVal)} (G : Bears sz v rows) (i : Int) : viaddr sz (.v (.c v)) (kI i) h k = chk (decide (0 ≤ i)) (obnd rows[i.toNat]? fun row => k (.v (.c (.p (.pptr row 0)))) h) := by
 rcases G with ⟨rfl, rfl⟩ | ⟨_, r, rfl⟩
 ·by_cases hi : 0 ≤ i
  ·obtain ⟨n, rfl⟩ : ∃ n : Nat, i = n := ⟨i.toNat, by omega⟩
   rw [decide_eq_true hi]; simp [chk, obnd]; rfl
  ·obtain ⟨n, rfl⟩ : ∃ n : Nat, i = Int.negSucc n := ⟨(-i-1).toNat, by omega⟩
   rw [decide_eq_false hi]; rfl
 ·exact x_iaddr_tsl _ _ _ _
end
end Go.AI
