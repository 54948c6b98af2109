/- Rules, continued: rows that grow, in regions whose order is open. Own work; no condition but what each names. -/
import Derived.Test.YtiahgnkffnokfaaGreatDoorMaS
set_option linter.all false
set_option linter.unusedVariables false
set_option linter.unusedSimpArgs false
namespace Go.AI
section
variable {β : Type} {O : Oracle} {h : Heap} {d : Nat} {k : TVal → Heap → Option β} {kt : TVal → Heap → Touch → Option β}
/-- A row that is appended to: nothing, a literal, or rows and the right to write behind them. -/
def GS (D : List Nat) (sz : Nat) (v : Cell) (rows : List (List PVal)) (h : Heap) : Prop :=
 (rows = [] ∧ v = .p .nilslice) ∨ v = .p (.slice sz true rows) ∨ (∃ e g, e ∈ D ∧ v = .tsl sz rows (.own e g) ∧ h.get (.own e g) = some (.cells [] 0))
/-- A source whose rows are known. -/
def SrcR (sz : Nat) (b : PVal) (new : List (List PVal)) : Prop := (b = .nilslice ∧ new = []) ∨ ∃ t, b = .slice sz t new
theorem SrcR.cells {sz : Nat} {b : PVal} {new : List (List PVal)} (H : SrcR sz b new) : srcCells sz (.v (.c (.p b))) none = some (pcells new.flatten, new.length) := by
 rcases H with ⟨rfl, rfl⟩ | ⟨t, rfl⟩
 ·rfl
 ·unfold srcCells; simp
theorem GS.pt {D : List Nat} {sz : Nat} {v : Cell} {rows : List (List PVal)} {h : Heap} (G : GS D sz v rows h) : isPT v = true := by
 rcases G with ⟨_, rfl⟩ | rfl | ⟨e, g, _, rfl, _⟩ <;> rfl
theorem GS.keep {D : List Nat} {sz : Nat} {v : Cell} {rows : List (List PVal)} {h h' : Heap} (G : GS D sz v rows h) (hk : ∀ e ∈ D, ∀ g, h.get (.own e g) = some (.cells [] 0) → h'.get (.own e g) = some (.cells [] 0)) : GS D sz v rows h' := by
 rcases G with g | g | ⟨e, g, m, b, c⟩
 ·exact .inl g
 ·exact .inr (.inl g)
 ·exact .inr (.inr ⟨e, g, m, b, hk _ m _ c⟩)
theorem GS.own {D : List Nat} {sz : Nat} {v : Cell} {rows : List (List PVal)} {h : Heap} (G : GS D sz v rows h) {d : Nat} (g : Nat) (o : AObj) (hd : d ∉ D) : GS D sz v rows (h.own d g o) :=
 G.keep fun e he g' hh => (Heap.own_get_ne h d g o e g' (fun x => hd (x ▸ he))).trans hh
theorem t_store (n off : Nat) (r : Ref) (x : Comp) : vtouch O (.store n (.k (.v (.c (.ptr r off)))) (.k (.v x))) h d kt = objK (h.get r) fun cs imm => chk (decide (imm ≤ off) && (decide (x.cells.length = n) && decide (off + n ≤ cs.length))) (kt .undef (h.put r (.cells (put1 cs off x.cells) imm)) ⟨[r.site], [r.site], false⟩) := by
 rw [vt_go1 _ r _ rfl]
 cases hg : h.get r with
 | none => rfl
 | some o =>
  show (goOp [r] _ d h).bind _ = _
  unfold goOp
  rw [mapM1, hg]
  cases o with
  | cells cs imm =>
   by_cases hc : imm ≤ off ∧ x.cells.length = n ∧ off + n ≤ cs.length
   ·simp only [Option.map_some, objK, if_pos hc, decide_eq_true hc.1, decide_eq_true hc.2.1, decide_eq_true hc.2.2, Bool.and_self, chk, cond_true]
    simp [put1]
   ·have hb : (decide (imm ≤ off) && (decide (x.cells.length = n) && decide (off + n ≤ cs.length))) = false := by
     refine Bool.eq_false_iff.2 fun e => hc ?_
     simp only [Bool.and_eq_true, decide_eq_true_eq] at e
     exact e
    simp only [Option.map_some, objK, if_neg hc, Option.map_none, hb, chk, cond_false]
    rfl
  | _ => rfl
end
end Go.AI
