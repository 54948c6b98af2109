/- Schemas are checked: the whole, where there are no functions. -/
import Derived.Test.YtlkejchbcchecaaDoorFrE
set_option linter.all false
set_option linter.unusedVariables false
set_option linter.unusedSimpArgs false
set_option maxRecDepth 100000
namespace Go.Proofs.YtlkejchbcchecaaDoor.Ab
open Go Go.AI
def wordM (s : List UInt8) : Bool := ((((((decide (s = [66, 111, 111, 108]) || decide (s = [73, 110, 116])) || decide (s = [84, 101, 120, 116])) || decide (s = [76, 105, 115, 116])) || decide (s = [77, 97, 112])) || decide (s = [79, 112, 116])) || decide (s = [85, 110, 105, 111, 110]))
theorem word_ok (s : List UInt8) : Om 50 [kS s] [] = some (kB (wordM s), []) := by
 refine (orc_none rfl).trans ?_
 show lim tab.get S 50 0 0 [kS s] h0 = _
 rw [w50_0, b50_0]
 simp (config := { maxSteps := 10000000 }) +contextual only [exa, ne_eq, not_false_eq_true, Nat.reduceAdd, Nat.reduceMul, Nat.reduceLT, Nat.reduceLeDiff, Nat.reduceEqDiff, Int.reduceLT, Int.reduceLE, Int.reduceEq, Int.reduceToNat, oneOf, wordM]
theorem u50 {β : Type} {k : TVal → Heap → Option β} {h : Heap} {d : Nat} (s : List UInt8) : vcall Om (.v (.c (.func 50 []))) [kS s] h d k = k (kB (wordM s)) h := vcall_pure 50 _ _ rfl (word_ok s) rfl
def allM (s : ST) : List TT := s.types.list.map NT.t ++ [s.main]
theorem all_loop (s : ST) (hs : s.types.len ≤ 1000) :
  ∀ (i : Nat) (v : Cell) (l : List TT) (h : Heap), l.length ≤ i → h.get (.own 1 1) = some (.cells (pcells s.row) 0) → Grow [21] 4 v (l.map TT.row) h →
   ∃ v' h', Grow [21] 4 v' ((l ++ (s.types.list.drop i).map NT.t).map TT.row) h' ∧ h'.get (.own 1 1) = some (.cells (pcells s.row) 0) ∧
    lim tab.get S 54 0 1 [pO 1 1, .v (.c v), kI (i : Int)] h = lim tab.get S 54 0 2 [pO 1 1, .v (.c v')] h' := by
 refine loop_up s.types.len (fun i hi v l h hl hv G => ?_) (fun i hi ih v l h hl hv G => ?_)
 ·have h1 : ¬ (i : Int) < (s.types.len : Int) := by omega
  refine ⟨v, h, ?_, hv, ?_⟩
  ·rw [at_end hi]; simpa using G
  ·rw [w54_1, b54_1]
   simp (config := { maxSteps := 10000000 }) +contextual only [exa, ne_eq, not_false_eq_true, Nat.reduceAdd, Nat.reduceMul, Nat.reduceLT, Nat.reduceLeDiff, Nat.reduceEqDiff, Int.reduceLT, Int.reduceLE, Int.reduceEq, Int.reduceToNat, hv, h1]
 ·have h1 : (i : Int) < (s.types.len : Int) := by omega
  obtain ⟨x, hx, h2, hm⟩ := at_step hi
  obtain ⟨vv, hh, b1, b2, b3, b4⟩ := Grow.app (d := 21) (by' := 72) true G (by simp) (new := [x.t.row]) (by simp) (by simp [TT.row_len]) (by simp; omega) (by decide)
  have b1' : Grow [21] 4 vv ((l ++ [x.t]).map TT.row) hh := by rw [List.map_append]; exact b1
  obtain ⟨v', h', a1, a2, a3⟩ := ih vv (l ++ [x.t]) hh (by simp; omega) (b3 1 1 _ (by decide) hv (by rw [ST.row_lit]; intro e; cases e)) b1'
  refine ⟨v', h', ?_, a2, ?_⟩
  ·rw [h2]; simpa using a1
  ·rw [w54_1, b54_1]
   simp (config := { maxSteps := 10000000 }) +contextual only [exa, ne_eq, not_false_eq_true, Nat.reduceAdd, Nat.reduceMul, Nat.reduceLT, Nat.reduceLeDiff, Nat.reduceEqDiff, Int.reduceLT, Int.reduceLE, Int.reduceEq, Int.reduceToNat, hv, h1, hx, wrapS i (by omega), b2]
   exact a3
theorem all_ok (s : ST) (hs : s.types.len ≤ 1000) (hg : s.sigs = .nil) : Om 54 [kA s.row] [] = some (.v (.c (.p (slP 4 TT.row (grown (allM s))))), []) := by
 refine (orc_none rfl).trans ?_
 show lim tab.get S 54 0 0 [kA s.row] h0 = _
 rw [w54_0, b54_0]
 simp (config := { maxSteps := 10000000 }) +contextual only [exa, ne_eq, not_false_eq_true, Nat.reduceAdd, Nat.reduceMul, Nat.reduceLT, Nat.reduceLeDiff, Nat.reduceEqDiff, Int.reduceLT, Int.reduceLE, Int.reduceEq, Int.reduceToNat]
 obtain ⟨v', h', a1, a2, a3⟩ := all_loop s hs 0 (.p .nilslice) [] (h0.own 1 1 (.cells (pcells s.row) 0)) (by simp) (by simp only [exa, ne_eq, not_false_eq_true, Nat.reduceAdd, Nat.reduceMul, Nat.reduceLT, Nat.reduceLeDiff, Nat.reduceEqDiff, Int.reduceLT, Int.reduceLE, Int.reduceEq, Int.reduceToNat]) (Grow.nil _ _ _)
 refine a3.trans ?_
 rw [List.nil_append, List.drop_zero] at a1
 have a1' : Grow [21, 26] 4 v' ((s.types.list.map NT.t).map TT.row) h' := by
  rcases a1 with ⟨q1, q2⟩ | ⟨q1, e, g, q2, q3, q4⟩
  ·exact .inl ⟨q1, q2⟩
  ·exact .inr ⟨q1, e, g, by simp at q2; simp [q2], q3, q4⟩
 obtain ⟨vv, hh, b1, b2, b3, b4⟩ := Grow.app (d := 26) (by' := 72) true a1' (by simp) (new := [s.main.row]) (by simp) (by simp [TT.row_len]) (by unfold Sl.len at hs; simp; omega) (by decide)
 have hv := b3 1 1 _ (by decide) a2 (by rw [ST.row_lit]; intro e; cases e)
 rw [w54_2, b54_2]
 simp (config := { maxSteps := 10000000 }) +contextual only [exa, ne_eq, not_false_eq_true, Nat.reduceAdd, Nat.reduceMul, Nat.reduceLT, Nat.reduceLeDiff, Nat.reduceEqDiff, Int.reduceLT, Int.reduceLE, Int.reduceEq, Int.reduceToNat, a2, b2]
 rw [w54_3, b54_3]
 have hn : ∀ (f : GT → List PVal), slP 6 f (.nil : Sl GT) = .nilslice := fun _ => rfl
 simp (config := { maxSteps := 10000000 }) +contextual only [exa, ne_eq, not_false_eq_true, Nat.reduceAdd, Nat.reduceMul, Nat.reduceLT, Nat.reduceLeDiff, Nat.reduceEqDiff, Int.reduceLT, Int.reduceLE, Int.reduceEq, Int.reduceToNat, hv, hg, hn, Int.lt_irrefl]
 rw [b1.bears.fin]
 have : (s.types.list.map NT.t).map TT.row ++ [s.main.row] = (allM s).map TT.row := by unfold allM; rw [List.map_append]; rfl
 rw [this, grown_row]
theorem u54 {β : Type} {k : TVal → Heap → Option β} {h : Heap} {d : Nat} (s : ST) (hs : s.types.len ≤ 1000) (hg : s.sigs = .nil) : vcall Om (.v (.c (.func 54 []))) [kA s.row] h d k = k (.v (.c (.p (slP 4 TT.row (grown (allM s)))))) h := vcall_pure 54 _ _ (by simp only [exP]) (all_ok s hs hg) rfl
end Go.Proofs.YtlkejchbcchecaaDoor.Ab
