/- Raw values: how much they are; texts. -/
import Derived.Test.YtiahgnkffnokfaaGreatDoorDgA
import Derived.Test.YtiahgnkffnokfaaGreatDoorVtC
set_option linter.all false
set_option linter.unusedVariables false
set_option linter.unusedSimpArgs false
set_option maxRecDepth 100000
namespace Go.Proofs.YtiahgnkffnokfaaGreatDoor.Ab
open Go Go.AI
mutual
def fewR : RT → Int → Int
 | .mk k n s ks l, m => if ((((!decide (0 < m)) || decide (12 < (l.len : Int))) || decide (50 < (s.len : Int))) || decide (12 < (ks.len : Int))) then 0 else fewS l (IntKind.i64.wrap (m - 1))
def fewS : Sl RT → Int → Int
 | .nil, m => m
 | .mk _ l, m => fewL l m
def fewL : List RT → Int → Int
 | [], m => m
 | r :: rs, m => if 0 < m then fewL rs (fewR r m) else m
end
theorem fewS_eq (l : Sl RT) (m : Int) : fewS l m = fewL l.list m := by cases l <;> simp [fewS, fewL, Sl.list]
def bigR (r : RT) (m : Int) : Bool := (((!decide (0 < m)) || decide (12 < (r.kids.len : Int))) || decide (50 < (r.s.len : Int))) || decide (12 < (r.keys.len : Int))
theorem fewR_eq (r : RT) (m : Int) : fewR r m = if bigR r m then 0 else fewL r.kids.list (IntKind.i64.wrap (m - 1)) := by
 cases r with
 | mk k n s ks l => rw [fewR, fewS_eq]; rfl
theorem few_loop (r : RT) (g : Nat) (h : Heap) (hv : h.get (.own 2 g) = some (.cells (pcells r.row) 0)) (hl : r.kids.len ≤ 12)
  (ih : ∀ x ∈ r.kids.list, ∀ m, Om 15 [kA x.row, kI m] [] = some (kI (fewR x m), [])) :
  ∀ (i : Nat) (m : Int), lim tab.get S 15 0 1 [kI m, .v (.c (.ptr (.own 2 g) 0)), kI (i : Int)] h = some (kI (fewL (r.kids.list.drop i) m), []) := by
 refine loop_up r.kids.len (fun i hi m => ?_) (fun i hi ihl m => ?_) <;> rw [w15_1, b15_1]
 ·have h1 : ¬ (i : Int) < (r.kids.len : Int) := by omega
  simp (config := { maxSteps := 10000000 }) +contextual only [exa, ne_eq, not_false_eq_true, Nat.reduceAdd, Nat.reduceMul, Nat.reduceLT, Nat.reduceLeDiff, Nat.reduceEqDiff, Int.reduceLT, Int.reduceLE, Int.reduceEq, Int.reduceToNat, exW, exY, hv, h1, at_end hi, fewL, oneOf]
 ·have h1 : (i : Int) < (r.kids.len : Int) := by omega
  obtain ⟨x, hs, h2, hx⟩ := at_step hi
  by_cases hm : 0 < m
  ·have cc : ∀ {β : Type} {k : TVal → Heap → Option β} {h : Heap} {d : Nat}, vcall Om (.v (.c (.func 15 []))) [kA x.row, kI m] h d k = k (kI (fewR x m)) h := vcall_pure 15 _ _ (by simp only [exP]) (ih x hx m) rfl
   simp (config := { maxSteps := 10000000 }) +contextual only [exa, ne_eq, not_false_eq_true, Nat.reduceAdd, Nat.reduceMul, Nat.reduceLT, Nat.reduceLeDiff, Nat.reduceEqDiff, Int.reduceLT, Int.reduceLE, Int.reduceEq, Int.reduceToNat, exW, exY, hv, h1, hs, hm, cc, wrapS i (by omega), ihl, h2, fewL, if_true]
  ·simp (config := { maxSteps := 10000000 }) +contextual only [exa, ne_eq, not_false_eq_true, Nat.reduceAdd, Nat.reduceMul, Nat.reduceLT, Nat.reduceLeDiff, Nat.reduceEqDiff, Int.reduceLT, Int.reduceLE, Int.reduceEq, Int.reduceToNat, exW, exY, hv, h1, hs, hm, h2, fewL, if_false, oneOf]
theorem few_ok : ∀ (n : Nat) (r : RT), SizeOf.sizeOf r < n → ∀ m, Om 15 [kA r.row, kI m] [] = some (kI (fewR r m), []) := by
 intro n
 induction n with
 | zero => intro r h; omega
 | succ n ih =>
  intro r hs m
  refine (orc_none rfl).trans ?_
  show lim tab.get S 15 0 0 [kA r.row, kI m] h0 = _
  rw [w15_0, b15_0, fewR_eq]
  cases hb : bigR r m
  ·unfold bigR at hb
   simp (config := { maxSteps := 10000000 }) +contextual only [exa, ne_eq, not_false_eq_true, Nat.reduceAdd, Nat.reduceMul, Nat.reduceLT, Nat.reduceLeDiff, Nat.reduceEqDiff, Int.reduceLT, Int.reduceLE, Int.reduceEq, Int.reduceToNat, exW, exY, hb, if_false]
   have hl : r.kids.len ≤ 12 := by simp only [Bool.or_eq_false_iff, decide_eq_false_iff_not] at hb; omega
   have := few_loop r _ _ (own_getE h0 2 1 _ 0 (by decide)) hl (fun x hx => ih x (by have := RT.mem_size hx; omega)) 0 (IntKind.i64.wrap (m - 1))
   rw [List.drop_zero] at this
   exact this
  ·unfold bigR at hb
   simp (config := { maxSteps := 10000000 }) +contextual only [exa, ne_eq, not_false_eq_true, Nat.reduceAdd, Nat.reduceMul, Nat.reduceLT, Nat.reduceLeDiff, Nat.reduceEqDiff, Int.reduceLT, Int.reduceLE, Int.reduceEq, Int.reduceToNat, exW, exY, hb, if_true, oneOf]
theorem u29 {β : Type} {k : TVal → Heap → Option β} {h : Heap} {d : Nat} (r : RT) (m : Int) : vcall Om (.v (.c (.func 15 []))) [kA r.row, kI m] h d k = k (kI (fewR r m)) h := vcall_pure 15 _ _ (by simp only [exP]) (few_ok _ r (Nat.lt_succ_self _) m) rfl
def inText (n : Nat) : Bool := ((!decide ((n : Int) < 32)) || decide ((n : Int) = 10)) || decide ((n : Int) = 9)
def textM (l : List UInt8) : List UInt8 := l.filter fun b => inText b.toNat
theorem textM_len (l : List UInt8) : (textM l).length ≤ l.length := List.length_filter_le _ _
theorem textM_f {b : UInt8} {l : List UInt8} (h : inText b.toNat = false) : textM (b :: l) = textM l := by unfold textM; rw [List.filter_cons, h]; rfl
theorem textM_t {b : UInt8} {l : List UInt8} (h : inText b.toNat = true) : textM (b :: l) = b :: textM l := by unfold textM; rw [List.filter_cons, h]; rfl
theorem text_loop (s : Sl UInt8) (h : Heap) (hl : s.len ≤ 1000) : ∀ (i : Nat) (acc : List UInt8), acc.length ≤ i → lim tab.get S 33 0 1 [.v (.c (.p (slP 1 bRow s))), kS acc, kI (i : Int)] h = some (kS (acc ++ textM (s.list.drop i)), []) := by
 refine loop_up s.len (fun i hi acc ha => ?_) (fun i hi ih acc ha => ?_) <;> rw [w33_1, b33_1]
 ·have h1 : ¬ (i : Int) < (s.len : Int) := by omega
  simp (config := { maxSteps := 10000000 }) +contextual only [exa, ne_eq, not_false_eq_true, Nat.reduceAdd, Nat.reduceMul, Nat.reduceLT, Nat.reduceLeDiff, Nat.reduceEqDiff, Int.reduceLT, Int.reduceLE, Int.reduceEq, Int.reduceToNat, exW, exY, h1, at_end hi, oneOf, textM, List.filter_nil, List.append_nil]
 ·have h1 : (i : Int) < (s.len : Int) := by omega
  obtain ⟨b, hs, h2, _⟩ := at_step hi
  obtain ⟨x, hx1, hx2⟩ := byte_text s i b hs
  have h4 : acc.length + 1 ≤ 4611686018427387904 := by omega
  cases h3 : inText b.toNat
  ·have h3' := h3
   unfold inText at h3
   simp (config := { maxSteps := 10000000 }) +contextual only [exa, ne_eq, not_false_eq_true, Nat.reduceAdd, Nat.reduceMul, Nat.reduceLT, Nat.reduceLeDiff, Nat.reduceEqDiff, Int.reduceLT, Int.reduceLE, Int.reduceEq, Int.reduceToNat, exW, exY, h1, h2, hs, h3, oneOf]
   rw [w33_2, b33_2]
   simp (config := { maxSteps := 10000000 }) +contextual only [exa, ne_eq, not_false_eq_true, Nat.reduceAdd, Nat.reduceMul, Nat.reduceLT, Nat.reduceLeDiff, Nat.reduceEqDiff, Int.reduceLT, Int.reduceLE, Int.reduceEq, Int.reduceToNat, wrapS i (by omega), ih acc (by omega)]
   rw [textM_f h3']
  ·have h3' := h3
   unfold inText at h3
   simp (config := { maxSteps := 10000000 }) +contextual only [exa, ne_eq, not_false_eq_true, Nat.reduceAdd, Nat.reduceMul, Nat.reduceLT, Nat.reduceLeDiff, Nat.reduceEqDiff, Int.reduceLT, Int.reduceLE, Int.reduceEq, Int.reduceToNat, exW, exY, h1, h2, hs, h3, oneOf, wrapS i (by omega), vplan _ _ hx1, vplan _ _ hx2, h4]
   rw [w33_2, b33_2]
   simp (config := { maxSteps := 10000000 }) +contextual only [exa, ne_eq, not_false_eq_true, Nat.reduceAdd, Nat.reduceMul, Nat.reduceLT, Nat.reduceLeDiff, Nat.reduceEqDiff, Int.reduceLT, Int.reduceLE, Int.reduceEq, Int.reduceToNat, wrapS i (by omega), ih (acc ++ [b]) (by simp; omega)]
   rw [textM_t h3', List.append_assoc]; rfl
theorem text_ok (s : Sl UInt8) (hl : s.len ≤ 1000) : Om 33 [.v (.c (.p (slP 1 bRow s)))] [] = some (kS (textM s.list), []) := by
 refine (orc_none rfl).trans ?_
 show lim tab.get S 33 0 0 [.v (.c (.p (slP 1 bRow s)))] h0 = _
 rw [w33_0, b33_0]
 exact text_loop s h0 hl 0 [] (Nat.le_refl _)
theorem u80 {β : Type} {k : TVal → Heap → Option β} {h : Heap} {d : Nat} (s : Sl UInt8) (hl : s.len ≤ 1000) : vcall Om (.v (.c (.func 33 []))) [.v (.c (.p (slP 1 bRow s)))] h d k = k (kS (textM s.list)) h := vcall_pure 33 _ _ rfl (text_ok s hl) rfl
end Go.Proofs.YtiahgnkffnokfaaGreatDoor.Ab
