/- Schemas are checked: the document's chapter 4. -/
import Derived.Test.YtlkejchbcchecaaDoorFrB
set_option linter.all false
set_option linter.unusedVariables false
set_option linter.unusedSimpArgs false
set_option maxRecDepth 100000
namespace Go.Proofs.YtlkejchbcchecaaDoor.Ab
open Go Go.AI
abbrev z4 : List PVal := [.int .i64 0, .str [], .nilslice, .nilslice]
abbrev nulT : TT := .mk 0 [] .nil .nil
theorem z4_row : TT.row nulT = z4 := by rw [TT.row_eq]; rfl
def defM (name : List UInt8) : List NT → Option TT
 | [] => none
 | e :: l => if e.name = name then some e.t else defM name l
theorem def_loop (s : ST) (x : List UInt8) (hl : s.types.len < 4611686018427387904) (g g' : Nat) (h : Heap) (hs : h.get (.own 2 g) = some (.cells (pcells s.row) 0)) (hx : h.get (.own 4 g') = some (.cells (pcells (TT.row nulT)) 0)) :
  ∀ i : Nat, lim tab.get S 162 0 1 [kS x, .v (.c (.ptr (.own 2 g) 0)), .v (.c (.ptr (.own 4 g') 0)), kI (i : Int)] h = some (.tup [.agg (pcells ((defM x (s.types.list.drop i)).getD nulT).row), .c (.p (.bool (defM x (s.types.list.drop i)).isSome))], []) := by
 refine loop_up s.types.len (fun i hi => ?_) (fun i hi ih => ?_) <;> rw [w162_1, b162_1]
 ·have h1 : ¬ (i : Int) < (s.types.len : Int) := by omega
  rw [at_end hi]
  simp (config := { maxSteps := 10000000 }) +contextual only [exa, ne_eq, not_false_eq_true, Nat.reduceAdd, Nat.reduceMul, Nat.reduceLT, Nat.reduceLeDiff, Nat.reduceEqDiff, Int.reduceLT, Int.reduceLE, Int.reduceEq, Int.reduceToNat, h1, hs, hx, w162_2, b162_2, defM, Option.getD_none, Option.isSome_none]
  have e : ([.p (.int .i64 0), .p (.str []), .p .nilslice, .p .nilslice] : List Cell) = pcells (TT.row nulT) := by rw [z4_row]; rfl
  rw [e]
  simp (config := { maxSteps := 10000000 }) +contextual only [exa, ne_eq, not_false_eq_true, Nat.reduceAdd, Nat.reduceMul, Nat.reduceLT, Nat.reduceLeDiff, Nat.reduceEqDiff, Int.reduceLT, Int.reduceLE, Int.reduceEq, Int.reduceToNat, hx, oneOf]
 ·have h1 : (i : Int) < (s.types.len : Int) := by omega
  obtain ⟨b, hb, h2, _⟩ := at_step hi
  by_cases h3 : b.name = x
  ·simp (config := { maxSteps := 10000000 }) +contextual only [exa, ne_eq, not_false_eq_true, Nat.reduceAdd, Nat.reduceMul, Nat.reduceLT, Nat.reduceLeDiff, Nat.reduceEqDiff, Int.reduceLT, Int.reduceLE, Int.reduceEq, Int.reduceToNat, h1, h2, hs, hx, hb, h3, defM, oneOf, if_true, Option.getD_some]
  ·simp (config := { maxSteps := 10000000 }) +contextual only [exa, ne_eq, not_false_eq_true, Nat.reduceAdd, Nat.reduceMul, Nat.reduceLT, Nat.reduceLeDiff, Nat.reduceEqDiff, Int.reduceLT, Int.reduceLE, Int.reduceEq, Int.reduceToNat, h1, h2, hs, hx, hb, h3, defM, wrapS i (by omega), ih, if_false]
theorem def_ok (s : ST) (x : List UInt8) (hl : s.types.len < 4611686018427387904) : Om 162 [kA s.row, kS x] [] = some (.tup [.agg (pcells ((defM x s.types.list).getD nulT).row), .c (.p (.bool (defM x s.types.list).isSome))], []) := by
 refine (orc_none rfl).trans ?_
 show lim tab.get S 162 0 0 [kA s.row, kS x] h0 = _
 rw [w162_0, b162_0]
 have e : ([.p (.int .i64 0), .p (.str []), .p .nilslice, .p .nilslice] : List Cell) = pcells (TT.row nulT) := by rw [z4_row]; rfl
 rw [e]
 simp (config := { maxSteps := 10000000 }) +contextual only [exa, ne_eq, not_false_eq_true, Nat.reduceAdd, Nat.reduceMul, Nat.reduceLT, Nat.reduceLeDiff, Nat.reduceEqDiff, Int.reduceLT, Int.reduceLE, Int.reduceEq, Int.reduceToNat]
 exact def_loop s x hl _ _ _ (by simp only [exa, ne_eq, not_false_eq_true, Nat.reduceAdd, Nat.reduceMul, Nat.reduceLT, Nat.reduceLeDiff, Nat.reduceEqDiff, Int.reduceLT, Int.reduceLE, Int.reduceEq, Int.reduceToNat]) (by simp only [exa, ne_eq, not_false_eq_true, Nat.reduceAdd, Nat.reduceMul, Nat.reduceLT, Nat.reduceLeDiff, Nat.reduceEqDiff, Int.reduceLT, Int.reduceLE, Int.reduceEq, Int.reduceToNat]) 0
theorem u162 {β : Type} {k : TVal → Heap → Option β} {h : Heap} {d : Nat} (s : ST) (x : List UInt8) (hl : s.types.len < 4611686018427387904) : vcall Om (.v (.c (.func 162 []))) [kA s.row, kS x] h d k = k (.tup [.agg (pcells ((defM x s.types.list).getD nulT).row), .c (.p (.bool (defM x s.types.list).isSome))]) h := vcall_pure 162 _ _ (by simp only [exP]) (def_ok s x hl) (by simp only [exP])
def kidsM (t : TT) : Int := if t.kind = 4 ∨ t.kind = 5 ∨ t.kind = 6 then 1 else if t.kind = 7 ∨ t.kind = 8 then (t.names.len : Int) else 0
def namesM : Option (List UInt8) → List (List UInt8) → Int
 | _, [] => 0
 | p, a :: l => if identM a = false then 15 else if (match p with | some q => bless a q || a == q | none => false) = true then 6 else namesM (some a) l
def formB (t : TT) : Bool := (!decide ((t.kids.len : Int) = kidsM t) || !decide (t.kind = 9) && !decide (t.name = [])) || !(decide (t.kind = 7) || decide (t.kind = 8)) && !decide ((t.names.len : Int) = 0)
def ownM (types : List NT) (t : TT) : Int :=
 if (decide (t.kind < 1) || decide (9 < t.kind)) = true then 1 else if formB t = true then 12 else if t.kind = 9 ∧ defM t.name types = none then 15 else if 8 < t.names.len then 3 else
 if namesM none t.names.list = 0 then (if t.kind = 8 ∧ t.names.len = 0 then 12 else 0) else namesM none t.names.list
abbrev pO (d g : Nat) : TVal := .v (.c (.ptr (.own d g) 0))
theorem own_names (t : TT) (hl : t.names.len < 4611686018427387904) (g : Nat) (h : Heap) (ht : h.get (.own 3 g) = some (.cells (pcells t.row) 0)) :
  ∀ (i : Nat), lim tab.get S 109 0 5 [pO 3 g, kI (i : Int)] h = if namesM (if i = 0 then none else t.names.list[i - 1]?) (t.names.list.drop i) = 0 then lim tab.get S 109 0 6 [pO 3 g] h else some (kI (namesM (if i = 0 then none else t.names.list[i - 1]?) (t.names.list.drop i)), []) := by
 refine loop_up t.names.len (fun i hi => ?_) (fun i hi ih => ?_) <;> rw [w109_5, b109_5]
 ·have h1 : ¬ (i : Int) < (t.names.len : Int) := by omega
  rw [at_end hi]
  simp (config := { maxSteps := 10000000 }) +contextual only [exa, ne_eq, not_false_eq_true, Nat.reduceAdd, Nat.reduceMul, Nat.reduceLT, Nat.reduceLeDiff, Nat.reduceEqDiff, Int.reduceLT, Int.reduceLE, Int.reduceEq, Int.reduceToNat, h1, ht, namesM, if_true]
 ·have h1 : (i : Int) < (t.names.len : Int) := by omega
  obtain ⟨b, hb, h2, _⟩ := at_step hi
  rw [if_neg (Nat.succ_ne_zero i), Nat.add_sub_cancel, hb] at ih
  cases h3 : identM b
  ·simp (config := { maxSteps := 10000000 }) +contextual only [exa, ne_eq, not_false_eq_true, Nat.reduceAdd, Nat.reduceMul, Nat.reduceLT, Nat.reduceLeDiff, Nat.reduceEqDiff, Int.reduceLT, Int.reduceLE, Int.reduceEq, Int.reduceToNat, h1, ht, hb, h2, h3, u49, namesM, if_true, oneOf]
   simp
  ·by_cases z0 : i = 0
   ·have h5 : ¬ (0 : Int) < (i : Int) := by omega
    simp (config := { maxSteps := 10000000 }) +contextual only [exa, ne_eq, not_false_eq_true, Nat.reduceAdd, Nat.reduceMul, Nat.reduceLT, Nat.reduceLeDiff, Nat.reduceEqDiff, Int.reduceLT, Int.reduceLE, Int.reduceEq, Int.reduceToNat, h1, ht, hb, h2, h3, u49, h5, wrapS i (by omega), ih]
    rw [if_pos z0, namesM]
    simp [h3]
   ·have h5 : (0 : Int) < (i : Int) := by omega
    obtain ⟨c, hc, _, _⟩ := at_step (l := t.names.list) (i := i - 1) (by unfold Sl.len at hi; omega)
    rw [if_neg z0, hc]
    cases h6 : (bless b c || b == c)
    ·simp (config := { maxSteps := 10000000 }) +contextual only [exa, ne_eq, not_false_eq_true, Nat.reduceAdd, Nat.reduceMul, Nat.reduceLT, Nat.reduceLeDiff, Nat.reduceEqDiff, Int.reduceLT, Int.reduceLE, Int.reduceEq, Int.reduceToNat, h1, ht, hb, h2, h3, u49, h5, wrapS i (by omega), wrapP i (by omega) (by omega), hc, h6, ih]
     rw [namesM]
     simp [h3, h6]
    ·simp (config := { maxSteps := 10000000 }) +contextual only [exa, ne_eq, not_false_eq_true, Nat.reduceAdd, Nat.reduceMul, Nat.reduceLT, Nat.reduceLeDiff, Nat.reduceEqDiff, Int.reduceLT, Int.reduceLE, Int.reduceEq, Int.reduceToNat, h1, ht, hb, h2, h3, u49, h5, wrapP i (by omega) (by omega), hc, h6, oneOf]
     rw [namesM]
     simp [h3, h6]
theorem own_kids (t : TT) (hk : 1 ≤ t.kind) (hk9 : t.kind ≤ 9) (g : Nat) (x2 : TVal) (h : Heap) (ht : h.get (.own 3 g) = some (.cells (pcells t.row) 0)) (x19 x20 : TVal) :
  ∀ (b : Bool), (b = true ↔ (t.kind = 4 ∨ t.kind = 5 ∨ t.kind = 6)) → lim tab.get S 109 0 1 [x2, pO 3 g, kI 0, kI t.kind, kB b] h = lim tab.get S 109 0 3 [x2, pO 3 g, kI (kidsM t)] h := by
 intro b hb
 cases b
 ·have h456 : ¬ (t.kind = 4 ∨ t.kind = 5 ∨ t.kind = 6) := fun e => by simpa using hb.2 e
  by_cases h7 : t.kind = 7
  ·simp (config := { maxSteps := 10000000 }) +contextual only [exa, ne_eq, not_false_eq_true, Nat.reduceAdd, Nat.reduceMul, Nat.reduceLT, Nat.reduceLeDiff, Nat.reduceEqDiff, Int.reduceLT, Int.reduceLE, Int.reduceEq, Int.reduceToNat, w109_1, b109_1, w109_2, b109_2, kidsM, h456, h7, ht, if_true, if_false, true_or]
   simp (config := { maxSteps := 10000000 }) +contextual [h7]
  ·by_cases h8 : t.kind = 8
   ·simp (config := { maxSteps := 10000000 }) +contextual only [exa, ne_eq, not_false_eq_true, Nat.reduceAdd, Nat.reduceMul, Nat.reduceLT, Nat.reduceLeDiff, Nat.reduceEqDiff, Int.reduceLT, Int.reduceLE, Int.reduceEq, Int.reduceToNat, w109_1, b109_1, w109_2, b109_2, kidsM, h456, h7, h8, ht, if_true, if_false, or_true]
    simp (config := { maxSteps := 10000000 }) +contextual [h8]
   ·simp (config := { maxSteps := 10000000 }) +contextual only [exa, ne_eq, not_false_eq_true, Nat.reduceAdd, Nat.reduceMul, Nat.reduceLT, Nat.reduceLeDiff, Nat.reduceEqDiff, Int.reduceLT, Int.reduceLE, Int.reduceEq, Int.reduceToNat, w109_1, b109_1, w109_2, b109_2, kidsM, h456, h7, h8, ht, if_true, if_false, or_false]
 ·simp (config := { maxSteps := 10000000 }) +contextual only [exa, ne_eq, not_false_eq_true, Nat.reduceAdd, Nat.reduceMul, Nat.reduceLT, Nat.reduceLeDiff, Nat.reduceEqDiff, Int.reduceLT, Int.reduceLE, Int.reduceEq, Int.reduceToNat, w109_1, b109_1, kidsM, hb.1, if_true]
theorem own_head (t : TT) (hk : 1 ≤ t.kind) (hk9 : t.kind ≤ 9) (s : ST) : ∃ h, h.get (.own 2 1) = some (.cells (pcells s.row) 0) ∧ h.get (.own 3 1) = some (.cells (pcells t.row) 0) ∧
  lim tab.get S 109 0 0 [kA s.row, kA t.row] h0 = lim tab.get S 109 0 3 [pO 2 1, pO 3 1, kI (kidsM t)] h := by
 refine ⟨(h0.own 2 1 (.cells (pcells s.row) 0)).own 3 1 (.cells (pcells t.row) 0), by simp only [exa, ne_eq, not_false_eq_true, Nat.reduceAdd, Nat.reduceMul, Nat.reduceLT, Nat.reduceLeDiff, Nat.reduceEqDiff, Int.reduceLT, Int.reduceLE, Int.reduceEq, Int.reduceToNat], by simp only [exa, ne_eq, not_false_eq_true, Nat.reduceAdd, Nat.reduceMul, Nat.reduceLT, Nat.reduceLeDiff, Nat.reduceEqDiff, Int.reduceLT, Int.reduceLE, Int.reduceEq, Int.reduceToNat], ?_⟩
 have hk1 : ¬ t.kind < 1 := by omega
 have hk2 : ¬ 9 < t.kind := by omega
 rw [w109_0, b109_0]
 by_cases h4 : t.kind = 4
 ·simp (config := { maxSteps := 10000000 }) +contextual only [exa, ne_eq, not_false_eq_true, Nat.reduceAdd, Nat.reduceMul, Nat.reduceLT, Nat.reduceLeDiff, Nat.reduceEqDiff, Int.reduceLT, Int.reduceLE, Int.reduceEq, Int.reduceToNat, hk1, hk2, h4]
  exact (by simpa only [h4] using own_kids t hk hk9 1 (pO 2 1) _ (by simp only [exa, ne_eq, not_false_eq_true, Nat.reduceAdd, Nat.reduceMul, Nat.reduceLT, Nat.reduceLeDiff, Nat.reduceEqDiff, Int.reduceLT, Int.reduceLE, Int.reduceEq, Int.reduceToNat]) (kI t.kind) (kB true) true (by simp [h4]))
 by_cases h5 : t.kind = 5
 ·simp (config := { maxSteps := 10000000 }) +contextual only [exa, ne_eq, not_false_eq_true, Nat.reduceAdd, Nat.reduceMul, Nat.reduceLT, Nat.reduceLeDiff, Nat.reduceEqDiff, Int.reduceLT, Int.reduceLE, Int.reduceEq, Int.reduceToNat, hk1, hk2, h4, h5]
  exact (by simpa only [h5] using own_kids t hk hk9 1 (pO 2 1) _ (by simp only [exa, ne_eq, not_false_eq_true, Nat.reduceAdd, Nat.reduceMul, Nat.reduceLT, Nat.reduceLeDiff, Nat.reduceEqDiff, Int.reduceLT, Int.reduceLE, Int.reduceEq, Int.reduceToNat]) (kI t.kind) (kB true) true (by simp [h5]))
 by_cases h6 : t.kind = 6
 ·simp (config := { maxSteps := 10000000 }) +contextual only [exa, ne_eq, not_false_eq_true, Nat.reduceAdd, Nat.reduceMul, Nat.reduceLT, Nat.reduceLeDiff, Nat.reduceEqDiff, Int.reduceLT, Int.reduceLE, Int.reduceEq, Int.reduceToNat, hk1, hk2, h4, h5, h6]
  exact (by simpa only [h6] using own_kids t hk hk9 1 (pO 2 1) _ (by simp only [exa, ne_eq, not_false_eq_true, Nat.reduceAdd, Nat.reduceMul, Nat.reduceLT, Nat.reduceLeDiff, Nat.reduceEqDiff, Int.reduceLT, Int.reduceLE, Int.reduceEq, Int.reduceToNat]) (kI t.kind) (kB true) true (by simp [h6]))
 ·simp (config := { maxSteps := 10000000 }) +contextual only [exa, ne_eq, not_false_eq_true, Nat.reduceAdd, Nat.reduceMul, Nat.reduceLT, Nat.reduceLeDiff, Nat.reduceEqDiff, Int.reduceLT, Int.reduceLE, Int.reduceEq, Int.reduceToNat, hk1, hk2, h4, h5, h6]
  exact own_kids t hk hk9 1 (pO 2 1) _ (by simp only [exa, ne_eq, not_false_eq_true, Nat.reduceAdd, Nat.reduceMul, Nat.reduceLT, Nat.reduceLeDiff, Nat.reduceEqDiff, Int.reduceLT, Int.reduceLE, Int.reduceEq, Int.reduceToNat]) (kI t.kind) (kB true) false (by simp [h4, h5, h6])
theorem own_ok (s : ST) (t : TT) (hl : s.types.len < 4611686018427387904) (hn : t.names.len < 4611686018427387904) : Om 109 [kA s.row, kA t.row] [] = some (kI (ownM s.types.list t), []) := by
 refine (orc_none rfl).trans ?_
 show lim tab.get S 109 0 0 [kA s.row, kA t.row] h0 = _
 cases hk : (decide (t.kind < 1) || decide (9 < t.kind))
 ·have hk1 : 1 ≤ t.kind ∧ t.kind ≤ 9 := by simp at hk; omega
  obtain ⟨h, hs, ht, e⟩ := own_head t hk1.1 hk1.2 s
  rw [e, w109_3, b109_3]
  unfold ownM
  rw [hk]
  have hf : formB t = ((!decide ((t.kids.len : Int) = kidsM t) || !decide (t.kind = 9) && !decide (t.name = [])) || !(decide (t.kind = 7) || decide (t.kind = 8)) && !decide ((t.names.len : Int) = 0)) := rfl
  simp (config := { maxSteps := 10000000 }) +contextual only [exa, ne_eq, not_false_eq_true, Nat.reduceAdd, Nat.reduceMul, Nat.reduceLT, Nat.reduceLeDiff, Nat.reduceEqDiff, Int.reduceLT, Int.reduceLE, Int.reduceEq, Int.reduceToNat, hs, ht, ← hf, Bool.false_eq_true, if_false]
  cases hf' : formB t
  ·have fin : ∀ h : Heap, h.get (.own 3 1) = some (.cells (pcells t.row) 0) → lim tab.get S 109 0 4 [pO 3 1] h = some (kI (if 8 < t.names.len then 3 else if namesM none t.names.list = 0 then (if t.kind = 8 ∧ t.names.len = 0 then 12 else 0) else namesM none t.names.list), []) := by
    intro h ht
    rw [w109_4, b109_4]
    by_cases h8 : 8 < t.names.len
    ·have h8' : (8 : Int) < (t.names.len : Int) := by omega
     simp (config := { maxSteps := 10000000 }) +contextual only [exa, ne_eq, not_false_eq_true, Nat.reduceAdd, Nat.reduceMul, Nat.reduceLT, Nat.reduceLeDiff, Nat.reduceEqDiff, Int.reduceLT, Int.reduceLE, Int.reduceEq, Int.reduceToNat, ht, h8, h8', if_true, oneOf]
    ·have h8' : ¬ (8 : Int) < (t.names.len : Int) := by omega
     have hn0 := own_names t hn 1 h ht 0
     rw [if_pos rfl, List.drop_zero] at hn0
     simp (config := { maxSteps := 10000000 }) +contextual only [exa, ne_eq, not_false_eq_true, Nat.reduceAdd, Nat.reduceMul, Nat.reduceLT, Nat.reduceLeDiff, Nat.reduceEqDiff, Int.reduceLT, Int.reduceLE, Int.reduceEq, Int.reduceToNat, ht, h8, h8', if_false]
     refine hn0.trans ?_
     by_cases h0 : namesM none t.names.list = 0
     ·rw [if_pos h0, if_pos h0, w109_6, b109_6]
      have hz : (decide (t.kind = 8) && decide ((t.names.len : Int) = 0)) = decide (t.kind = 8 ∧ t.names.len = 0) := by
       rw [Bool.decide_and]; congr 1; exact decide_eq_decide.2 (by omega)
      simp (config := { maxSteps := 10000000 }) +contextual only [exa, ne_eq, not_false_eq_true, Nat.reduceAdd, Nat.reduceMul, Nat.reduceLT, Nat.reduceLeDiff, Nat.reduceEqDiff, Int.reduceLT, Int.reduceLE, Int.reduceEq, Int.reduceToNat, ht, hz]
      by_cases hz' : t.kind = 8 ∧ t.names.len = 0
      ·simp (config := { maxSteps := 10000000 }) +contextual only [exa, ne_eq, not_false_eq_true, Nat.reduceAdd, Nat.reduceMul, Nat.reduceLT, Nat.reduceLeDiff, Nat.reduceEqDiff, Int.reduceLT, Int.reduceLE, Int.reduceEq, Int.reduceToNat, hz', and_self, if_true, oneOf]
      ·simp (config := { maxSteps := 10000000 }) +contextual only [exa, ne_eq, not_false_eq_true, Nat.reduceAdd, Nat.reduceMul, Nat.reduceLT, Nat.reduceLeDiff, Nat.reduceEqDiff, Int.reduceLT, Int.reduceLE, Int.reduceEq, Int.reduceToNat, hz', if_false, oneOf]
     ·rw [if_neg h0, if_neg h0]
   by_cases h9 : t.kind = 9
   ·cases hd : defM t.name s.types.list with
    | none =>
     simp (config := { maxSteps := 10000000 }) +contextual only [exa, ne_eq, not_false_eq_true, Nat.reduceAdd, Nat.reduceMul, Nat.reduceLT, Nat.reduceLeDiff, Nat.reduceEqDiff, Int.reduceLT, Int.reduceLE, Int.reduceEq, Int.reduceToNat, hs, ht, h9, hd, u162 s t.name hl, Bool.false_eq_true, if_false, Option.isSome_none, Option.getD_none, and_self, if_true, oneOf]
    | some x =>
     simp (config := { maxSteps := 10000000 }) +contextual only [exa, ne_eq, not_false_eq_true, Nat.reduceAdd, Nat.reduceMul, Nat.reduceLT, Nat.reduceLeDiff, Nat.reduceEqDiff, Int.reduceLT, Int.reduceLE, Int.reduceEq, Int.reduceToNat, hs, ht, h9, hd, u162 s t.name hl, Bool.false_eq_true, if_false, Option.isSome_some, Option.getD_some]
     refine (fin _ (by simp only [exa, ne_eq, not_false_eq_true, Nat.reduceAdd, Nat.reduceMul, Nat.reduceLT, Nat.reduceLeDiff, Nat.reduceEqDiff, Int.reduceLT, Int.reduceLE, Int.reduceEq, Int.reduceToNat, ht])).trans ?_
     simp [h9]
   ·simp (config := { maxSteps := 10000000 }) +contextual only [exa, ne_eq, not_false_eq_true, Nat.reduceAdd, Nat.reduceMul, Nat.reduceLT, Nat.reduceLeDiff, Nat.reduceEqDiff, Int.reduceLT, Int.reduceLE, Int.reduceEq, Int.reduceToNat, hs, ht, h9, Bool.false_eq_true, if_false]
    refine (fin _ ht).trans ?_
    simp
  ·simp (config := { maxSteps := 10000000 }) +contextual only [exa, ne_eq, not_false_eq_true, Nat.reduceAdd, Nat.reduceMul, Nat.reduceLT, Nat.reduceLeDiff, Nat.reduceEqDiff, Int.reduceLT, Int.reduceLE, Int.reduceEq, Int.reduceToNat, hs, ht, if_true, oneOf]
 ·rw [w109_0, b109_0]
  unfold ownM
  simp (config := { maxSteps := 10000000 }) +contextual only [exa, ne_eq, not_false_eq_true, Nat.reduceAdd, Nat.reduceMul, Nat.reduceLT, Nat.reduceLeDiff, Nat.reduceEqDiff, Int.reduceLT, Int.reduceLE, Int.reduceEq, Int.reduceToNat, hk, oneOf, if_true]
theorem u109 {β : Type} {k : TVal → Heap → Option β} {h : Heap} {d : Nat} (s : ST) (t : TT) (hl : s.types.len < 4611686018427387904) (hn : t.names.len < 4611686018427387904) : vcall Om (.v (.c (.func 109 []))) [kA s.row, kA t.row] h d k = k (kI (ownM s.types.list t)) h := vcall_pure 109 _ _ (by simp only [exP]) (own_ok s t hl hn) rfl
/-! ### names gone through -/
def openN (types : List NT) : Nat → TT → TT
 | 0, t => t
 | n + 1, t => if t.kind = 9 then openN types n ((defM t.name types).getD nulT) else t
def openM (s : ST) (t : TT) : TT := openN s.types.list (s.types.len + 1) t
theorem open_loop (s : ST) (hl : s.types.len < 4611686018427387904) : ∀ (i : Nat) (t : TT) (h : Heap), h.get (.own 2 1) = some (.cells (pcells s.row) 0) → h.get (.own 3 1) = some (.cells (pcells t.row) 0) → h.get (.own 4 1) = some (.cells (pcells (TT.row nulT)) 0) →
  lim tab.get S 111 0 1 [pO 2 1, pO 3 1, pO 4 1, kI (i : Int)] h = some (.v (.agg (pcells (openN s.types.list (s.types.len + 1 - i) t).row)), []) := by
 have fin : ∀ (t : TT) (h : Heap), h.get (.own 3 1) = some (.cells (pcells t.row) 0) → h.get (.own 4 1) = some (.cells (pcells (TT.row nulT)) 0) → lim tab.get S 111 0 2 [pO 3 1, pO 4 1] h = some (.v (.agg (pcells t.row)), []) := by
  intro t h ht hx
  rw [w111_2, b111_2]
  simp (config := { maxSteps := 10000000 }) +contextual only [exa, ne_eq, not_false_eq_true, Nat.reduceAdd, Nat.reduceMul, Nat.reduceLT, Nat.reduceLeDiff, Nat.reduceEqDiff, Int.reduceLT, Int.reduceLE, Int.reduceEq, Int.reduceToNat, ht, hx, oneOf]
 refine loop_up (s.types.len + 1) (fun i hi t h hs ht hx => ?_) (fun i hi ih t h hs ht hx => ?_) <;> rw [w111_1, b111_1]
 ·have h1 : (s.types.len : Int) < (i : Int) := by omega
  have h2 : s.types.len + 1 - i = 0 := by omega
  simp (config := { maxSteps := 10000000 }) +contextual only [exa, ne_eq, not_false_eq_true, Nat.reduceAdd, Nat.reduceMul, Nat.reduceLT, Nat.reduceLeDiff, Nat.reduceEqDiff, Int.reduceLT, Int.reduceLE, Int.reduceEq, Int.reduceToNat, h1, hs, h2, openN]
  exact fin t h ht hx
 ·have h1 : ¬ (s.types.len : Int) < (i : Int) := by omega
  have h2 : s.types.len + 1 - i = (s.types.len + 1 - (i + 1)) + 1 := by omega
  rw [h2, openN]
  by_cases h9 : t.kind = 9
  ·simp (config := { maxSteps := 10000000 }) +contextual only [exa, ne_eq, not_false_eq_true, Nat.reduceAdd, Nat.reduceMul, Nat.reduceLT, Nat.reduceLeDiff, Nat.reduceEqDiff, Int.reduceLT, Int.reduceLE, Int.reduceEq, Int.reduceToNat, h1, hs, ht, h9, u162 s t.name hl, wrapS i (by omega), if_true]
   exact ih _ _ (by simp only [exa, ne_eq, not_false_eq_true, Nat.reduceAdd, Nat.reduceMul, Nat.reduceLT, Nat.reduceLeDiff, Nat.reduceEqDiff, Int.reduceLT, Int.reduceLE, Int.reduceEq, Int.reduceToNat, hs]) (by simp only [exa, ne_eq, not_false_eq_true, Nat.reduceAdd, Nat.reduceMul, Nat.reduceLT, Nat.reduceLeDiff, Nat.reduceEqDiff, Int.reduceLT, Int.reduceLE, Int.reduceEq, Int.reduceToNat]) (by simp only [exa, ne_eq, not_false_eq_true, Nat.reduceAdd, Nat.reduceMul, Nat.reduceLT, Nat.reduceLeDiff, Nat.reduceEqDiff, Int.reduceLT, Int.reduceLE, Int.reduceEq, Int.reduceToNat, hx])
  ·simp (config := { maxSteps := 10000000 }) +contextual only [exa, ne_eq, not_false_eq_true, Nat.reduceAdd, Nat.reduceMul, Nat.reduceLT, Nat.reduceLeDiff, Nat.reduceEqDiff, Int.reduceLT, Int.reduceLE, Int.reduceEq, Int.reduceToNat, h1, hs, ht, h9, if_false]
   exact fin t h ht hx
theorem open_ok (s : ST) (t : TT) (hl : s.types.len < 4611686018427387904) : Om 111 [kA s.row, kA t.row] [] = some (kA (openM s t).row, []) := by
 refine (orc_none rfl).trans ?_
 show lim tab.get S 111 0 0 [kA s.row, kA t.row] h0 = _
 rw [w111_0, b111_0]
 have e : ([.p (.int .i64 0), .p (.str []), .p .nilslice, .p .nilslice] : List Cell) = pcells (TT.row nulT) := by rw [z4_row]; rfl
 rw [e]
 simp (config := { maxSteps := 10000000 }) +contextual only [exa, ne_eq, not_false_eq_true, Nat.reduceAdd, Nat.reduceMul, Nat.reduceLT, Nat.reduceLeDiff, Nat.reduceEqDiff, Int.reduceLT, Int.reduceLE, Int.reduceEq, Int.reduceToNat]
 exact open_loop s hl 0 t _ (by simp only [exa, ne_eq, not_false_eq_true, Nat.reduceAdd, Nat.reduceMul, Nat.reduceLT, Nat.reduceLeDiff, Nat.reduceEqDiff, Int.reduceLT, Int.reduceLE, Int.reduceEq, Int.reduceToNat]) (by simp only [exa, ne_eq, not_false_eq_true, Nat.reduceAdd, Nat.reduceMul, Nat.reduceLT, Nat.reduceLeDiff, Nat.reduceEqDiff, Int.reduceLT, Int.reduceLE, Int.reduceEq, Int.reduceToNat]) (by simp only [exa, ne_eq, not_false_eq_true, Nat.reduceAdd, Nat.reduceMul, Nat.reduceLT, Nat.reduceLeDiff, Nat.reduceEqDiff, Int.reduceLT, Int.reduceLE, Int.reduceEq, Int.reduceToNat])
theorem u111 {β : Type} {k : TVal → Heap → Option β} {h : Heap} {d : Nat} (s : ST) (t : TT) (hl : s.types.len < 4611686018427387904) : vcall Om (.v (.c (.func 111 []))) [kA s.row, kA t.row] h d k = k (kA (openM s t).row) h := vcall_pure 111 _ _ (by simp only [exP]) (open_ok s t hl) (by simp only [exP])
end Go.Proofs.YtlkejchbcchecaaDoor.Ab
