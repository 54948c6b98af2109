/- Builtin functions of values: places. -/
import Derived.Test.YtiahgnkffnokfaaGreatDoorDgQ
set_option linter.all false
set_option linter.unusedVariables false
set_option linter.unusedSimpArgs false
set_option maxRecDepth 100000
namespace Go.Proofs.YtiahgnkffnokfaaGreatDoor.Ab
open Go Go.AI
def getF (v : VT) (key : List UInt8) (i : Nat) : Option VT := if v.kind = 5 then (idxM key (v.keys.list.drop i)).bind fun j => (v.l.list.drop i)[j]? else none
theorem getF_zero (v : VT) (key : List UInt8) : getF v key 0 = getM v key := by unfold getF getM; rw [List.drop_zero, List.drop_zero]
theorem rget_none (h : Heap) (a4 : h.get (.own 4 1) = some (.cells [.p (.int .i64 0), .p (.bool false), .p (.int .i64 0), .p (.str []), .p .nilslice, .p .nilslice] 0)) : lim tab.get S 19 0 2 [.v (.c (.ptr (.own 4 1) 0))] h = some (ansG none, []) := by
 rw [w19_2, b19_2]
 simp (config := { maxSteps := 10000000 }) +contextual only [exa, ne_eq, not_false_eq_true, Nat.reduceAdd, Nat.reduceMul, Nat.reduceLT, Nat.reduceLeDiff, Nat.reduceEqDiff, Int.reduceLT, Int.reduceLE, Int.reduceEq, Int.reduceToNat, a4]
 rfl
theorem rget_loop (v : VT) (key : List UInt8) (h : Heap) (a2 : h.get (.own 2 1) = some (.cells (pcells v.row) 0)) (a4 : h.get (.own 4 1) = some (.cells [.p (.int .i64 0), .p (.bool false), .p (.int .i64 0), .p (.str []), .p .nilslice, .p .nilslice] 0)) (hb : v.keys.len ≤ 1000) :
  ∀ i : Nat, lim tab.get S 19 0 1 [kS key, s2, .v (.c (.ptr (.own 4 1) 0)), kI (i : Int)] h = some (ansG (getF v key i), []) := by
 refine loop_up v.keys.len (fun i hi => ?_) (fun i hi ih => ?_) <;> rw [w19_1, b19_1]
 ·have h1 : ¬ (i : Int) < (v.keys.len : Int) := by omega
  have : getF v key i = none := by unfold getF; rw [at_end hi]; split <;> rfl
  rw [this]
  simp (config := { maxSteps := 10000000 }) +contextual only [exa, ne_eq, not_false_eq_true, Nat.reduceAdd, Nat.reduceMul, Nat.reduceLT, Nat.reduceLeDiff, Nat.reduceEqDiff, Int.reduceLT, Int.reduceLE, Int.reduceEq, Int.reduceToNat, a2, a4, h1]
  exact rget_none h a4
 ·have h1 : (i : Int) < (v.keys.len : Int) := by omega
  obtain ⟨x, hx, e1, _⟩ := at_step hi
  by_cases hl : i < v.l.len
  ·have hl' : (i : Int) < (v.l.len : Int) := by omega
   obtain ⟨y, hy, e2, _⟩ := at_step (l := v.l.list) (i := i) hl
   by_cases hk : v.kind = 5
   ·by_cases hxy : x = key
    ·have : getF v key i = some y := by unfold getF; rw [if_pos hk, e1, e2, idxM, if_pos hxy.symm]; rfl
     rw [this]
     simp (config := { maxSteps := 10000000 }) +contextual only [exa, ne_eq, not_false_eq_true, Nat.reduceAdd, Nat.reduceMul, Nat.reduceLT, Nat.reduceLeDiff, Nat.reduceEqDiff, Int.reduceLT, Int.reduceLE, Int.reduceEq, Int.reduceToNat, a2, a4, h1, hl', hk, hx, hy, hxy, put1_z6 _ (VT.row_len y)]
     rfl
    ·have : getF v key i = getF v key (i + 1) := by
      unfold getF
      rw [if_pos hk, if_pos hk, e1, e2, idxM, if_neg (fun e => hxy e.symm)]
      cases idxM key (v.keys.list.drop (i + 1)) <;> rfl
     rw [this]
     simp (config := { maxSteps := 10000000 }) +contextual only [exa, ne_eq, not_false_eq_true, Nat.reduceAdd, Nat.reduceMul, Nat.reduceLT, Nat.reduceLeDiff, Nat.reduceEqDiff, Int.reduceLT, Int.reduceLE, Int.reduceEq, Int.reduceToNat, a2, a4, h1, hl', hk, hx, hy, hxy, wrapS i (by omega), ih]
   ·have : getF v key i = none := by unfold getF; rw [if_neg hk]
    rw [this]
    simp (config := { maxSteps := 10000000 }) +contextual only [exa, ne_eq, not_false_eq_true, Nat.reduceAdd, Nat.reduceMul, Nat.reduceLT, Nat.reduceLeDiff, Nat.reduceEqDiff, Int.reduceLT, Int.reduceLE, Int.reduceEq, Int.reduceToNat, a2, a4, h1, hl', hk]
    exact rget_none h a4
  ·have hl' : ¬ (i : Int) < (v.l.len : Int) := by omega
   have : getF v key i = none := by
    unfold getF
    rw [at_end (l := v.l.list) (i := i) (by unfold Sl.len at hl; omega)]
    split
    ·cases idxM key (v.keys.list.drop i) <;> rfl
    ·rfl
   rw [this]
   simp (config := { maxSteps := 10000000 }) +contextual only [exa, ne_eq, not_false_eq_true, Nat.reduceAdd, Nat.reduceMul, Nat.reduceLT, Nat.reduceLeDiff, Nat.reduceEqDiff, Int.reduceLT, Int.reduceLE, Int.reduceEq, Int.reduceToNat, a2, a4, h1, hl']
   exact rget_none h a4
theorem rget_ok (v : VT) (key : List UInt8) (hb : v.keys.len ≤ 1000) : Om 19 [kA v.row, kS key] [] = some (ansG (getM v key), []) := by
 refine (orc_none rfl).trans ?_
 show lim tab.get S 19 0 0 [kA v.row, kS key] h0 = _
 rw [w19_0, b19_0]
 simp (config := { maxSteps := 10000000 }) +contextual only [exa, ne_eq, not_false_eq_true, Nat.reduceAdd, Nat.reduceMul, Nat.reduceLT, Nat.reduceLeDiff, Nat.reduceEqDiff, Int.reduceLT, Int.reduceLE, Int.reduceEq, Int.reduceToNat]
 rw [← getF_zero]
 exact rget_loop v key _ rfl rfl hb 0
theorem u39 {β : Type} {k : TVal → Heap → Option β} {h : Heap} {d : Nat} (v : VT) (key : List UInt8) (hb : v.keys.len ≤ 1000) : vcall Om (.v (.c (.func 19 []))) [kA v.row, kS key] h d k = k (ansG (getM v key)) h :=
 vcall_pure 19 _ _ (by simp only [exP]) (rget_ok v key hb) (by cases getM v key <;> simp only [ansG, exP])
theorem within12 (a n : Int) (hn : 0 < n) (hs : n < 1000000) : Om 12 [kI a, kI n] [] = some (kI (withinM a n), []) := by
 refine (orc_none rfl).trans ?_
 show lim tab.get S 12 0 0 [kI a, kI n] h0 = _
 have hb := withinM_lt a n hn
 rw [w12_0, b12_0]
 unfold withinM at hb ⊢
 by_cases h : a.tmod n < 0
 ·rw [if_pos h] at hb ⊢
  have hw : IntKind.i64.wrap (a.tmod n + n) = a.tmod n + n := wrap_i64 _ (by omega) (by omega)
  simp (config := { maxSteps := 10000000 }) +contextual only [exa, ne_eq, not_false_eq_true, Nat.reduceAdd, Nat.reduceMul, Nat.reduceLT, Nat.reduceLeDiff, Nat.reduceEqDiff, Int.reduceLT, Int.reduceLE, Int.reduceEq, Int.reduceToNat, vbin_rem 0 .i64 a n (by omega), h, hw, oneOf]
 ·rw [if_neg h]
  simp (config := { maxSteps := 10000000 }) +contextual only [exa, ne_eq, not_false_eq_true, Nat.reduceAdd, Nat.reduceMul, Nat.reduceLT, Nat.reduceLeDiff, Nat.reduceEqDiff, Int.reduceLT, Int.reduceLE, Int.reduceEq, Int.reduceToNat, vbin_rem 0 .i64 a n (by omega), h, oneOf]
theorem u12 {β : Type} {k : TVal → Heap → Option β} {h : Heap} {d : Nat} (a n : Int) (hn : 0 < n) (hs : n < 1000000) : vcall Om (.v (.c (.func 12 []))) [kI a, kI n] h d k = k (kI (withinM a n)) h := vcall_pure 12 _ _ rfl (within12 a n hn hs) rfl
theorem known11 : Om 11 [] [] = some (kB true, []) := (orc_none rfl).trans (machU_le blks_ok 3000 11 0 0 _ _ _ (by kernel_rfl))
end Go.Proofs.YtiahgnkffnokfaaGreatDoor.Ab
