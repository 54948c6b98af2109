/- Builtin functions of values: places. -/
import Derived.Test.YtiahgnkffnokfaaGreatDoorDgQ
set_option linter.all false
set_option linter.unusedVariables false
set_option linter.unusedSimpArgs false
set_option maxRecDepth 100000
namespace Go.Proofs.YtiahgnkffnokfaaGreatDoor.Ab
open Go Go.AI
theorem within12 (a n : Int) (hn : 0 < n) (hs : n < 1000000) : Om 12 [kI a, kI n] [] = some (kI (withinM a n), []) := by
 refine (orc_none rfl).trans ?_
 show lim tab.get S 12 0 0 [kI a, kI n] h0 = _
 have hb := withinM_lt a n hn
 rw [w12_0, b12_0]
 unfold withinM at hb ⊢
 by_cases h : a.tmod n < 0
 ·rw [if_pos h] at hb ⊢
  have hw : IntKind.i64.wrap (a.tmod n + n) = a.tmod n + n := wrap_i64 _ (by omega) (by omega)
  simp (config := { maxSteps := 10000000 }) +contextual only [exa, ne_eq, not_false_eq_true, Nat.reduceAdd, Nat.reduceMul, Nat.reduceLT, Nat.reduceLeDiff, Nat.reduceEqDiff, Int.reduceLT, Int.reduceLE, Int.reduceEq, Int.reduceToNat, vbin_rem 0 .i64 a n (by omega), h, hw, oneOf]
 ·rw [if_neg h]
  simp (config := { maxSteps := 10000000 }) +contextual only [exa, ne_eq, not_false_eq_true, Nat.reduceAdd, Nat.reduceMul, Nat.reduceLT, Nat.reduceLeDiff, Nat.reduceEqDiff, Int.reduceLT, Int.reduceLE, Int.reduceEq, Int.reduceToNat, vbin_rem 0 .i64 a n (by omega), h, oneOf]
theorem u12 {β : Type} {k : TVal → Heap → Option β} {h : Heap} {d : Nat} (a n : Int) (hn : 0 < n) (hs : n < 1000000) : vcall Om (.v (.c (.func 12 []))) [kI a, kI n] h d k = k (kI (withinM a n)) h := vcall_pure 12 _ _ rfl (within12 a n hn hs) rfl
theorem known11 : Om 11 [] [] = some (kB true, []) := (orc_none rfl).trans (machU_le blks_ok 3000 11 0 0 _ _ _ (by kernel_rfl))
end Go.Proofs.YtiahgnkffnokfaaGreatDoor.Ab
