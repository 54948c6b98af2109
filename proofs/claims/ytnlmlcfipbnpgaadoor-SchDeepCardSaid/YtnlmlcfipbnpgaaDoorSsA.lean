/- Where the contracts stand: the program's machine, of the seat of schemas. -/
import Derived.Test.YtnlmlcfipbnpgaaDoorTabUW
import Derived.Test.YtnlmlcfipbnpgaaDoorVtB
set_option linter.all false
set_option linter.unusedVariables false
set_option linter.unusedSimpArgs false
set_option maxRecDepth 100000
namespace Go.Proofs.YtnlmlcfipbnpgaaDoor.Ab
open Go Go.AI
noncomputable def S : Oracle := orS (SI 98) (SJ 53)
noncomputable abbrev W : Mach := lim tab.get S
noncomputable abbrev Om : Oracle := orc S W
def withinM (a n : Int) : Int := if a.tmod n < 0 then a.tmod n + n else a.tmod n
theorem withinM_lt (a n : Int) (hn : 0 < n) : 0 ≤ withinM a n ∧ withinM a n < n := by
 have h1 := Int.tmod_lt_of_pos a hn
 have h2 : -n < a.tmod n := by
  have := Int.tmod_lt_of_pos (-a) hn
  rw [Int.neg_tmod] at this; omega
 unfold withinM
 split <;> omega
theorem within19 (a n : Int) (hn : 0 < n) (hs : n < 1000000) : Om 19 [kI a, kI n] [] = some (kI (withinM a n), []) := by
 refine (orc_none rfl).trans ?_
 show lim tab.get S 19 0 0 [kI a, kI n] h0 = _
 have hb := withinM_lt a n hn
 rw [w19_0, b19_0]
 unfold withinM at hb ⊢
 by_cases h : a.tmod n < 0
 ·rw [if_pos h] at hb ⊢
  have hw : IntKind.i64.wrap (a.tmod n + n) = a.tmod n + n := wrap_i64 _ (by omega) (by omega)
  simp (config := { maxSteps := 10000000 }) +contextual only [exa, ne_eq, not_false_eq_true, Nat.reduceAdd, Nat.reduceMul, Nat.reduceLT, Nat.reduceLeDiff, Nat.reduceEqDiff, Int.reduceLT, Int.reduceLE, Int.reduceEq, Int.reduceToNat, vbin_rem 0 .i64 a n (by omega), h, hw, oneOf]
 ·rw [if_neg h]
  simp (config := { maxSteps := 10000000 }) +contextual only [exa, ne_eq, not_false_eq_true, Nat.reduceAdd, Nat.reduceMul, Nat.reduceLT, Nat.reduceLeDiff, Nat.reduceEqDiff, Int.reduceLT, Int.reduceLE, Int.reduceEq, Int.reduceToNat, vbin_rem 0 .i64 a n (by omega), h, oneOf]
theorem u19 {β : Type} {k : TVal → Heap → Option β} {h : Heap} {d : Nat} (a n : Int) (hn : 0 < n) (hs : n < 1000000) : vcall Om (.v (.c (.func 19 []))) [kI a, kI n] h d k = k (kI (withinM a n)) h := vcall_pure 19 _ _ rfl (within19 a n hn hs) rfl
theorem known10 : Om 10 [] [] = some (kB true, []) := (orc_none rfl).trans (machU_le blks_ok 3000 10 0 0 _ _ _ (by kernel_rfl))
end Go.Proofs.YtnlmlcfipbnpgaaDoor.Ab
